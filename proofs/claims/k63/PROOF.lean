import PyProof.Rows.All
import HandS.ForMost
import HandS.ForExc
import HandS.Flow
import HandS.ExcCtx
import HandS.Wide
import HandS.TupAny
import HandS.TupMul
import HandS.TupLe
import HandS.Deep
import HandS.IsInst
import HandS.Style
import HandS.Zip
import HandS.Conv
import HandS.SortRule
import HandS.SortInts
import HandS.TupLen
import HandS.WordsDict
import HandS.SortOrd
import HandS.SetFor
import HandS.EndBits
import HandS.Defaults
import HandS.HeadEnd
import HandS.RaiseMore
import HandS.FStrTup
import HandS.Strs
import HandS.TupSets
import KE.GoesEnum
import HandS.HotCalls
import HandS.ExcIs
import HandS.HeadHook1
import HandS.ExcBuiltin
import HandS.HeadHook2
import KE.KStateDown
import HandS.Ends
import HandS.More
import HandS.Words
import HandS.WordsExc
import HandS.Head0
import HandS.Head1
import HandS.Head2
import PySem.Challenge.RW_huelists_k63_what_follows_for_sure
section 
set_option Elab.async false
set_option linter.all false
/-! PfA: own values, store, syntax, and an interpreter of the Python subset that the texts use. -/
namespace Pf
open PySem

inductive D where
  | non
  | bl (b : Bool)
  | int (i : Int)
  | str (z : List Nat)
  | tup (xs : List D)
  | lst (xs : List D)
  | dic (t : Bool) (ks vs : List D)
  | ref (i : Nat)
  | scr (ns : List Int)
  | exc (c : Nat) (x : D)

inductive O where
  | lst (xs : List D)
  | dic (t : Bool) (ks vs : List D)
  | ins (c : Nat) (fs : List D)

abbrev Env := List (Option D)
abbrev Sto := List O

inductive Out (α : Type) where
  | ok (a : α) (S : Sto)
  | exn (c : Nat) (x : D) (S : Sto)
  | stuck

def Out.bind {α β : Type} : Out α → (α → Sto → Out β) → Out β
  | .ok a S, f => f a S
  | .exn c x S, _ => .exn c x S
  | .stuck, _ => .stuck
def Out.opt {α : Type} (S : Sto) : Option α → Out α
  | some a => .ok a S
  | none => .stuck
@[simp] theorem Out.ok_bind {α β : Type} (a : α) (S : Sto) (f : α → Sto → Out β) : (Out.ok a S).bind f = f a S := rfl
@[simp] theorem Out.exn_bind {α β : Type} (c : Nat) (x : D) (S : Sto) (f : α → Sto → Out β) : (Out.exn c x S).bind f = .exn c x S := rfl
@[simp] theorem Out.opt_some {α : Type} (a : α) (S : Sto) : Out.opt S (some a) = .ok a S := rfl

inductive Res where
  | nx (ρ : Env) (S : Sto)
  | rt (d : D) (S : Sto)
  | bk (ρ : Env) (S : Sto)
  | ct (ρ : Env) (S : Sto)
  | ex (c : Nat) (x : D) (ρ : Env) (S : Sto)
  | stuck

/-! ### syntax -/
inductive Bop where
  | add | sub | mul | fdiv | mod | pow | shl
  deriving DecidableEq
inductive Cop where
  | eq | ne | lt | le | gt | ge | is | isnot | isin | notin
  deriving DecidableEq
inductive Ty where
  | int | bool | str | tuple | dict
  deriving DecidableEq
/-- built-in functions -/
inductive Bi where
  | len | abs | all | any | sum | max1 | min1 | max2 | min2 | int | str | repr
  | list | tuple | dict | dictT | sorted | sortedSet | lenSet | divmod | listRange | tupRange
  deriving DecidableEq
/-- methods of built-in types -/
inductive Mt where
  | append | extend | insert | pop0 | pop1 | dpop | remove | count | index | tindex | get2 | join | split | upper | values
  deriving DecidableEq
inductive Tgt where
  | nm (i : Nat)
  | tp (is : List Nat)

mutual
inductive Exp where
  | var (i : Nat)
  | cst (d : D)
  | glb (x : String) (d : D)
  | tup (es : List Exp)
  | lst (es : List Exp)
  | dic (t : Bool) (kvs : List Exp)
  | bin (op : Bop) (a b : Exp)
  | neg (a : Exp)
  | not (a : Exp)
  | and (a b : Exp)
  | or (a b : Exp)
  | cmp (op : Cop) (a b : Exp)
  | chain (op op' : Cop) (a b c : Exp)
  | chain3 (op op' op'' : Cop) (a b c d : Exp)
  | ite (c a b : Exp)
  | idx (a b : Exp)
  | slc (a : Exp) (lo hi : Option Exp)
  | rev (a : Exp)
  | call (f : Nat) (es : List Exp)
  | bi (f : Bi) (es : List Exp)
  | isi (t : Ty) (a : Exp)
  | isx (c : Nat) (a : Exp)
  | meth (m : Mt) (o : Exp) (es : List Exp)
  | comp (elt : Exp) (tg : Tgt) (it : Itr) (c : Option Exp)
  | mut (e : Exp)
  | fld (o : Exp) (k : Nat)
  | meth' (f : Nat) (es : List Exp)
inductive Itr where
  | it (e : Exp)
  | rng1 (e : Exp)
  | rng2 (a b : Exp)
  | enum (e : Exp)
  | zip (a b : Exp)
end

inductive Stm where
  | pass
  | never
  | expr (e : Exp)
  | asg (i : Nat) (e : Exp)
  | asgT (is : List Nat) (e : Exp)
  | par (is : List Nat) (es : List Exp)
  | asgSub (o k e : Exp)
  | swp (o k o' k' e e' : Exp)
  | asgFld (o : Exp) (k : Nat) (e : Exp)
  | ret (e : Exp)
  | retN
  | ite (c : Exp) (a b : List Stm)
  | wh (c : Exp) (b : List Stm)
  | for (tg : Tgt) (it : Itr) (b : List Stm)
  | brk
  | cnt
  | raise (c : Nat) (e : Option Exp)
  | try (b : List Stm) (i : Nat) (cs : List Nat) (h : List Stm)

/-! ### data -/
def big : Nat := 16777216
mutual
def D.eqv : D → D → Bool
  | .non, .non => true
  | .bl a, .bl b => a == b
  | .bl a, .int j => (if a then 1 else 0) == j
  | .int i, .bl b => i == (if b then 1 else 0)
  | .int i, .int j => i == j
  | .str x, .str y => x == y
  | .lst xs, .lst ys => D.eqvL xs ys
  | .tup xs, .tup ys => D.eqvL xs ys
  | _, _ => false
def D.eqvL : List D → List D → Bool
  | [], [] => true
  | x :: xs, y :: ys => D.eqv x y && D.eqvL xs ys
  | _, _ => false
end
/-- data without names of the store, dicts; at most so deep -/
def D.plain : Nat → D → Bool
  | 0, _ => false
  | _ + 1, .non => true
  | _ + 1, .bl _ => true
  | _ + 1, .int _ => true
  | _ + 1, .str z => z.all fun c => decide (c < 1114112)
  | n + 1, .tup xs => xs.all (D.plain n)
  | n + 1, .lst xs => xs.all (D.plain n)
  | _ + 1, _ => false
/-- a name of the store stands for what is there -/
def res (S : Sto) : D → D
  | .ref i => match S[i]? with
    | some (.lst xs) => .lst xs
    | some (.dic t ks vs) => .dic t ks vs
    | _ => .ref i
  | d => d
/-- keys of dicts -/
def D.key0 : D → Bool
  | .int _ => true
  | .str _ => true
  | _ => false
def D.key : Bool → D → Bool
  | false, d => d.key0
  | true, .tup xs => xs.all D.key0
  | true, _ => false
def truth (S : Sto) (d : D) : Option Bool := match res S d with
  | .non => some false
  | .bl b => some b
  | .int i => some (i != 0)
  | .str z => if z.length ≤ big then some (!z.isEmpty) else none
  | .tup xs => some (!xs.isEmpty)
  | .lst xs => some (!xs.isEmpty)
  | _ => none
def lenOp (S : Sto) (d : D) : Option Nat := match res S d with
  | .str z => if z.length ≤ big then some z.length else none
  | .tup xs => some xs.length
  | .lst xs => some xs.length
  | .scr ns => some ns.length
  | .dic _ ks _ => some ks.length
  | _ => none
/-- the items of a list, a tuple -/
def seqOf (S : Sto) (d : D) : Option (List D) := match res S d with
  | .tup xs => some xs
  | .lst xs => some xs
  | _ => none
def lstOf (S : Sto) (d : D) : Option (List D) := match res S d with
  | .lst xs => some xs
  | _ => none
def intOf : D → Option Int
  | .int i => some i
  | _ => none
def blOf : D → Option Bool
  | .bl b => some b
  | _ => none
def strOf : D → Option (List Nat)
  | .str z => some z
  | _ => none
def tupOf : D → Option (List D)
  | .tup xs => some xs
  | _ => none
/-- all of a list, or nothing -/
def allOf {α β : Type} (f : α → Option β) : List α → Option (List β)
  | [] => some []
  | x :: xs => match f x, allOf f xs with
    | some y, some ys => some (y :: ys)
    | _, _ => none
def intsOf (d : D) : Option (List Int) := (tupOf d).bind (allOf intOf)
def eqOp (S : Sto) (a b : D) : Option Bool := if (res S a).plain 60 && (res S b).plain 60 then some ((res S a).eqv (res S b)) else none
/-- the order of tuples of ints -/
def lexLt : List Int → List Int → Bool
  | [], [] => false
  | [], _ :: _ => true
  | _ :: _, [] => false
  | x :: xs, y :: ys => if x = y then lexLt xs ys else decide (x < y)
def ltOp (a b : D) : Option Bool := match a, b with
  | .int i, .int j => some (decide (i < j))
  | a, b => match intsOf a, intsOf b with
    | some x, some y => some (lexLt x y)
    | _, _ => none
def leOp (a b : D) : Option Bool := match a, b with
  | .int i, .int j => some (decide (i ≤ j))
  | a, b => match intsOf a, intsOf b with
    | some x, some y => some (!lexLt y x)
    | _, _ => none
open Classical in
noncomputable def keyAt (ks vs : List D) (k : D) : Option D := ((ks.zip vs).find? fun p => decide (p.1 = k)).map (·.2)
open Classical in
noncomputable def keyPut (ks vs : List D) (k v : D) : List D × List D :=
  if k ∈ ks then (ks, List.zipWith (fun q w => if q = k then v else w) ks vs) else (ks ++ [k], vs ++ [v])
open Classical in
noncomputable def keyDrop (ks vs : List D) (k : D) : List D × List D := (ks.filter fun q => !decide (q = k), ((ks.zip vs).filter fun p => !decide (p.1 = k)).map (·.2))
noncomputable def inOp (S : Sto) (x y : D) : Option Bool := match res S y with
  | .tup xs => if x.plain 60 && xs.all (D.plain 60) then some (xs.any fun z => z.eqv x) else none
  | .lst xs => if x.plain 60 && xs.all (D.plain 60) then some (xs.any fun z => z.eqv x) else none
  | .dic t ks vs => if x.key t then some (keyAt ks vs x).isSome else none
  | .str z => match x with
    | .str [c] => some (decide (c ∈ z))
    | _ => none
  | _ => none
def isOp (a b : D) : Option Bool := match a, b with
  | .non, .non => some true
  | _, .non => some false
  | .bl x, .bl y => some (decide (x = y))
  | _, _ => none
noncomputable def cmpOp (S : Sto) : Cop → D → D → Option Bool
  | .eq, a, b => eqOp S a b
  | .ne, a, b => (eqOp S a b).map (!·)
  | .lt, a, b => ltOp a b
  | .le, a, b => leOp a b
  | .gt, .int i, .int j => some (decide (j < i))
  | .gt, _, _ => none
  | .ge, .int i, .int j => some (decide (j ≤ i))
  | .ge, _, _ => none
  | .is, a, b => isOp a b
  | .isnot, a, b => (isOp a b).map (!·)
  | .isin, a, b => inOp S a b
  | .notin, a, b => (inOp S a b).map (!·)
def mulOk (i j : Int) : Bool := decide (i.natAbs < 2 ^ 64) || decide (j.natAbs < 2 ^ 64) || decide (i.natAbs.log2 + j.natAbs.log2 < 1000000)
def binOp (S : Sto) (op : Bop) (a b : D) : Option D := match op, res S a, res S b with
  | .add, .int i, .int j => some (.int (i + j))
  | .add, .str x, .str y => if x.length + y.length ≤ big then some (.str (x ++ y)) else none
  | .add, .tup x, .tup y => if x.length + y.length ≤ big then some (.tup (x ++ y)) else none
  | .add, .lst x, .lst y => if x.length + y.length ≤ big then some (.lst (x ++ y)) else none
  | .sub, .int i, .int j => some (.int (i - j))
  | .mul, .int i, .int j => if mulOk i j then some (.int (i * j)) else none
  | .mul, .tup x, .int j => if -1000 ≤ j ∧ j ≤ 1000 ∧ x.length ≤ 1000 then some (.tup (List.replicate j.toNat x).flatten) else none
  | .mul, .lst x, .int j => if -1000 ≤ j ∧ j ≤ 1000 ∧ x.length ≤ 1000 then some (.lst (List.replicate j.toNat x).flatten) else none
  | .fdiv, .int i, .int j => if 0 < j ∧ j < 1073741824 then some (.int (i / j)) else none
  | .mod, .int i, .int j => if 0 < j then some (.int (i % j)) else none
  | .pow, .int i, .int j => if 0 ≤ j ∧ j ≤ 1000000 ∧ i.natAbs < 2 ^ 64 then some (.int (i ^ j.toNat)) else none
  | .shl, .int i, .int j => if 0 ≤ j ∧ j ≤ 1000000 ∧ i.natAbs < 2 ^ 64 then some (.int (i * 2 ^ j.toNat)) else none
  | _, _, _ => none
/-- the place that an index means -/
def ixOf (n : Nat) (i : Int) : Option Nat := if 0 ≤ i then (if i < n then some i.toNat else none) else if -(n : Int) ≤ i then some (i + n).toNat else none
def atOf {α : Type} (xs : List α) (i : Int) : Option α := (ixOf xs.length i).bind fun j => xs[j]?
noncomputable def idxOp (S : Sto) (a b : D) : Option D := match res S a, b with
  | .tup xs, .int i => atOf xs i
  | .lst xs, .int i => atOf xs i
  | .scr ns, .int i => (atOf ns i).map D.int
  | .str z, .int i => if z.length ≤ big then (atOf z i).map fun c => D.str [c] else none
  | .dic t ks vs, k => if k.key t then keyAt ks vs k else none
  | _, _ => none
def sIx (n d : Nat) : Option Int → Nat
  | none => d
  | some v => if v < 0 then (v + (n : Int)).toNat else min v.toNat n
def cut {α : Type} (xs : List α) (lo hi : Option Int) : List α := (xs.drop (sIx xs.length 0 lo)).take (sIx xs.length xs.length hi - sIx xs.length 0 lo)
def slcOp (S : Sto) (a : D) (lo hi : Option Int) : Option D := match res S a with
  | .tup xs => some (.tup (cut xs lo hi))
  | .lst xs => some (.lst (cut xs lo hi))
  | .str z => if z.length ≤ big then some (.str (cut z lo hi)) else none
  | _ => none
def revOp (S : Sto) (a : D) : Option D := match res S a with
  | .lst xs => some (.lst xs.reverse)
  | _ => none
def isTy (S : Sto) (t : Ty) (d : D) : Option Bool := match res S d with
  | .ref _ => none
  | .exc _ _ => none
  | .scr _ => none
  | .int _ => some (decide (t = .int))
  | .bl _ => some (decide (t = .bool) || decide (t = .int))
  | .str _ => some (decide (t = .str))
  | .tup _ => some (decide (t = .tuple))
  | .dic _ _ _ => some (decide (t = .dict))
  | .lst _ => some false
  | .non => some false
/-- the classes of exceptions: 0 the base, each other one straight under it, 99 ValueError -/
def isXc (c : Nat) : D → Option Bool
  | .exc k _ => some (decide (c = 0) || decide (c = 99) || decide (c = k))
  | _ => none
def sortI (l : List Int) : List Int := l.mergeSort fun a b => decide (a ≤ b)
def sortT (l : List (List Int)) : List (List Int) := l.mergeSort fun a b => !lexLt b a
def tupI (l : List Int) : D := .tup (l.map .int)
def pairOf : D → Option (Int × Int)
  | .tup [.int a, .int b] => some (a, b)
  | _ => none
def pairD (p : Int × Int) : D := .tup [.int p.1, .int p.2]
def pairLe (a b : Int × Int) : Bool := decide (a.1 < b.1) || (decide (a.1 = b.1) && decide (a.2 ≤ b.2))
def sortP (l : List (Int × Int)) : List (Int × Int) := l.mergeSort pairLe
def sortOp (xs : List D) : Option (List D) := match allOf intOf xs with
  | some ns => some ((sortI ns).map .int)
  | none => (allOf pairOf xs).map fun ps => (sortP ps).map pairD
def dedupI : List Int → List Int
  | [] => []
  | x :: xs => x :: (dedupI xs).filter (fun y => !(x == y))
def dedupP : List (Int × Int) → List (Int × Int)
  | [] => []
  | x :: xs => x :: (dedupP xs).filter (fun y => !(x == y))
def sortSetOp (xs : List D) : Option (List D) := match allOf intOf xs with
  | some ns => if ns.length < 64 then some ((sortI (dedupI ns)).map .int) else none
  | none => (allOf pairOf xs).bind fun ps => if ps.length < 64 ∧ (ps.all fun p => decide (0 ≤ p.1) && decide (p.1 < 64) && decide (0 ≤ p.2) && decide (p.2 < 64)) = true then some ((sortP (dedupP ps)).map pairD) else none
def maxI : List Int → Option Int
  | [] => none
  | x :: xs => some (xs.foldl max x)
def minI : List Int → Option Int
  | [] => none
  | x :: xs => some (xs.foldl min x)
def rangeI (a b : Int) : List D := (List.range (b - a).toNat).map fun (k : Nat) => D.int (a + (k : Int))
/-- figures of a number -/
def figs (n : Nat) : List Nat := (Nat.toDigits 10 n).map Char.toNat
def numText (i : Int) : List Nat := if i < 0 then 45 :: figs i.natAbs else figs i.natAbs
def isFig (c : Nat) : Bool := decide (48 ≤ c) && decide (c ≤ 57)
def numOf (z : List Nat) : Nat := z.foldl (fun n c => n * 10 + (c - 48)) 0
def joinText (sep : List Nat) : List (List Nat) → List Nat
  | [] => []
  | [x] => x
  | x :: y :: r => x ++ sep ++ joinText sep (y :: r)
def splitText (sep : Nat) : List Nat → List (List Nat)
  | [] => [[]]
  | c :: r => if c = sep then [] :: splitText sep r else match splitText sep r with
    | w :: ws => (c :: w) :: ws
    | [] => [[c]]
/-! ### texts of data -/
abbrev toS (z : List Nat) : Str := ⟨z.toArray⟩
mutual
def toPy : D → PyData
  | .non => .none
  | .bl b => .bool b
  | .int i => .int i
  | .str z => .str (toS z)
  | .tup xs => .tuple (toPyL xs)
  | .lst xs => .list (toPyL xs)
  | _ => .none
def toPyL : List D → List PyData
  | [] => []
  | x :: xs => toPy x :: toPyL xs
end
/-! how long a thing's text may be -/
mutual
def D.wt : D → Nat
  | .non => 8
  | .bl _ => 8
  | .int i => if i.natAbs.log2 < 1900 then 1950 else 1000000000
  | .str z => 10 * z.length + 10
  | .tup xs => 10 + D.wtL xs
  | .lst xs => 10 + D.wtL xs
  | _ => 1000000000
def D.wtL : List D → Nat
  | [] => 0
  | x :: xs => D.wt x + 4 + D.wtL xs
end
/-- a thing as repr shows it -/
def shownD (d : D) : List Nat := (toPy d).shown.cps.toList
def reprOk (d : D) : Bool := d.plain 60 && decide (d.wt ≤ 16000000)
def small (i : Int) : Bool := decide (i.natAbs.log2 < 1900)
end Pf
end

section 
set_option Elab.async false
set_option linter.all false
/-! PfB: the interpreter. -/
namespace Pf
open PySem

def minOp (xs : List D) : Option D := ((allOf intOf xs).bind minI).map .int
def intText (z : List Nat) : Option D := if z.all isFig && !z.isEmpty && decide (z.length ≤ 600) then some (.int (numOf z)) else none
noncomputable def putAll (t : Bool) : List D → List D → List D → Option (List D × List D)
  | ks, vs, [] => some (ks, vs)
  | ks, vs, .tup [k, v] :: r => if k.key t then putAll t (keyPut ks vs k v).1 (keyPut ks vs k v).2 r else none
  | _, _, _ => none
def pairUp : List D → List D
  | k :: v :: r => .tup [k, v] :: pairUp r
  | _ => []
abbrev rgOk (i j : Int) : Prop := j - i < big ∧ -4611686018427387904 < i ∧ i < 4611686018427387904 ∧ -4611686018427387904 < j ∧ j < 4611686018427387904
def setOp (S : Sto) (d : D) : Option D := match d with
  | .tup xs => (allOf intOf xs).bind fun ns => if ns.length < 64 then some (.lst ((sortI (dedupI ns)).map .int)) else none
  | d => ((lstOf S d).bind sortSetOp).map .lst
/-- what a thing is, one step inside tuples too -/
def dres (S : Sto) : D → D
  | .tup xs => .tup (xs.map (res S))
  | d => res S d
noncomputable def biOp (S : Sto) : Bi → List D → Option D
  | .len, [d] => (lenOp S d).map fun n => .int n
  | .abs, [.int i] => some (.int (if i < 0 then -i else i))
  | .all, [d] => ((lstOf S d).bind (allOf blOf)).map fun bs => .bl (bs.all id)
  | .any, [d] => ((lstOf S d).bind (allOf blOf)).map fun bs => .bl (bs.any id)
  | .sum, [d] => ((lstOf S d).bind (allOf intOf)).map fun ns => .int ns.sum
  | .max1, [d] => (((lstOf S d).bind (allOf intOf)).bind maxI).map .int
  | .min1, [d] => (lstOf S d).bind minOp
  | .max2, [.int i, .int j] => some (.int (if j > i then j else i))
  | .min2, [.int i, .int j] => some (.int (if j < i then j else i))
  | .int, [.int i] => some (.int i)
  | .int, [.bl b] => some (.int (if b then 1 else 0))
  | .str, [.int i] => if small i then some (.str (numText i)) else none
  | .str, [.str z] => some (.str z)
  | .repr, [d] => if reprOk (dres S d) then some (.str (shownD (dres S d))) else none
  | .list, [d] => match res S d with
    | .tup xs => some (.lst xs)
    | .lst xs => some (.lst xs)
    | _ => none
  | .tuple, [d] => (seqOf S d).map .tup
  | .dict, [d] => match res S d with
    | .dic false ks vs => some (.dic false ks vs)
    | _ => none
  | .dictT, [d] => (lstOf S d).bind fun xs => (putAll true [] [] xs).map fun p => .dic true p.1 p.2
  | .sorted, [.tup xs] => (allOf pairOf xs).map fun ps => .lst ((sortP ps).map pairD)
  | .sorted, [d] => ((lstOf S d).bind sortOp).map .lst
  | .sortedSet, [d] => setOp S d
  | .lenSet, [d] => ((seqOf S d).bind (allOf intOf)).map fun ns => .int (dedupI ns).length
  | .divmod, [.int i, .int j] => if 0 < j ∧ j < 1073741824 then some (.tup [.int (i / j), .int (i % j)]) else none
  | .listRange, [.int j] => if -1000000 < j ∧ j < big then some (.lst (rangeI 0 j)) else none
  | .listRange, [.int i, .int j] => if rgOk i j then some (.lst (rangeI i j)) else none
  | .tupRange, [.int j] => if -1000000 < j ∧ j < big then some (.tup (rangeI 0 j)) else none
  | .tupRange, [.int i, .int j] => if rgOk i j then some (.tup (rangeI i j)) else none
  | _, _ => none
def firstAt (p : D → Bool) : List D → Option Nat
  | [] => none
  | x :: xs => if p x then some 0 else (firstAt p xs).map (· + 1)
noncomputable def mtOp (S : Sto) : Mt → D → List D → Option (D × Sto)
  | .append, .ref i, [y] => match S[i]? with
    | some (.lst xs) => if xs.length < big then some (.non, S.set i (.lst (xs ++ [y]))) else none
    | _ => none
  | .extend, .ref i, [d] => match S[i]?, res S d with
    | some (.lst xs), .lst ys => if xs.length + ys.length ≤ big then some (.non, S.set i (.lst (xs ++ ys))) else none
    | _, _ => none
  | .insert, .ref i, [.int 0, y] => match S[i]? with
    | some (.lst xs) => if xs.length < big then some (.non, S.set i (.lst (y :: xs))) else none
    | _ => none
  | .pop0, .ref i, [] => match S[i]? with
    | some (.lst xs) => xs.getLast?.map fun y => (y, S.set i (.lst xs.dropLast))
    | _ => none
  | .pop1, .ref i, [.int j] => match S[i]? with
    | some (.lst xs) => (ixOf xs.length j).bind fun n => xs[n]?.map fun y => (y, S.set i (.lst (xs.eraseIdx n)))
    | _ => none
  | .dpop, .ref i, [k] => match S[i]? with
    | some (.dic t ks vs) => if k.key t then (keyAt ks vs k).map fun y => (y, S.set i (.dic t (keyDrop ks vs k).1 (keyDrop ks vs k).2)) else none
    | _ => none
  | .remove, .ref i, [.int k] => match S[i]? with
    | some (.lst xs) => (allOf intOf xs).bind fun ns => if k ∈ ns then some (.non, S.set i (.lst ((ns.erase k).map .int))) else none
    | _ => none
  | .tindex, .tup xs, [.int k] => (allOf intOf xs).bind fun ns => if k ∈ ns then some (.int (ns.idxOf k : Nat), S) else none
  | .count, d, [x] => (lstOf S d).bind fun xs => if x.plain 60 && xs.all (D.plain 60) then some (.int (xs.filter fun z => z.eqv x).length, S) else none
  | .index, d, [x] => (lstOf S d).bind fun xs => if x.plain 60 && xs.all (D.plain 60) then (firstAt (fun z => z.eqv x) xs).map fun n => (.int n, S) else none
  | .get2, d, [k, z] => match res S d with
    | .dic t ks vs => if k.key t then some ((keyAt ks vs k).getD z, S) else none
    | _ => none
  | .join, .str sep, [d] => ((lstOf S d).bind (allOf strOf)).bind fun ts => if (joinText sep ts).length ≤ 1000000 then some (.str (joinText sep ts), S) else none
  | .split, .str z, [.str [c]] => some (.lst ((splitText c z).map .str), S)
  | .upper, .str z, [] => if z.all fun c => decide (c < 128) then some (.str (z.map fun c => if 97 ≤ c ∧ c ≤ 122 then c - 32 else c), S) else none
  | _, _, _ => none

/-- the receiver's kind, ahead of the arguments -/
def mtTy (S : Sto) (m : Mt) (d : D) : Bool := match m, res S d with
  | .append, .lst _ => true
  | .extend, .lst _ => true
  | .insert, .lst _ => true
  | .pop0, .lst _ => true
  | .pop1, .lst _ => true
  | .remove, .lst _ => true
  | .count, .lst _ => true
  | .index, .lst _ => true
  | .tindex, .tup _ => true
  | .dpop, .dic _ _ _ => true
  | .get2, .dic _ _ _ => true
  | .join, .str _ => true
  | .split, .str _ => true
  | .upper, .str _ => true
  | _, _ => false

/-! ### what is walked: the items; which object of the store must stay -/
structure Wk where
  xs : List D
  gd : Option (Nat × O)
def Wk.ok (w : Wk) (S : Sto) : Prop := match w.gd with
  | none => True
  | some p => S[p.1]? = some p.2
def walkOf (S : Sto) (d : D) : Option Wk := match d with
  | .tup xs => some ⟨xs, none⟩
  | .lst xs => some ⟨xs, none⟩
  | .dic _ ks _ => none
  | .str z => none
  | .ref i => match S[i]? with
    | some (.lst xs) => some ⟨xs, some (i, .lst xs)⟩
    | some (.dic t ks vs) => none
    | _ => none
  | _ => none
def enumL (n : Nat) : List D → List D
  | [] => []
  | x :: xs => .tup [.int n, x] :: enumL (n + 1) xs
def walkEnum (S : Sto) (d : D) : Option Wk := match d with
  | .tup xs => some ⟨enumL 0 xs, none⟩
  | .lst xs => some ⟨enumL 0 xs, none⟩
  | .ref i => match S[i]? with
    | some (.lst xs) => some ⟨enumL 0 xs, some (i, .lst xs)⟩
    | _ => none
  | _ => none
def zipD (xs ys : List D) : List D := List.zipWith (fun a b => .tup [a, b]) xs ys
def walkZip (S : Sto) (x y : D) : Option Wk := match x, y with
  | .tup xs, .tup ys => some ⟨zipD xs ys, none⟩
  | .lst xs, .lst ys => some ⟨zipD xs ys, none⟩
  | .tup xs, .lst ys => some ⟨zipD xs ys, none⟩
  | _, _ => none

def setL : List Nat → List D → Env → Option Env
  | [], [], ρ => some ρ
  | i :: is, d :: ds, ρ => setL is ds (ρ.set i (some d))
  | _, _, _ => none
def Tgt.put (t : Tgt) (d : D) (ρ : Env) : Option Env := match t with
  | .nm i => some (ρ.set i (some d))
  | .tp is => (tupOf d).bind fun ds => setL is ds ρ
def Tgt.own : Tgt → List Nat
  | .nm i => [i]
  | .tp is => is
def wipe (ρ : Env) : List Nat → Env
  | [] => ρ
  | v :: vs => (wipe ρ vs).set v none

open Classical in
noncomputable def compL (f : D → Sto → Out (Option D)) (w : Wk) : List D → Sto → Out (List D)
  | [], S => if w.ok S then .ok [] S else .stuck
  | d :: ds, S => if w.ok S then match f d S with
      | .ok o S1 => (compL f w ds S1).bind fun ys S2 => .ok (o.toList ++ ys) S2
      | _ => .stuck
    else .stuck

mutual
noncomputable def ev (Φ : Nat → List D → Sto → Out D) : Exp → Env → Sto → Out D
  | .var i, ρ, S => Out.opt S (ρ[i]?.join)
  | .cst d, _, S => .ok d S
  | .glb _ d, _, S => .ok d S
  | .tup es, ρ, S => (evs Φ es ρ S).bind fun ds S1 => .ok (.tup ds) S1
  | .lst es, ρ, S => (evs Φ es ρ S).bind fun ds S1 => .ok (.lst ds) S1
  | .dic t kvs, ρ, S => (evs Φ kvs ρ S).bind fun ds S1 => Out.opt S1 ((putAll t [] [] (pairUp ds)).map fun p => .dic t p.1 p.2)
  | .bin op a b, ρ, S => (ev Φ a ρ S).bind fun x S1 => (ev Φ b ρ S1).bind fun y S2 => Out.opt S2 (binOp S2 op x y)
  | .neg a, ρ, S => (ev Φ a ρ S).bind fun x S1 => Out.opt S1 ((intOf x).map fun i => .int (-i))
  | .not a, ρ, S => (ev Φ a ρ S).bind fun x S1 => Out.opt S1 ((truth S1 x).map fun b => .bl (!b))
  | .and a b, ρ, S => (ev Φ a ρ S).bind fun x S1 => (Out.opt S1 (truth S1 x)).bind fun t S2 => if t = true then ev Φ b ρ S2 else .ok x S2
  | .or a b, ρ, S => (ev Φ a ρ S).bind fun x S1 => (Out.opt S1 (truth S1 x)).bind fun t S2 => if t = true then .ok x S2 else ev Φ b ρ S2
  | .cmp op a b, ρ, S => (ev Φ a ρ S).bind fun x S1 => (ev Φ b ρ S1).bind fun y S2 => Out.opt S2 ((cmpOp S2 op x y).map .bl)
  | .chain op op' a b c, ρ, S => (ev Φ a ρ S).bind fun x S1 => (ev Φ b ρ S1).bind fun y S2 => (Out.opt S2 (cmpOp S2 op x y)).bind fun t S3 =>
      if t = true then (ev Φ c ρ S3).bind fun z S4 => Out.opt S4 ((cmpOp S4 op' y z).map .bl) else .ok (.bl false) S3
  | .chain3 op op' op'' a b c d, ρ, S => (ev Φ a ρ S).bind fun x S1 => (ev Φ b ρ S1).bind fun y S2 => (Out.opt S2 (cmpOp S2 op x y)).bind fun t S3 =>
      if t = true then (ev Φ c ρ S3).bind fun z S4 => (Out.opt S4 (cmpOp S4 op' y z)).bind fun t' S5 =>
        if t' = true then (ev Φ d ρ S5).bind fun u S6 => Out.opt S6 ((cmpOp S6 op'' z u).map .bl) else .ok (.bl false) S5 else .ok (.bl false) S3
  | .ite c a b, ρ, S => (ev Φ c ρ S).bind fun x S1 => (Out.opt S1 (truth S1 x)).bind fun t S2 => if t = true then ev Φ a ρ S2 else ev Φ b ρ S2
  | .idx a b, ρ, S => (ev Φ a ρ S).bind fun x S1 => (ev Φ b ρ S1).bind fun y S2 => Out.opt S2 (idxOp S2 x y)
  | .slc a lo hi, ρ, S => (ev Φ a ρ S).bind fun x S1 => (evo Φ lo ρ S1).bind fun l S2 => (evo Φ hi ρ S2).bind fun h S3 => Out.opt S3 (slcOp S3 x l h)
  | .rev a, ρ, S => (ev Φ a ρ S).bind fun x S1 => Out.opt S1 (revOp S1 x)
  | .call f es, ρ, S => (evs Φ es ρ S).bind fun ds S1 => Φ f ds S1
  | .bi f es, ρ, S => (evs Φ es ρ S).bind fun ds S1 => Out.opt S1 (biOp S1 f ds)
  | .isi t a, ρ, S => (ev Φ a ρ S).bind fun x S1 => Out.opt S1 ((isTy S1 t x).map .bl)
  | .isx c a, ρ, S => (ev Φ a ρ S).bind fun x S1 => Out.opt S1 ((isXc c x).map .bl)
  | .meth m o es, ρ, S => (ev Φ o ρ S).bind fun x S1 => if mtTy S1 m x = true then (evs Φ es ρ S1).bind fun ds S2 => match mtOp S2 m x ds with
      | some (y, S3) => .ok y S3
      | none => .stuck
    else .stuck
  | .comp elt tg it c, ρ, S => (evIt Φ it ρ S).bind fun w S1 => (compL (fun d S => match tg.put d (wipe ρ tg.own) with
      | some ρ' => (evc Φ c ρ' S).bind fun t S2 => if t = true then (ev Φ elt ρ' S2).bind fun y S3 => .ok (some y) S3 else .ok none S2
      | none => .stuck) w w.xs S1).bind fun ds S2 => .ok (.lst ds) S2
  | .mut e, ρ, S => (ev Φ e ρ S).bind fun x S1 => match x with
    | .lst xs => .ok (.ref S1.length) (S1 ++ [.lst xs])
    | .dic t ks vs => .ok (.ref S1.length) (S1 ++ [.dic t ks vs])
    | _ => .stuck
  | .fld o k, ρ, S => (ev Φ o ρ S).bind fun x S1 => match x with
    | .ref i => match S1[i]? with
      | some (.ins _ fs) => Out.opt S1 (fs[k]?)
      | _ => .stuck
    | .exc _ x => if k = 0 then .ok x S1 else .stuck
    | _ => .stuck
  | .meth' f es, ρ, S => (evs Φ es ρ S).bind fun ds S1 => Φ f ds S1
noncomputable def evs (Φ : Nat → List D → Sto → Out D) : List Exp → Env → Sto → Out (List D)
  | [], _, S => .ok [] S
  | e :: es, ρ, S => (ev Φ e ρ S).bind fun d S1 => (evs Φ es ρ S1).bind fun ds S2 => .ok (d :: ds) S2
noncomputable def evo (Φ : Nat → List D → Sto → Out D) : Option Exp → Env → Sto → Out (Option Int)
  | none, _, S => .ok none S
  | some e, ρ, S => (ev Φ e ρ S).bind fun d S1 => Out.opt S1 ((intOf d).map some)
noncomputable def evc (Φ : Nat → List D → Sto → Out D) : Option Exp → Env → Sto → Out Bool
  | none, _, S => .ok true S
  | some e, ρ, S => (ev Φ e ρ S).bind fun d S1 => Out.opt S1 (truth S1 d)
noncomputable def evIt (Φ : Nat → List D → Sto → Out D) : Itr → Env → Sto → Out Wk
  | .it e, ρ, S => (ev Φ e ρ S).bind fun d S1 => Out.opt S1 (walkOf S1 d)
  | .rng1 e, ρ, S => (ev Φ e ρ S).bind fun d S1 => Out.opt S1 ((intOf d).bind fun j => if -1000000 < j ∧ j < big then some ⟨rangeI 0 j, none⟩ else none)
  | .rng2 a b, ρ, S => (ev Φ a ρ S).bind fun x S1 => (ev Φ b ρ S1).bind fun y S2 => Out.opt S2 ((intOf x).bind fun i => (intOf y).bind fun j =>
      if rgOk i j then some ⟨rangeI i j, none⟩ else none)
  | .enum e, ρ, S => (ev Φ e ρ S).bind fun d S1 => Out.opt S1 (walkEnum S1 d)
  | .zip a b, ρ, S => (ev Φ a ρ S).bind fun x S1 => (ev Φ b ρ S1).bind fun y S2 => Out.opt S2 (walkZip S2 x y)
end

/-! ### statements -/
open Classical in
noncomputable def forL (f : D → Env → Sto → Res) (w : Wk) : List D → Env → Sto → Res
  | [], ρ, S => if w.ok S then .nx ρ S else .stuck
  | d :: ds, ρ, S => if w.ok S then match f d ρ S with
      | .nx ρ' S' => forL f w ds ρ' S'
      | .ct ρ' S' => forL f w ds ρ' S'
      | .bk ρ' S' => .nx ρ' S'
      | .rt d S' => .rt d S'
      | .ex c x ρ' S' => .ex c x ρ' S'
      | .stuck => .stuck
    else .stuck
def whileN (c : Env → Sto → Out Bool) (b : Env → Sto → Res) : Nat → Env → Sto → Option Res
  | 0, _, _ => none
  | n + 1, ρ, S => match c ρ S with
    | .ok false S1 => some (.nx ρ S1)
    | .ok true S1 => match b ρ S1 with
      | .nx ρ' S' => whileN c b n ρ' S'
      | .ct ρ' S' => whileN c b n ρ' S'
      | .bk ρ' S' => some (.nx ρ' S')
      | .rt d S' => some (.rt d S')
      | .ex k x ρ' S' => some (.ex k x ρ' S')
      | .stuck => some .stuck
    | .exn k x S1 => some (.ex k x ρ S1)
    | .stuck => some .stuck
open Classical in
noncomputable def whileL (c : Env → Sto → Out Bool) (b : Env → Sto → Res) (ρ : Env) (S : Sto) : Res :=
  if h : ∃ n r, whileN c b n ρ S = some r then h.choose_spec.choose else .stuck
noncomputable def Out.res {α : Type} (ρ : Env) (o : Out α) (f : α → Sto → Res) : Res := match o with
  | .ok a S => f a S
  | .exn c x S => .ex c x ρ S
  | .stuck => .stuck
@[simp] theorem Out.res_ok {α : Type} (ρ : Env) (a : α) (S : Sto) (f : α → Sto → Res) : (Out.ok a S).res ρ f = f a S := rfl
@[simp] theorem Out.res_exn {α : Type} (ρ : Env) (c : Nat) (x : D) (S : Sto) (f : α → Sto → Res) : (Out.exn c x S : Out α).res ρ f = .ex c x ρ S := rfl
def Res.seq : Res → (Env → Sto → Res) → Res
  | .nx ρ S, f => f ρ S
  | r, _ => r
@[simp] theorem Res.nx_seq (ρ : Env) (S : Sto) (f : Env → Sto → Res) : (Res.nx ρ S).seq f = f ρ S := rfl
@[simp] theorem Res.rt_seq (d : D) (S : Sto) (f : Env → Sto → Res) : (Res.rt d S).seq f = .rt d S := rfl
@[simp] theorem Res.bk_seq (ρ : Env) (S : Sto) (f : Env → Sto → Res) : (Res.bk ρ S).seq f = .bk ρ S := rfl
@[simp] theorem Res.ct_seq (ρ : Env) (S : Sto) (f : Env → Sto → Res) : (Res.ct ρ S).seq f = .ct ρ S := rfl
@[simp] theorem Res.ex_seq (c : Nat) (x : D) (ρ : Env) (S : Sto) (f : Env → Sto → Res) : (Res.ex c x ρ S).seq f = .ex c x ρ S := rfl
/-- o[k] = v -/
noncomputable def putOp (S : Sto) (o k v : D) : Option Sto := match o with
  | .ref i => match S[i]?, k with
    | some (.lst xs), .int j => (ixOf xs.length j).map fun n => S.set i (.lst (xs.set n v))
    | some (.dic t ks vs), k => if k.key t && decide (ks.length < 1000000) then some (S.set i (.dic t (keyPut ks vs k v).1 (keyPut ks vs k v).2)) else none
    | _, _ => none
  | _ => none
/-- xs[k] = v, a list of the store -/
def putL (S : Sto) (o k v : D) : Option Sto := match o with
  | .ref i => match S[i]?, k with
    | some (.lst xs), .int j => (ixOf xs.length j).map fun n => S.set i (.lst (xs.set n v))
    | _, _ => none
  | _ => none
noncomputable def fldOp (S : Sto) (o : D) (k : Nat) (v : D) : Option Sto := match o with
  | .ref i => match S[i]? with
    | some (.ins c fs) => if k ≤ fs.length then some (S.set i (.ins c (if k = fs.length then fs ++ [v] else fs.set k v))) else none
    | _ => none
  | _ => none
mutual
/-- no exception within -/
def D.nx : D → Bool
  | .tup xs => D.nxL xs
  | .lst xs => D.nxL xs
  | .dic _ _ vs => D.nxL vs
  | .exc _ _ => false
  | _ => true
def D.nxL : List D → Bool
  | [] => true
  | x :: xs => D.nx x && D.nxL xs
end
open Classical in
/-- the end of a suite: it hands back, and leaves the store -/
noncomputable def tryEnd (S : Sto) : Res → Res
  | .rt d S' => if S' = S ∧ d.nx = true then .rt d S else .stuck
  | _ => .stuck
noncomputable def tryR (cs : List Nat) (i : Nat) (r : Res) (h : Env → Sto → Res) : Res := match r with
  | .ex c .non ρ S => if c ∈ cs then tryEnd S (h (ρ.set i (some (.exc c .non))) S) else .stuck
  | .ex _ _ _ _ => .stuck
  | r => r
mutual
noncomputable def exec (Φ : Nat → List D → Sto → Out D) : Stm → Env → Sto → Res
  | .pass, ρ, S => .nx ρ S
  | .never, _, _ => .stuck
  | .expr e, ρ, S => (ev Φ e ρ S).res ρ fun _ S1 => .nx ρ S1
  | .asg i e, ρ, S => (ev Φ e ρ S).res ρ fun d S1 => .nx (ρ.set i (some d)) S1
  | .asgT is e, ρ, S => (ev Φ e ρ S).res ρ fun d S1 => match (Tgt.tp is).put d ρ with
    | some ρ' => .nx ρ' S1
    | none => .stuck
  | .par is es, ρ, S => (evs Φ es ρ S).res ρ fun ds S1 => match setL is ds ρ with
    | some ρ' => .nx ρ' S1
    | none => .stuck
  | .asgSub o k e, ρ, S => (ev Φ e ρ S).res ρ fun v S1 => (ev Φ o ρ S1).res ρ fun x S2 => (ev Φ k ρ S2).res ρ fun y S3 => match putOp S3 x y v with
    | some S4 => .nx ρ S4
    | none => .stuck
  | .swp o k o' k' e e', ρ, S => (ev Φ e ρ S).res ρ fun v S1 => (ev Φ e' ρ S1).res ρ fun v' S2 => (ev Φ o ρ S2).res ρ fun x S3 => (ev Φ k ρ S3).res ρ fun y S4 => match putL S4 x y v with
    | some S5 => (ev Φ o' ρ S5).res ρ fun x' S6 => (ev Φ k' ρ S6).res ρ fun y' S7 => match putL S7 x' y' v' with
      | some S8 => .nx ρ S8
      | none => .stuck
    | none => .stuck
  | .asgFld o k e, ρ, S => (ev Φ e ρ S).res ρ fun v S1 => (ev Φ o ρ S1).res ρ fun x S2 => match fldOp S2 x k v with
    | some S3 => .nx ρ S3
    | none => .stuck
  | .ret e, ρ, S => (ev Φ e ρ S).res ρ fun d S1 => .rt d S1
  | .retN, _, S => .rt .non S
  | .ite c a b, ρ, S => (ev Φ c ρ S).res ρ fun x S1 => match truth S1 x with
    | some true => execs Φ a ρ S1
    | some false => execs Φ b ρ S1
    | none => .stuck
  | .wh c b, ρ, S => whileL (fun ρ S => (ev Φ c ρ S).bind fun x S1 => Out.opt S1 (truth S1 x)) (fun ρ S => execs Φ b ρ S) ρ S
  | .for tg it b, ρ, S => (evIt Φ it ρ S).res ρ fun w S1 => forL (fun d ρ S => match tg.put d ρ with
      | some ρ' => execs Φ b ρ' S
      | none => .stuck) w w.xs ρ S1
  | .brk, ρ, S => .bk ρ S
  | .cnt, ρ, S => .ct ρ S
  | .raise c none, ρ, S => .ex c .non ρ S
  | .raise c (some e), ρ, S => (ev Φ e ρ S).res ρ fun d S1 => .ex c d ρ S1
  | .try b i cs h, ρ, S => tryR cs i (execs Φ b ρ S) (fun ρ S => execs Φ h ρ S)
noncomputable def execs (Φ : Nat → List D → Sto → Out D) : List Stm → Env → Sto → Res
  | [], ρ, S => .nx ρ S
  | s :: ss, ρ, S => (exec Φ s ρ S).seq fun ρ' S' => execs Φ ss ρ' S'
end

/-! ### calls -/
mutual
/-- names of the store lie below n -/
def D.lo (n : Nat) : D → Bool
  | .tup xs => D.loL n xs
  | .lst xs => D.loL n xs
  | .dic _ ks vs => D.loL n ks && D.loL n vs
  | .ref i => decide (i < n)
  | .exc _ x => D.lo n x
  | _ => true
def D.loL (n : Nat) : List D → Bool
  | [] => true
  | x :: xs => D.lo n x && D.loL n xs
end
def O.lo (n : Nat) : O → Bool
  | .lst xs => D.loL n xs
  | .dic _ ks vs => D.loL n ks && D.loL n vs
  | .ins _ fs => D.loL n fs
/-- what was made in a call and is handed back stays as it is -/
def fz1 (S : Sto) (n : Nat) : D → D
  | .ref i => if i < n then .ref i else match S[i]? with
    | some (.lst xs) => .lst xs
    | some (.dic t ks vs) => .dic t ks vs
    | _ => .ref i
  | d => d
def fz (S : Sto) (n : Nat) : D → D
  | .tup xs => .tup (xs.map (fz1 S n))
  | d => fz1 S n d
/-- the store ahead of a call, behind it: what changed names nothing that was made in it -/
def Kept (S S' : Sto) : Prop := S.length ≤ S'.length ∧ ∀ i, i < S.length → S'[i]? = S[i]? ∨ ∃ o, S'[i]? = some o ∧ o.lo S.length = true
open Classical in
noncomputable def finV (S : Sto) (d : D) (S' : Sto) : Out D := if Kept S S' ∧ (fz S' S.length d).lo S.length = true then .ok (fz S' S.length d) (S'.take S.length) else .stuck
open Classical in
noncomputable def finK (S : Sto) (d : D) (S' : Sto) : Out D := match d with
  | .ref k => match S'[k]? with
    | some o => if Kept S S' ∧ S.length ≤ k ∧ o.lo S.length = true then .ok (.ref S.length) (S'.take S.length ++ [o]) else .stuck
    | none => .stuck
  | .tup (.ref k :: rest) => match S'[k]? with
    | some o => if Kept S S' ∧ S.length ≤ k ∧ o.lo S.length = true ∧ D.loL S.length rest = true then .ok (.tup (.ref S.length :: rest)) (S'.take S.length ++ [o]) else .stuck
    | none => .stuck
  | _ => .stuck
open Classical in
noncomputable def fin (keep : Bool) (S : Sto) : Res → Out D
  | .rt d S' => if keep = true then finK S d S' else finV S d S'
  | .nx _ S' => finV S .non S'
  | .ex c x _ S' => if Kept S S' ∧ x.lo S.length = true then .exn c x (S'.take S.length) else .stuck
  | _ => .stuck
structure Def where
  np : Nat
  ns : Nat
  keep : Bool
  body : List Stm
noncomputable def callD (Φ : Nat → List D → Sto → Out D) (d : Def) (args : List D) (S : Sto) : Out D :=
  if args.length = d.np then fin d.keep S (execs Φ d.body (args.map some ++ List.replicate (d.ns - d.np) none) S) else .stuck
noncomputable def runI (P : Nat → Def) : Nat → Nat → List D → Sto → Out D
  | 0, _, _, _ => .stuck
  | k + 1, f, args, S => callD (runI P k) (P f) args S
@[irreducible] noncomputable def run (P : Nat → Def) (k : Nat) : Nat → List D → Sto → Out D := runI P k
theorem run_zero (P : Nat → Def) (f : Nat) (args : List D) (S : Sto) : run P 0 f args S = .stuck := by unfold run; rfl
theorem run_succ (P : Nat → Def) (k f : Nat) (args : List D) (S : Sto) : run P (k + 1) f args S = callD (run P k) (P f) args S := by unfold run; rfl
end Pf
end

section 
set_option Elab.async false
set_option linter.all false
set_option maxRecDepth 100000
set_option maxHeartbeats 1000000
/-! PfC: what own values stand for in the abstract heap of the hand layer. -/
namespace Pf
open PySem PySem.Spec PyProof.Rows L2

abbrev St := L2.St
def kD : Key → D
  | .inl i => .int i
  | .inr x => .str x.cps.toList

/-- the store's places; places that are held back (lists that a comprehension fills) -/
structure Mu where
  nm : List Addr
  rs : List Addr
instance : Membership Addr Mu := ⟨fun μ a => a ∈ μ.nm ∨ a ∈ μ.rs⟩
abbrev Mu.push (μ : Mu) (p : Addr) : Mu := ⟨μ.nm ++ [p], μ.rs⟩
theorem Mu.nin {μ : Mu} {a : Addr} (h : a ∉ μ) : a ∉ μ.nm := fun z => h (Or.inl z)
mutual
inductive Rel (K : PySem.W.Frag) (ξ : List (Addr × Nat)) (μ : Mu) (H : Hp) : D → V → Prop
  | non : Rel K ξ μ H .non .non
  | bl (b : Bool) : Rel K ξ μ H (.bl b) (.bl b)
  | int (i : Int) : Rel K ξ μ H (.int i) (.int i)
  | str (z : List Nat) : Rel K ξ μ H (.str z) (.str (toS z))
  | tup {a : Addr} {xs : List V} {ds : List D} : a ∉ μ → H a = some (.tup xs) → RelL K ξ μ H ds xs → Rel K ξ μ H (.tup ds) (.ref a)
  | lst {a : Addr} {xs : List V} {ds : List D} : a ∉ μ → H a = some (.lst xs) → RelL K ξ μ H ds xs → Rel K ξ μ H (.lst ds) (.ref a)
  | dK {a : Addr} {kvs : List (Key × V)} {vs : List D} : a ∉ μ → H a = some (.dK kvs) → RelL K ξ μ H vs (kvs.map (·.2)) → Rel K ξ μ H (.dic false (kvs.map fun p => kD p.1) vs) (.ref a)
  | dT {a : Addr} {kvs : List (List Key × V)} {vs : List D} : a ∉ μ → H a = some (.dT kvs) → RelL K ξ μ H vs (kvs.map (·.2)) → Rel K ξ μ H (.dic true (kvs.map fun p => .tup (p.1.map kD)) vs) (.ref a)
  | ref {i : Nat} {a : Addr} : μ.nm[i]? = some a → Rel K ξ μ H (.ref i) (.ref a)
  | scr {a : Addr} {ns : List Int} : a ∉ μ → Rd H a (.lst (ns.map V.int)) → Rel K ξ μ H (.scr ns) (.ref a)
  | scrK {a : Addr} {ns : List Int} : (∀ H', SqL K H' a (ns.map V.int)) → Rel K ξ μ H (.scr ns) (.ref a)
  | exc {a : Addr} {c : Nat} : (a, c) ∈ ξ → Rel K ξ μ H (.exc c .non) (.ref a)
inductive RelL (K : PySem.W.Frag) (ξ : List (Addr × Nat)) (μ : Mu) (H : Hp) : List D → List V → Prop
  | nil : RelL K ξ μ H [] []
  | cons {d : D} {ds : List D} {v : V} {vs : List V} : Rel K ξ μ H d v → RelL K ξ μ H ds vs → RelL K ξ μ H (d :: ds) (v :: vs)
end

/-- what may have changed between two moments -/
structure Step (μ : Mu) (H : Hp) (μ' : Mu) (H' : Hp) : Prop where
  ext : ∃ ν, μ' = ⟨μ.nm ++ ν, μ.rs⟩ ∧ ∀ a ∈ ν, H a = none
  keep : ∀ a o, a ∉ μ.nm → H a = some o → H' a = some o
theorem Step.refl {μ : Mu} {H : Hp} : Step μ H μ H := ⟨⟨[], by simp, by simp⟩, fun _ _ _ h => h⟩
theorem Step.notin {μ μ' : Mu} {H H' : Hp} (s : Step μ H μ' H') {a : Addr} {o : HO} (h : a ∉ μ) (e : H a = some o) : a ∉ μ' := by
  obtain ⟨⟨ν, rfl, hν⟩, _⟩ := s
  rintro (hm | hm)
  · rcases List.mem_append.mp hm with q | q
    · exact h (Or.inl q)
    · rw [hν a q] at e; cases e
  · exact h (Or.inr hm)
theorem Step.get {μ μ' : Mu} {H H' : Hp} (s : Step μ H μ' H') {i : Nat} {a : Addr} (h : μ.nm[i]? = some a) : μ'.nm[i]? = some a := by
  obtain ⟨⟨ν, rfl, hν⟩, _⟩ := s
  obtain ⟨hl, _⟩ := List.getElem?_eq_some_iff.mp h
  show (μ.nm ++ ν)[i]? = _
  rw [List.getElem?_append_left hl]; exact h
theorem Step.trans {μ μ1 μ2 : Mu} {H H1 H2 : Hp} (s : Step μ H μ1 H1) (t : Step μ1 H1 μ2 H2) (nd : μ2.nm.Nodup) : Step μ H μ2 H2 := by
  obtain ⟨⟨ν, rfl, hν⟩, k1⟩ := s
  obtain ⟨⟨ν', rfl, hν'⟩, k2⟩ := t
  refine ⟨⟨ν ++ ν', by simp, fun a ha => ?_⟩, fun a o h e => k2 a o ?_ (k1 a o h e)⟩
  · rcases List.mem_append.mp ha with q | q
    · exact hν a q
    · cases e : H a with
      | none => rfl
      | some o =>
        by_cases hm : a ∈ μ.nm
        · have : a ∉ ν' := fun z => (List.nodup_append.mp nd).2.2 a (List.mem_append_left _ hm) a z rfl
          exact absurd q this
        · have := k1 a o hm e
          rw [hν' a q] at this; cases this
  · intro hm
    rcases List.mem_append.mp hm with q | q
    · exact h q
    · rw [hν a q] at e; cases e

theorem Rd.keep {H H' : Hp} {a : Addr} {u : HO} (k : ∀ o, H a = some o → H' a = some o) (r : Rd H a u) : Rd H' a u := by
  rcases r with r | ⟨o, r⟩
  · exact .inl (k _ r)
  · exact .inr ⟨o, k _ r⟩
section
variable {K : PySem.W.Frag} {ξ : List (Addr × Nat)} {μ μ' : Mu} {H H' : Hp}
mutual
theorem Rel.mono (s : Step μ H μ' H') : ∀ {d : D} {v : V}, Rel K ξ μ H d v → Rel K ξ μ' H' d v
  | _, _, .non => .non
  | _, _, .bl b => .bl b
  | _, _, .int i => .int i
  | _, _, .str z => .str z
  | _, _, .tup h e r => .tup (s.notin h e) (s.keep _ _ (Mu.nin h) e) (RelL.mono s r)
  | _, _, .lst h e r => .lst (s.notin h e) (s.keep _ _ (Mu.nin h) e) (RelL.mono s r)
  | _, _, .dK h e r => .dK (s.notin h e) (s.keep _ _ (Mu.nin h) e) (RelL.mono s r)
  | _, _, .dT h e r => .dT (s.notin h e) (s.keep _ _ (Mu.nin h) e) (RelL.mono s r)
  | _, _, .ref h => .ref (s.get h)
  | _, _, .scr h r => by
    refine .scr ?_ (Rd.keep (fun o e => s.keep _ o (Mu.nin h) e) r)
    rcases r with r | ⟨o, r⟩
    · exact s.notin h r
    · exact s.notin h r
  | _, _, .scrK h => .scrK h
  | _, _, .exc h => .exc h
theorem RelL.mono (s : Step μ H μ' H') : ∀ {ds : List D} {vs : List V}, RelL K ξ μ H ds vs → RelL K ξ μ' H' ds vs
  | _, _, .nil => .nil
  | _, _, .cons h r => .cons (Rel.mono s h) (RelL.mono s r)
end
end
section
variable {K : PySem.W.Frag} {ξ : List (Addr × Nat)} {μ : Mu} {H : Hp}
theorem RelL.length : ∀ {ds : List D} {vs : List V}, RelL K ξ μ H ds vs → ds.length = vs.length
  | _, _, .nil => rfl
  | _, _, .cons _ r => by simp [RelL.length r]
theorem RelL.get : ∀ {ds : List D} {vs : List V} {i : Nat} {d : D}, RelL K ξ μ H ds vs → ds[i]? = some d → ∃ v, vs[i]? = some v ∧ Rel K ξ μ H d v
  | _, _, _, _, .nil, e => by simp at e
  | _, _, 0, _, .cons h _, e => by simp at e; subst e; exact ⟨_, rfl, h⟩
  | _, _, i + 1, d, .cons _ r, e => by
    obtain ⟨v, h1, h2⟩ := RelL.get (i := i) (d := d) r (by simpa using e)
    exact ⟨v, by simpa using h1, h2⟩
theorem RelL.get' : ∀ {ds : List D} {vs : List V} {i : Nat} {v : V}, RelL K ξ μ H ds vs → vs[i]? = some v → ∃ d, ds[i]? = some d ∧ Rel K ξ μ H d v
  | _, _, _, _, .nil, e => by simp at e
  | _, _, 0, _, .cons h _, e => by simp at e; subst e; exact ⟨_, rfl, h⟩
  | _, _, i + 1, d, .cons _ r, e => by
    obtain ⟨v, h1, h2⟩ := RelL.get' (i := i) (v := d) r (by simpa using e)
    exact ⟨v, by simpa using h1, h2⟩
theorem RelL.append : ∀ {ds es : List D} {vs ws : List V}, RelL K ξ μ H ds vs → RelL K ξ μ H es ws → RelL K ξ μ H (ds ++ es) (vs ++ ws)
  | _, _, _, _, .nil, s => s
  | _, _, _, _, .cons h r, s => .cons h (RelL.append r s)
theorem RelL.take : ∀ {ds : List D} {vs : List V} (n : Nat), RelL K ξ μ H ds vs → RelL K ξ μ H (ds.take n) (vs.take n)
  | _, _, 0, _ => .nil
  | _, _, _ + 1, .nil => .nil
  | _, _, n + 1, .cons h r => .cons h (RelL.take n r)
theorem RelL.drop : ∀ {ds : List D} {vs : List V} (n : Nat), RelL K ξ μ H ds vs → RelL K ξ μ H (ds.drop n) (vs.drop n)
  | _, _, 0, r => r
  | _, _, _ + 1, .nil => .nil
  | _, _, n + 1, .cons _ r => RelL.drop n r
theorem RelL.set {d : D} {v : V} (h : Rel K ξ μ H d v) : ∀ {ds : List D} {vs : List V} (n : Nat), RelL K ξ μ H ds vs → RelL K ξ μ H (ds.set n d) (vs.set n v)
  | _, _, _, .nil => .nil
  | _, _, 0, .cons _ r => .cons h r
  | _, _, n + 1, .cons q r => .cons q (RelL.set h n r)
theorem RelL.eraseIdx : ∀ {ds : List D} {vs : List V} (n : Nat), RelL K ξ μ H ds vs → RelL K ξ μ H (ds.eraseIdx n) (vs.eraseIdx n)
  | _, _, _, .nil => .nil
  | _, _, 0, .cons _ r => r
  | _, _, n + 1, .cons q r => .cons q (RelL.eraseIdx n r)
theorem RelL.reverse : ∀ {ds : List D} {vs : List V}, RelL K ξ μ H ds vs → RelL K ξ μ H ds.reverse vs.reverse
  | _, _, .nil => .nil
  | _, _, .cons h r => by
    rw [List.reverse_cons, List.reverse_cons]
    exact (RelL.reverse r).append (.cons h .nil)
theorem RelL.dropLast {ds : List D} {vs : List V} (r : RelL K ξ μ H ds vs) : RelL K ξ μ H ds.dropLast vs.dropLast := by
  rw [List.dropLast_eq_take, List.dropLast_eq_take, r.length]
  exact r.take _
theorem RelL.rep {ds : List D} {vs : List V} (r : RelL K ξ μ H ds vs) : ∀ n : Nat, RelL K ξ μ H (List.replicate n ds).flatten (List.replicate n vs).flatten
  | 0 => by simpa using RelL.nil
  | n + 1 => by
    rw [List.replicate_succ, List.replicate_succ, List.flatten_cons, List.flatten_cons]
    exact r.append (RelL.rep r n)
theorem RelL.ints : ∀ (ns : List Int), RelL K ξ μ H (ns.map D.int) (ns.map V.int)
  | [] => .nil
  | n :: ns => .cons (.int n) (RelL.ints ns)
theorem RelL.strs : ∀ (ns : List (List Nat)), RelL K ξ μ H (ns.map D.str) (ns.map fun z => V.str (toS z))
  | [] => .nil
  | n :: ns => .cons (.str n) (RelL.strs ns)
theorem RelL.of_ints : ∀ {ds : List D} {vs : List V} {ns : List Int}, RelL K ξ μ H ds vs → allOf intOf ds = some ns → ds = ns.map D.int ∧ vs = ns.map V.int
  | _, _, ns, .nil, e => by cases e; exact ⟨rfl, rfl⟩
  | _, _, ns, .cons (d := d) (ds := ds) h r, e => by
    unfold allOf at e
    split at e
    · rename_i y ys h1 h2
      cases e
      obtain ⟨a, b⟩ := RelL.of_ints r h2
      cases d <;> simp only [intOf, Option.some.injEq, reduceCtorEq] at h1
      subst h1
      cases h
      rw [a, b]
      exact ⟨rfl, rfl⟩
    · cases e
theorem RelL.of_bls : ∀ {ds : List D} {vs : List V} {ns : List Bool}, RelL K ξ μ H ds vs → allOf blOf ds = some ns → ds = ns.map D.bl ∧ vs = ns.map V.bl
  | _, _, ns, .nil, e => by cases e; exact ⟨rfl, rfl⟩
  | _, _, ns, .cons (d := d) (ds := ds) h r, e => by
    unfold allOf at e
    split at e
    · rename_i y ys h1 h2
      cases e
      obtain ⟨a, b⟩ := RelL.of_bls r h2
      cases d <;> simp only [blOf, Option.some.injEq, reduceCtorEq] at h1
      subst h1
      cases h
      rw [a, b]
      exact ⟨rfl, rfl⟩
    · cases e
theorem RelL.of_strs : ∀ {ds : List D} {vs : List V} {ns : List (List Nat)}, RelL K ξ μ H ds vs → allOf strOf ds = some ns → ds = ns.map D.str ∧ vs = ns.map fun z => V.str (toS z)
  | _, _, ns, .nil, e => by cases e; exact ⟨rfl, rfl⟩
  | _, _, ns, .cons (d := d) (ds := ds) h r, e => by
    unfold allOf at e
    split at e
    · rename_i y ys h1 h2
      cases e
      obtain ⟨a, b⟩ := RelL.of_strs r h2
      cases d <;> simp only [strOf, Option.some.injEq, reduceCtorEq] at h1
      subst h1
      cases h
      rw [a, b]
      exact ⟨rfl, rfl⟩
    · cases e
end

/-! ### the store -/
def ORel (K : PySem.W.Frag) (ξ : List (Addr × Nat)) (ic : Nat → Addr) (fn : Nat → List Str) (μ : Mu) (H : Hp) (a : Addr) : O → Prop
  | .lst ds => ∃ xs, H a = some (.lst xs) ∧ RelL K ξ μ H ds xs
  | .dic false ks vs => ∃ kvs : List (Key × V), H a = some (.dK kvs) ∧ ks = kvs.map (fun p => kD p.1) ∧ RelL K ξ μ H vs (kvs.map (·.2))
  | .dic true ks vs => ∃ kvs : List (List Key × V), H a = some (.dT kvs) ∧ ks = kvs.map (fun p => .tup (p.1.map kD)) ∧ RelL K ξ μ H vs (kvs.map (·.2))
  | .ins c fs => ∃ (dx : Addr) (xs : List V), dx ∉ μ ∧ H dx = some (.own a) ∧ H a = some (.ins (ic c) dx ((fn c).zip xs)) ∧ RelL K ξ μ H fs xs
/-- what the own store stands for: ic the classes' places, fn their fields' names -/
structure Sim (K : PySem.W.Frag) (ξ : List (Addr × Nat)) (ic : Nat → Addr) (fn : Nat → List Str) (μ : Mu) (S : Sto) (H : Hp) : Prop where
  len : μ.nm.length = S.length
  nd : μ.nm.Nodup
  hel : ∀ a ∈ μ.rs, a ∉ μ.nm ∧ ∃ u, H a = some u
  obj : ∀ (i : Nat) (a : Addr) (o : O), μ.nm[i]? = some a → S[i]? = some o → ORel K ξ ic fn μ H a o
theorem hold_nin {μ : Mu} {H : Hp} {p a : Addr} {o : HO} (h : H p = none) (n : a ∉ μ) (e : H a = some o) : a ∉ (⟨μ.nm, p :: μ.rs⟩ : Mu) := by
  rintro (q | q)
  · exact n (Or.inl q)
  · rcases List.mem_cons.mp q with q | q
    · exact ne_of_none e h q
    · exact n (Or.inr q)
section
variable {K : PySem.W.Frag} {ξ : List (Addr × Nat)} {ic : Nat → Addr} {fn : Nat → List Str} {μ μ' : Mu} {S : Sto} {H H' : Hp} {p : Addr} {ho : HO}
theorem ORel.keep {o : O} {a : Addr} (s : Step μ H μ' H') (e : H' a = H a) (r : ORel K ξ ic fn μ H a o) : ORel K ξ ic fn μ' H' a o := by
  cases o with
  | lst ds => obtain ⟨xs, h, r⟩ := r; exact ⟨xs, e.trans h, r.mono s⟩
  | dic t ks vs =>
    cases t with
    | false => obtain ⟨xs, h, q, r⟩ := r; exact ⟨xs, e.trans h, q, r.mono s⟩
    | true => obtain ⟨xs, h, q, r⟩ := r; exact ⟨xs, e.trans h, q, r.mono s⟩
  | ins c fs =>
    obtain ⟨dx, xs, n, hd, h, r⟩ := r
    exact ⟨dx, xs, s.notin n hd, s.keep _ _ (Mu.nin n) hd, e.trans h, r.mono s⟩
theorem ORel.has {o : O} {a : Addr} (r : ORel K ξ ic fn μ H a o) : ∃ u, H a = some u := by
  cases o with
  | lst ds => obtain ⟨xs, h, _⟩ := r; exact ⟨_, h⟩
  | dic t ks vs =>
    cases t with
    | false => obtain ⟨xs, h, _⟩ := r; exact ⟨_, h⟩
    | true => obtain ⟨xs, h, _⟩ := r; exact ⟨_, h⟩
  | ins c fs => obtain ⟨dx, xs, _, _, h, _⟩ := r; exact ⟨_, h⟩
theorem Sim.at (s : Sim K ξ ic fn μ S H) {i : Nat} {o : O} (h : S[i]? = some o) : ∃ a, μ.nm[i]? = some a ∧ ORel K ξ ic fn μ H a o := by
  obtain ⟨hl, _⟩ := List.getElem?_eq_some_iff.mp h
  have h2 : i < μ.nm.length := by rw [s.len]; exact hl
  exact ⟨μ.nm[i], List.getElem?_eq_getElem h2, s.obj i _ o (List.getElem?_eq_getElem h2) h⟩
theorem Sim.has (s : Sim K ξ ic fn μ S H) {a : Addr} (h : a ∈ μ) : ∃ u, H a = some u := by
  rcases h with h | h
  · obtain ⟨i, hi, e⟩ := List.getElem_of_mem h
    have h2 : i < S.length := by rw [← s.len]; exact hi
    exact (s.obj i a S[i] (by rw [List.getElem?_eq_getElem hi, e]) (List.getElem?_eq_getElem h2)).has
  · exact (s.hel a h).2
theorem Sim.fresh (s : Sim K ξ ic fn μ S H) (h : H p = none) : p ∉ μ := fun hm => by
  obtain ⟨u, e⟩ := s.has hm
  rw [h] at e; cases e
theorem Step.alloc (h : H p = none) : Step μ H μ (upd H p ho) := ⟨⟨[], by simp, by simp⟩, fun a o _ e => by
  rw [upd_ne (ne_of_none e h)]; exact e⟩
theorem Step.write (h : p ∈ μ.nm) : Step μ H μ (upd H p ho) := ⟨⟨[], by simp, by simp⟩, fun a o n e => by
  rw [upd_ne (show a ≠ p from fun z => n (by rw [z]; exact h))]; exact e⟩
theorem upd_has {a : Addr} (h : ∃ u, H a = some u) : ∃ u, upd H p ho a = some u := by
  by_cases q : a = p
  · subst q; exact ⟨_, upd_same⟩
  · rw [upd_ne q]; exact h
theorem Sim.alloc (s : Sim K ξ ic fn μ S H) (h : H p = none) : Sim K ξ ic fn μ S (upd H p ho) :=
  ⟨s.len, s.nd, fun a ha => ⟨(s.hel a ha).1, upd_has (s.hel a ha).2⟩, fun i a o h1 h2 => by
    have r := s.obj i a o h1 h2
    obtain ⟨u, e⟩ := r.has
    exact r.keep (Step.alloc h) (upd_ne (ne_of_none e h))⟩
theorem Sim.put (s : Sim K ξ ic fn μ S H) {i : Nat} {o : O} (h : μ.nm[i]? = some p) (r : ORel K ξ ic fn μ (upd H p ho) p o) : Sim K ξ ic fn μ (S.set i o) (upd H p ho) := by
  have hi : i < μ.nm.length := (List.getElem?_eq_some_iff.mp h).1
  refine ⟨by rw [List.length_set]; exact s.len, s.nd, fun a ha => ⟨(s.hel a ha).1, upd_has (s.hel a ha).2⟩, fun j a o' h1 h2 => ?_⟩
  by_cases hj : j = i
  · subst hj
    rw [h] at h1; cases h1
    rw [List.getElem?_set_self (by rw [← s.len]; exact hi)] at h2
    cases h2
    exact r
  · rw [List.getElem?_set_ne (Ne.symm hj)] at h2
    have ne : a ≠ p := fun e => by
      subst e
      obtain ⟨h3, e3⟩ := List.getElem?_eq_some_iff.mp h1
      obtain ⟨h4, e4⟩ := List.getElem?_eq_some_iff.mp h
      exact hj ((List.getElem_inj s.nd).mp (e3.trans e4.symm))
    exact (s.obj j a o' h1 h2).keep (Step.write (List.mem_of_getElem? h)) (upd_ne ne)
theorem Step.push (h : H p = none) : Step μ H (μ.push p) (upd H p ho) := ⟨⟨[p], rfl, by simpa using h⟩, fun a o _ e => by
  rw [upd_ne (ne_of_none e h)]; exact e⟩
theorem Sim.push (s : Sim K ξ ic fn μ S H) {o : O} (h : H p = none) (r : ORel K ξ ic fn (μ.push p) (upd H p ho) p o) : Sim K ξ ic fn (μ.push p) (S ++ [o]) (upd H p ho) := by
  have np : p ∉ μ := s.fresh h
  refine ⟨by simp [s.len], List.nodup_append.mpr ⟨s.nd, by simp, fun a ha b hb => by
    rw [List.mem_singleton.mp hb]; rintro rfl; exact np (Or.inl ha)⟩, fun a ha => ⟨?_, upd_has (s.hel a ha).2⟩, fun j a o' h1 h2 => ?_⟩
  · intro q
    rcases List.mem_append.mp q with q | q
    · exact (s.hel a ha).1 q
    · rw [List.mem_singleton.mp q] at ha
      exact np (Or.inr ha)
  by_cases hj : j < μ.nm.length
  · have h1 : (μ.nm ++ [p])[j]? = some a := h1
    rw [List.getElem?_append_left hj] at h1
    rw [List.getElem?_append_left (by rw [← s.len]; exact hj)] at h2
    have q := s.obj j a o' h1 h2
    obtain ⟨u, e⟩ := q.has
    exact q.keep (Step.push h) (upd_ne (ne_of_none e h))
  · have h1 : (μ.nm ++ [p])[j]? = some a := h1
    rw [List.getElem?_append_right (by omega)] at h1
    rw [List.getElem?_append_right (by rw [← s.len]; omega)] at h2
    have e1 : j - μ.nm.length = 0 := by
      obtain ⟨h3, _⟩ := List.getElem?_eq_some_iff.mp h1
      simp at h3
      omega
    rw [e1] at h1
    rw [← s.len, e1] at h2
    simp at h1 h2
    subst h1 h2
    exact r
/-- a place is held back, filled, handed back -/
def Mu.hold (μ : Mu) (p : Addr) : Mu := ⟨μ.nm, p :: μ.rs⟩
mutual
theorem Rel.hold (h : H p = none) : ∀ {d : D} {v : V}, Rel K ξ μ H d v → Rel K ξ (μ.hold p) (upd H p ho) d v
  | _, _, .non => .non
  | _, _, .bl b => .bl b
  | _, _, .int i => .int i
  | _, _, .str z => .str z
  | _, _, .tup n e r => .tup (hold_nin h n e) ((upd_ne (ne_of_none e h)).trans e) (RelL.hold h r)
  | _, _, .lst n e r => .lst (hold_nin h n e) ((upd_ne (ne_of_none e h)).trans e) (RelL.hold h r)
  | _, _, .dK n e r => .dK (hold_nin h n e) ((upd_ne (ne_of_none e h)).trans e) (RelL.hold h r)
  | _, _, .dT n e r => .dT (hold_nin h n e) ((upd_ne (ne_of_none e h)).trans e) (RelL.hold h r)
  | _, _, .ref q => .ref q
  | _, _, .scr n r => by
    refine .scr ?_ (Rd.keep (fun o e => (upd_ne (ne_of_none e h)).trans e) r)
    rcases r with r | ⟨o, r⟩
    · exact hold_nin h n r
    · exact hold_nin h n r
  | _, _, .scrK q => .scrK q
  | _, _, .exc q => .exc q
theorem RelL.hold (h : H p = none) : ∀ {ds : List D} {vs : List V}, RelL K ξ μ H ds vs → RelL K ξ (μ.hold p) (upd H p ho) ds vs
  | _, _, .nil => .nil
  | _, _, .cons a r => .cons (Rel.hold h a) (RelL.hold h r)
end
theorem held_ne {a : Addr} (hp : p ∈ μ.rs) (n : a ∉ μ) : a ≠ p := fun e => n (Or.inr (by rw [e]; exact hp))
mutual
theorem Rel.fill (hp : p ∈ μ.rs) : ∀ {d : D} {v : V}, Rel K ξ μ H d v → Rel K ξ μ (upd H p ho) d v
  | _, _, .non => .non
  | _, _, .bl b => .bl b
  | _, _, .int i => .int i
  | _, _, .str z => .str z
  | _, _, .tup n e r => .tup n ((upd_ne (held_ne hp n)).trans e) (RelL.fill hp r)
  | _, _, .lst n e r => .lst n ((upd_ne (held_ne hp n)).trans e) (RelL.fill hp r)
  | _, _, .dK n e r => .dK n ((upd_ne (held_ne hp n)).trans e) (RelL.fill hp r)
  | _, _, .dT n e r => .dT n ((upd_ne (held_ne hp n)).trans e) (RelL.fill hp r)
  | _, _, .ref q => .ref q
  | _, _, .scr n r => .scr n (Rd.keep (fun o e => (upd_ne (held_ne hp n)).trans e) r)
  | _, _, .scrK q => .scrK q
  | _, _, .exc q => .exc q
theorem RelL.fill (hp : p ∈ μ.rs) : ∀ {ds : List D} {vs : List V}, RelL K ξ μ H ds vs → RelL K ξ μ (upd H p ho) ds vs
  | _, _, .nil => .nil
  | _, _, .cons a r => .cons (Rel.fill hp a) (RelL.fill hp r)
end
theorem free_nin {nm rs : List Addr} {a : Addr} (n : a ∉ (⟨nm, p :: rs⟩ : Mu)) : a ∉ (⟨nm, rs⟩ : Mu) := by
  rintro (q | q)
  · exact n (Or.inl q)
  · exact n (Or.inr (List.mem_cons_of_mem _ q))
mutual
theorem Rel.free {nm rs : List Addr} : ∀ {d : D} {v : V}, Rel K ξ ⟨nm, p :: rs⟩ H d v → Rel K ξ ⟨nm, rs⟩ H d v
  | _, _, .non => .non
  | _, _, .bl b => .bl b
  | _, _, .int i => .int i
  | _, _, .str z => .str z
  | _, _, .tup n e r => .tup (free_nin n) e (RelL.free r)
  | _, _, .lst n e r => .lst (free_nin n) e (RelL.free r)
  | _, _, .dK n e r => .dK (free_nin n) e (RelL.free r)
  | _, _, .dT n e r => .dT (free_nin n) e (RelL.free r)
  | _, _, .ref q => .ref q
  | _, _, .scr n r => .scr (free_nin n) r
  | _, _, .scrK q => .scrK q
  | _, _, .exc q => .exc q
theorem RelL.free {nm rs : List Addr} : ∀ {ds : List D} {vs : List V}, RelL K ξ ⟨nm, p :: rs⟩ H ds vs → RelL K ξ ⟨nm, rs⟩ H ds vs
  | _, _, .nil => .nil
  | _, _, .cons a r => .cons (Rel.free a) (RelL.free r)
end
theorem Sim.hold (s : Sim K ξ ic fn μ S H) (h : H p = none) : Sim K ξ ic fn (μ.hold p) S (upd H p ho) := by
  refine ⟨s.len, s.nd, fun a ha => ?_, fun i a o h1 h2 => ?_⟩
  · rcases List.mem_cons.mp ha with q | q
    · subst q
      exact ⟨fun z => s.fresh h (Or.inl z), _, upd_same⟩
    · exact ⟨(s.hel a q).1, upd_has (s.hel a q).2⟩
  · have r := s.obj i a o h1 h2
    obtain ⟨u, e⟩ := r.has
    have q : upd H p ho a = H a := upd_ne (ne_of_none e h)
    cases o with
    | lst ds => obtain ⟨xs, h, r⟩ := r; exact ⟨xs, q.trans h, r.hold ‹_›⟩
    | dic t ks vs =>
      cases t with
      | false => obtain ⟨xs, h, q', r⟩ := r; exact ⟨xs, q.trans h, q', r.hold ‹_›⟩
      | true => obtain ⟨xs, h, q', r⟩ := r; exact ⟨xs, q.trans h, q', r.hold ‹_›⟩
    | ins c fs =>
      obtain ⟨dx, xs, n, hd, h', r⟩ := r
      exact ⟨dx, xs, hold_nin h n hd, (upd_ne (ne_of_none hd h)).trans hd, q.trans h', r.hold h⟩
theorem Sim.fill (s : Sim K ξ ic fn μ S H) (hp : p ∈ μ.rs) : Sim K ξ ic fn μ S (upd H p ho) := by
  refine ⟨s.len, s.nd, fun a ha => ⟨(s.hel a ha).1, upd_has (s.hel a ha).2⟩, fun i a o h1 h2 => ?_⟩
  have r := s.obj i a o h1 h2
  have q : upd H p ho a = H a := upd_ne fun e => (s.hel p hp).1 (by rw [← e]; exact List.mem_of_getElem? h1)
  cases o with
  | lst ds => obtain ⟨xs, h, r⟩ := r; exact ⟨xs, q.trans h, r.fill hp⟩
  | dic t ks vs =>
    cases t with
    | false => obtain ⟨xs, h, q', r⟩ := r; exact ⟨xs, q.trans h, q', r.fill hp⟩
    | true => obtain ⟨xs, h, q', r⟩ := r; exact ⟨xs, q.trans h, q', r.fill hp⟩
  | ins c fs =>
    obtain ⟨dx, xs, n, hd, h', r⟩ := r
    exact ⟨dx, xs, n, (upd_ne (held_ne hp n)).trans hd, q.trans h', r.fill hp⟩
theorem Sim.free {nm rs : List Addr} (s : Sim K ξ ic fn ⟨nm, p :: rs⟩ S H) : Sim K ξ ic fn ⟨nm, rs⟩ S H := by
  refine ⟨s.len, s.nd, fun a ha => s.hel a (List.mem_cons_of_mem _ ha), fun i a o h1 h2 => ?_⟩
  have r := s.obj i a o h1 h2
  cases o with
  | lst ds => obtain ⟨xs, h, r⟩ := r; exact ⟨xs, h, r.free⟩
  | dic t ks vs =>
    cases t with
    | false => obtain ⟨xs, h, q', r⟩ := r; exact ⟨xs, h, q', r.free⟩
    | true => obtain ⟨xs, h, q', r⟩ := r; exact ⟨xs, h, q', r.free⟩
  | ins c fs =>
    obtain ⟨dx, xs, n, hd, h', r⟩ := r
    exact ⟨dx, xs, free_nin n, hd, h', r.free⟩
/-- the new object's relation is over the new places -/
theorem RelL.up (h : H p = none) {ds : List D} {xs : List V} (r : RelL K ξ μ H ds xs) : RelL K ξ μ (upd H p ho) ds xs := r.mono (Step.alloc h)
theorem Rel.up (h : H p = none) {d : D} {x : V} (r : Rel K ξ μ H d x) : Rel K ξ μ (upd H p ho) d x := r.mono (Step.alloc h)
end

/-! ### names -/
def SimE (K : PySem.W.Frag) (ξ : List (Addr × Nat)) (μ : Mu) (H : Hp) (ρ : Env) (σ : St) : Prop := ρ.length = σ.length ∧ ∀ (i : Nat) (d : D), ρ[i]? = some (some d) → ∃ v, σ[i]? = some (some v) ∧ Rel K ξ μ H d v
section
variable {K : PySem.W.Frag} {ξ : List (Addr × Nat)} {μ μ' : Mu} {H H' : Hp} {ρ : Env} {σ : St}
theorem SimE.mono (s : Step μ H μ' H') (e : SimE K ξ μ H ρ σ) : SimE K ξ μ' H' ρ σ := ⟨e.1, fun i d h => let ⟨v, h1, h2⟩ := e.2 i d h; ⟨v, h1, h2.mono s⟩⟩
theorem SimE.set {i : Nat} {d : D} {v : V} (e : SimE K ξ μ H ρ σ) (r : Rel K ξ μ H d v) : SimE K ξ μ H (ρ.set i (some d)) (σ.set i (some v)) := by
  refine ⟨by simp [e.1], fun j d' h => ?_⟩
  by_cases hj : j = i
  · subst hj
    obtain ⟨hl, _⟩ := List.getElem?_eq_some_iff.mp h
    rw [List.length_set] at hl
    rw [List.getElem?_set_self hl] at h
    cases h
    exact ⟨v, by rw [List.getElem?_set_self (by rw [← e.1]; exact hl)], r⟩
  · rw [List.getElem?_set_ne (Ne.symm hj)] at h
    rw [List.getElem?_set_ne (Ne.symm hj)]
    exact e.2 j d' h
theorem SimE.unset {i : Nat} (e : SimE K ξ μ H ρ σ) : SimE K ξ μ H (ρ.set i none) (σ.set i none) := by
  refine ⟨by simp [e.1], fun j d' h => ?_⟩
  by_cases hj : j = i
  · subst hj
    obtain ⟨hl, _⟩ := List.getElem?_eq_some_iff.mp h
    rw [List.length_set] at hl
    rw [List.getElem?_set_self hl] at h
    cases h
  · rw [List.getElem?_set_ne (Ne.symm hj)] at h
    rw [List.getElem?_set_ne (Ne.symm hj)]
    exact e.2 j d' h
theorem SimE.hold {p : Addr} {ho : HO} (h : H p = none) (e : SimE K ξ μ H ρ σ) : SimE K ξ (μ.hold p) (upd H p ho) ρ σ := ⟨e.1, fun i d q => let ⟨v, h1, h2⟩ := e.2 i d q; ⟨v, h1, h2.hold h⟩⟩
theorem SimE.fill {p : Addr} {ho : HO} (h : p ∈ μ.rs) (e : SimE K ξ μ H ρ σ) : SimE K ξ μ (upd H p ho) ρ σ := ⟨e.1, fun i d q => let ⟨v, h1, h2⟩ := e.2 i d q; ⟨v, h1, h2.fill h⟩⟩
theorem SimE.wipe (e : SimE K ξ μ H ρ σ) : ∀ vs : List Nat, SimE K ξ μ H (Pf.wipe ρ vs) (L2.wipe σ vs)
  | [] => e
  | v :: vs => (SimE.wipe e vs).unset
end
end Pf
end

section 
set_option Elab.async false
set_option linter.all false
set_option maxRecDepth 100000
set_option maxHeartbeats 1000000
/-! PfD: readings by the interpreter's word. -/
namespace Pf
open PySem PySem.Spec PyProof.Rows L2

/-- sizes that every held heap has -/
structure Sz (H : Hp) : Prop where
  lst : ∀ a xs, H a = some (.lst xs) → xs.length ≤ sizeLine
  tup : ∀ a xs, H a = some (.tup xs) → xs.length ≤ sizeLine
  dK : ∀ a kvs, H a = some (.dK kvs) → kvs.length ≤ sizeLine
  dT : ∀ a kvs, H a = some (.dT kvs) → kvs.length ≤ sizeLine
theorem sz_of {P : Program} {w : World} {H : Hp} {h : Heap} (ok : HOk P w H h) : Sz H :=
  ⟨fun a xs e => (ok a _ e).1, fun a xs e => (ok a _ e).1, fun a xs e => (ok a _ e).1, fun a xs e => (ok a _ e).1⟩

/-- what is fixed through a law: the written part, exception classes, own classes, their fields -/
structure Fx where
  K : PySem.W.Frag
  xc : Nat → Value
  ic : Nat → Addr
  fn : Nat → List Str
  xs : List (Addr × Nat) := []
abbrev Fx.Rel (F : Fx) := Pf.Rel F.K F.xs
abbrev Fx.RelL (F : Fx) := Pf.RelL F.K F.xs
abbrev Fx.Sim (F : Fx) := Pf.Sim F.K F.xs F.ic F.fn
/-- an exception of the class c, made of x -/
def ExR (F : Fx) (μ : Mu) (H : Hp) (c : Nat) (x : D) (cls : Value) (dd : Option Addr) : Prop :=
  cls = F.xc c ∧ ((x = .non ∧ dd = none) ∨ x ≠ .non ∧ ∃ da v, dd = some da ∧ da ∉ μ ∧ H da = some (.xd [("at", v)]) ∧ F.Rel μ H x v)
/-- what is reached from (μ, H): a state of the store S' -/
structure To (F : Fx) (μ : Mu) (H : Hp) (S' : Sto) (μ' : Mu) (H' : Hp) : Prop where
  sz : Sz H'
  st : Step μ H μ' H'
  sim : F.Sim μ' S' H'
/-- the wish for an outcome -/
def Wish {α β : Type} (F : Fx) (W : WX) (σ : St) (μ : Mu) (H : Hp) (R : Mu → Hp → α → β → Prop) (o : Out α) (Q : β → Hp → Prop) : Prop := match o with
  | .ok a S' => ∀ μ' H' b, To F μ H S' μ' H' → R μ' H' a b → Q b H'
  | .exn c x S' => ∀ μ' H' cls dd, To F μ H S' μ' H' → ExR F μ' H' c x cls dd → W cls dd σ H'
  | .stuck => False
/-- a state that the own one stands for -/
structure Cfg (F : Fx) (μ : Mu) (ρ : Env) (S : Sto) (σ : St) (H : Hp) : Prop where
  sim : F.Sim μ S H
  env : SimE F.K F.xs μ H ρ σ
abbrev SemE (α : Type) := Env → Sto → Out α
/-- the reading of an expression -/
def tG {α β : Type} (F : Fx) (W : WX) (R : Mu → Hp → α → β → Prop) (f : SemE α) : St → Hp → (β → Hp → Prop) → Prop := fun σ H Q =>
  Sz H → ∃ μ ρ S, Cfg F μ ρ S σ H ∧ Wish F W σ μ H R (f ρ S) Q
abbrev tE (F : Fx) (W : WX) (f : SemE D) : TE := tG F W F.Rel f
abbrev tA (F : Fx) (W : WX) (f : SemE (List D)) : TA := tG F W F.RelL f
abbrev tT (F : Fx) (W : WX) (f : SemE Bool) : TT := tG F W (fun _ _ a b => a = b) f
section
variable {X : Cx} {F : Fx} {W : WX} {e : Expr}
theorem pe_of {f : SemE D} (h : ∀ σ H Q μ ρ S, Sz H → Cfg F μ ρ S σ H → Wish F W σ μ H F.Rel (f ρ S) Q → ∃ t, PE X e t ∧ t σ H fun v H' => Sz H' → Q v H') : PE X e (tE F W f) := by
  refine ⟨fun pins s σ H Q I hq => ?_⟩
  obtain ⟨μ, ρ, S, c, w⟩ := hq (sz_of I.hok)
  obtain ⟨t, ht, q⟩ := h σ H Q μ ρ S (sz_of I.hok) c w
  exact thn (ht.run pins s σ H _ I q) fun u s1 ⟨v, H', I', r, q'⟩ => ⟨v, H', I', r, q' (sz_of I'.hok)⟩
theorem pt_of {f : SemE Bool} (h : ∀ σ H Q μ ρ S, Sz H → Cfg F μ ρ S σ H → Wish F W σ μ H (fun _ _ a b => a = b) (f ρ S) Q → ∃ t, PT X e t ∧ t σ H fun v H' => Sz H' → Q v H') : PT X e (tT F W f) := by
  refine ⟨fun pins s σ H Q I hq => ?_⟩
  obtain ⟨μ, ρ, S, c, w⟩ := hq (sz_of I.hok)
  obtain ⟨t, ht, q⟩ := h σ H Q μ ρ S (sz_of I.hok) c w
  exact thn (ht.run pins s σ H _ I q) fun u s1 ⟨H', I', q'⟩ => ⟨H', I', q' (sz_of I'.hok)⟩
theorem pw_of {f : SemE Bool} (h : ∀ σ H Q μ ρ S, Sz H → Cfg F μ ρ S σ H → Wish F W σ μ H (fun _ _ a b => a = b) (f ρ S) Q → ∃ t, PW X e t ∧ t σ H fun v H' => Sz H' → Q v H') : PW X e (tT F W f) := by
  refine ⟨fun whole pins s σ H Q I hq => ?_⟩
  obtain ⟨μ, ρ, S, c, w⟩ := hq (sz_of I.hok)
  obtain ⟨t, ht, q⟩ := h σ H Q μ ρ S (sz_of I.hok) c w
  exact thn (ht.run whole pins s σ H _ I q) fun u s1 ⟨H', I', q'⟩ => ⟨H', I', q' (sz_of I'.hok)⟩
theorem pa_of {es : List Expr} {f : SemE (List D)} (h : ∀ σ H Q μ ρ S, Sz H → Cfg F μ ρ S σ H → Wish F W σ μ H F.RelL (f ρ S) Q → ∃ t, PA X es t ∧ t σ H fun v H' => Sz H' → Q v H') : PA X es (tA F W f) := by
  refine ⟨fun pos pins s σ H Q I hq => ?_⟩
  obtain ⟨μ, ρ, S, c, w⟩ := hq (sz_of I.hok)
  obtain ⟨t, ht, q⟩ := h σ H Q μ ρ S (sz_of I.hok) c w
  exact thn (ht.run pos pins s σ H _ I q) fun u s1 ⟨v, H', I', r, q'⟩ => ⟨v, H', I', r, q' (sz_of I'.hok)⟩
end
section
variable {F : Fx} {W : WX} {σ : St} {μ : Mu} {H : Hp} {α β α' β' : Type} {R : Mu → Hp → α → β → Prop} {R' : Mu → Hp → α' → β' → Prop}
theorem To.refl {S : Sto} (z : Sz H) (s : F.Sim μ S H) : To F μ H S μ H := ⟨z, Step.refl, s⟩
theorem To.trans {S1 S2 : Sto} {μ1 μ2 : Mu} {H1 H2 : Hp} (a : To F μ H S1 μ1 H1) (b : To F μ1 H1 S2 μ2 H2) : To F μ H S2 μ2 H2 := ⟨b.sz, a.st.trans b.st b.sim.nd, b.sim⟩
/-- a wish behind a part that is through -/
theorem Wish.after {S1 : Sto} {μ1 : Mu} {H1 : Hp} {o : Out α} {Q : β → Hp → Prop} (t : To F μ H S1 μ1 H1) (h : Wish F W σ μ H R o Q) : Wish F W σ μ1 H1 R o Q := by
  cases o with
  | ok a S' => exact fun μ' H' b t' r => h μ' H' b (t.trans t') r
  | exn c x S' => exact fun μ' H' cls dd t' r => h μ' H' cls dd (t.trans t') r
  | stuck => exact h
theorem Wish.imp {o : Out α} {Q Q' : β → Hp → Prop} (h : Wish F W σ μ H R o Q) (i : ∀ b H', Q b H' → Q' b H') : Wish F W σ μ H R o Q' := by
  cases o with
  | ok a S' => exact fun μ' H' b t r => i _ _ (h μ' H' b t r)
  | exn c x S' => exact h
  | stuck => exact h
/-- a part, then what follows -/
theorem Wish.bind {o : Out α} {k : α → Sto → Out α'} {Q : β' → Hp → Prop} {Q1 : β → Hp → Prop} (h : Wish F W σ μ H R' (o.bind k) Q)
    (i : ∀ a S' μ' H' b, To F μ H S' μ' H' → R μ' H' a b → Wish F W σ μ' H' R' (k a S') Q → Q1 b H') : Wish F W σ μ H R o Q1 := by
  cases o with
  | ok a S' => exact fun μ' H' b t r => i a S' μ' H' b t r (Wish.after t h)
  | exn c x S' => exact h
  | stuck => exact h
/-- the last step of a wish: the outcome is known -/
theorem Wish.done {a : α} {S' : Sto} {Q : β → Hp → Prop} (h : Wish F W σ μ H R (.ok a S') Q) {μ' : Mu} {H' : Hp} {b : β} (st : Step μ H μ' H') (sim : F.Sim μ' S' H') (r : R μ' H' a b) : Sz H' → Q b H' := fun z => h μ' H' b ⟨z, st, sim⟩ r
theorem Wish.opt {S : Sto} {o : Option α} {Q : β → Hp → Prop} (h : Wish F W σ μ H R (Out.opt S o) Q) : ∃ a, o = some a ∧ Wish F W σ μ H R (.ok a S) Q := by
  cases o with
  | none => exact h.elim
  | some a => exact ⟨a, rfl, h⟩
/-- a part's reading from its wish -/
theorem tG.of {f : SemE α} {ρ : Env} {S : Sto} {Q : β → Hp → Prop} (c : Cfg F μ ρ S σ H) (h : Wish F W σ μ H R (f ρ S) Q) : tG F W R f σ H Q := fun _ => ⟨μ, ρ, S, c, h⟩
theorem Cfg.to {S S1 : Sto} {ρ : Env} {μ1 : Mu} {H1 : Hp} (c : Cfg F μ ρ S σ H) (t : To F μ H S1 μ1 H1) : Cfg F μ1 ρ S1 σ H1 := ⟨t.sim, c.env.mono t.st⟩
end
end Pf
end

section 
set_option Elab.async false
set_option linter.all false
set_option maxRecDepth 100000
set_option maxHeartbeats 1000000
/-! PfE: operators. -/
namespace Pf
open PySem PySem.Spec PyProof.Rows L2

section
variable {F : Fx} {μ : Mu} {S : Sto} {H : Hp} {d : D} {v : V}
theorem res_int {i : Int} (r : F.Rel μ H d v) (e : res S d = .int i) : v = .int i := by
  cases r with
  | int j => cases e; rfl
  | ref h => simp only [res] at e; split at e <;> cases e
  | _ => cases e
theorem res_str {z : List Nat} (r : F.Rel μ H d v) (e : res S d = .str z) : v = .str (toS z) := by
  cases r with
  | str j => cases e; rfl
  | ref h => simp only [res] at e; split at e <;> cases e
  | _ => cases e
theorem res_bl {b : Bool} (r : F.Rel μ H d v) (e : res S d = .bl b) : v = .bl b := by
  cases r with
  | bl j => cases e; rfl
  | ref h => simp only [res] at e; split at e <;> cases e
  | _ => cases e
theorem res_non (r : F.Rel μ H d v) (e : res S d = .non) : v = .non := by
  cases r with
  | non => rfl
  | ref h => simp only [res] at e; split at e <;> cases e
  | _ => cases e
theorem res_tup {xs : List D} (r : F.Rel μ H d v) (e : res S d = .tup xs) : ∃ a vs, v = .ref a ∧ a ∉ μ ∧ H a = some (.tup vs) ∧ F.RelL μ H xs vs := by
  cases r with
  | tup h1 h2 h3 => cases e; exact ⟨_, _, rfl, h1, h2, h3⟩
  | ref h => simp only [res] at e; split at e <;> cases e
  | _ => cases e
theorem res_lst {xs : List D} (s : F.Sim μ S H) (r : F.Rel μ H d v) (e : res S d = .lst xs) : ∃ a vs, v = .ref a ∧ H a = some (.lst vs) ∧ F.RelL μ H xs vs := by
  cases r with
  | lst h1 h2 h3 => cases e; exact ⟨_, _, rfl, h2, h3⟩
  | ref h =>
    simp only [res] at e
    split at e
    · rename_i ys hy
      cases e
      obtain ⟨a', h', o⟩ := s.at hy
      rw [h] at h'; cases h'
      obtain ⟨vs, h1, h2⟩ := o
      exact ⟨_, _, rfl, h1, h2⟩
    · cases e
    · cases e
  | _ => cases e
theorem res_dK {ks vs : List D} (s : F.Sim μ S H) (r : F.Rel μ H d v) (e : res S d = .dic false ks vs) : ∃ (a : Addr) (kvs : List (Key × V)), v = .ref a ∧ H a = some (.dK kvs) ∧ ks = kvs.map (fun p => kD p.1) ∧ F.RelL μ H vs (kvs.map (·.2)) := by
  cases r with
  | dK h1 h2 h3 => cases e; exact ⟨_, _, rfl, h2, rfl, h3⟩
  | ref h =>
    simp only [res] at e
    split at e
    · cases e
    · rename_i t ks' vs' hy
      cases e
      obtain ⟨a', h', o⟩ := s.at hy
      rw [h] at h'; cases h'
      obtain ⟨kvs, h1, h2, h3⟩ := o
      exact ⟨_, _, rfl, h1, h2, h3⟩
    · cases e
  | _ => cases e
theorem res_dT {ks vs : List D} (s : F.Sim μ S H) (r : F.Rel μ H d v) (e : res S d = .dic true ks vs) : ∃ (a : Addr) (kvs : List (List Key × V)), v = .ref a ∧ H a = some (.dT kvs) ∧ ks = kvs.map (fun p => .tup (p.1.map kD)) ∧ F.RelL μ H vs (kvs.map (·.2)) := by
  cases r with
  | dT h1 h2 h3 => cases e; exact ⟨_, _, rfl, h2, rfl, h3⟩
  | ref h =>
    simp only [res] at e
    split at e
    · cases e
    · rename_i t ks' vs' hy
      cases e
      obtain ⟨a', h', o⟩ := s.at hy
      rw [h] at h'; cases h'
      obtain ⟨kvs, h1, h2, h3⟩ := o
      exact ⟨_, _, rfl, h1, h2, h3⟩
    · cases e
  | _ => cases e
theorem res_scr {ns : List Int} (r : F.Rel μ H d v) (e : res S d = .scr ns) : ∃ a, v = .ref a ∧ SqL F.K H a (ns.map V.int) := by
  cases r with
  | scr h1 h2 => cases e; exact ⟨_, rfl, .inl h2⟩
  | scrK h => cases e; exact ⟨_, rfl, h H⟩
  | ref h => simp only [res] at e; split at e <;> cases e
  | _ => cases e
end

/-! ### data for == -/
theorem toPyL_eq : ∀ xs : List D, toPyL xs = xs.map toPy
  | [] => by simp [toPyL]
  | x :: xs => by simp [toPyL, toPyL_eq xs]
theorem depthAll_le {n : Nat} : ∀ {xs : List PyData}, (∀ x ∈ xs, x.depth ≤ n) → PyData.depthAll xs ≤ n
  | [], _ => by simp [PyData.depthAll]
  | x :: xs, h => by
    simp only [PyData.depthAll]
    exact Nat.max_le.mpr ⟨h x (by simp), depthAll_le fun y hy => h y (by simp [hy])⟩
theorem canLayAll_of : ∀ {xs : List PyData}, (∀ x ∈ xs, x.canLay0 = true) → PyData.canLayAll0 xs = true
  | [], _ => by simp [PyData.canLayAll0]
  | x :: xs, h => by
    simp only [PyData.canLayAll0, Bool.and_eq_true]
    exact ⟨h x (by simp), canLayAll_of fun y hy => h y (by simp [hy])⟩
theorem plain_py : ∀ {n : Nat} {d : D}, d.plain n = true → (toPy d).canLay0 = true ∧ (toPy d).depth ≤ n := by
  intro n
  induction n with
  | zero => intro d h; simp [D.plain] at h
  | succ n ih =>
    intro d h
    cases d with
    | non => simp [toPy, PyData.canLay0, PyData.depth]
    | bl b => simp [toPy, PyData.canLay0, PyData.depth]
    | int i => simp [toPy, PyData.canLay0, PyData.depth]
    | str z =>
      simp only [D.plain, List.all_eq_true, decide_eq_true_eq] at h
      simp only [toPy, PyData.canLay0, PyData.depth, PyData.strOk, Nat.zero_le, and_true, Array.all_eq_true, decide_eq_true_eq]
      intro i hi
      exact h _ (List.getElem_mem _)
    | tup xs =>
      simp only [D.plain, List.all_eq_true] at h
      simp only [toPy, PyData.canLay0, PyData.depth, toPyL_eq]
      exact ⟨canLayAll_of (by intro x hx; obtain ⟨y, hy, rfl⟩ := List.mem_map.mp hx; exact (ih (h y hy)).1), Nat.succ_le_succ (depthAll_le (by intro x hx; obtain ⟨y, hy, rfl⟩ := List.mem_map.mp hx; exact (ih (h y hy)).2))⟩
    | lst xs =>
      simp only [D.plain, List.all_eq_true] at h
      simp only [toPy, PyData.canLay0, PyData.depth, toPyL_eq]
      exact ⟨canLayAll_of (by intro x hx; obtain ⟨y, hy, rfl⟩ := List.mem_map.mp hx; exact (ih (h y hy)).1), Nat.succ_le_succ (depthAll_le (by intro x hx; obtain ⟨y, hy, rfl⟩ := List.mem_map.mp hx; exact (ih (h y hy)).2))⟩
    | _ => simp [D.plain] at h
theorem plain_shaped {d : D} (h : d.plain 60 = true) : SeqAt.shaped (toPy d) = true := by
  unfold SeqAt.shaped
  obtain ⟨h1, h2⟩ := plain_py h
  rw [h1, decide_eq_true (by omega)]
  rfl
theorem eqv_py : ∀ {n : Nat} {d e : D}, d.plain n = true → e.plain n = true → PyData.eqv (toPy d) (toPy e) = d.eqv e := by
  intro n
  induction n with
  | zero => intro d e h; simp [D.plain] at h
  | succ n ih =>
    have all : ∀ (xs ys : List D), (∀ x ∈ xs, x.plain n = true) → (∀ x ∈ ys, x.plain n = true) → PyData.eqvAll (toPyL xs) (toPyL ys) = D.eqvL xs ys := by
      intro xs
      induction xs with
      | nil => intro ys _ _; cases ys <;> simp [toPyL, PyData.eqvAll, D.eqvL]
      | cons x xs ihx =>
        intro ys h1 h2
        cases ys with
        | nil => simp [toPyL, PyData.eqvAll, D.eqvL]
        | cons y ys =>
          simp only [toPyL, PyData.eqvAll, D.eqvL]
          rw [ih (h1 x (by simp)) (h2 y (by simp)), ihx ys (fun z hz => h1 z (by simp [hz])) fun z hz => h2 z (by simp [hz])]
    intro d e h1 h2
    cases d <;> simp only [D.plain, Bool.false_eq_true, List.all_eq_true] at h1 <;> cases e <;> simp only [D.plain, Bool.false_eq_true, List.all_eq_true] at h2 <;>
      simp only [toPy, PyData.eqv, D.eqv] <;> first | exact all _ _ h1 h2 | skip
    · rename_i z z'
      by_cases q : z = z'
      · subst q; simp
      · rw [beq_eq_false_iff_ne.mpr q, beq_eq_false_iff_ne.mpr]
        intro w
        exact q (by simpa using w)
section
variable {F : Fx} {μ : Mu} {S : Sto} {H : Hp}
mutual
theorem Rel.dp : ∀ {d : D} {v : V} {n : Nat}, d.plain n = true → F.Rel μ H d v → Dp F.K H v (toPy d)
  | _, _, _, _, .non => by simp only [toPy]; exact .non
  | _, _, _, _, .bl b => by simp only [toPy]; exact .bl b
  | _, _, _, _, .int i => by simp only [toPy]; exact .int i
  | _, _, _, _, .str z => by simp only [toPy]; exact .str _
  | _, _, n + 1, h, .tup h1 h2 h3 => by
    simp only [D.plain, List.all_eq_true] at h
    simp only [toPy]
    exact .tup (.inl (.inl h2)) (RelL.dp (n := n) h h3)
  | _, _, n + 1, h, .lst h1 h2 h3 => by
    simp only [D.plain, List.all_eq_true] at h
    simp only [toPy]
    exact .lst (.inl (.inl h2)) (RelL.dp (n := n) h h3)
  | _, _, 0, h, .tup _ _ _ => by simp [D.plain] at h
  | _, _, 0, h, .lst _ _ _ => by simp [D.plain] at h
  | _, _, n, h, .dK _ _ _ => by cases n <;> simp [D.plain] at h
  | _, _, n, h, .dT _ _ _ => by cases n <;> simp [D.plain] at h
  | _, _, n, h, .ref _ => by cases n <;> simp [D.plain] at h
  | _, _, n, h, .scr _ _ => by cases n <;> simp [D.plain] at h
  | _, _, n, h, .scrK _ => by cases n <;> simp [D.plain] at h
  | _, _, n, h, .exc _ => by cases n <;> simp [D.plain] at h
theorem RelL.dp : ∀ {ds : List D} {vs : List V} {n : Nat}, (∀ x ∈ ds, x.plain n = true) → F.RelL μ H ds vs → DpAll F.K H vs (toPyL ds)
  | _, _, _, _, .nil => by simp only [toPyL]; exact .nil
  | _, _, _, h, .cons h1 h2 => by simp only [toPyL]; exact .cons (Rel.dp (h _ (by simp)) h1) (RelL.dp (fun x hx => h x (by simp [hx])) h2)
end
theorem res_dp {d : D} {v : V} {n : Nat} (s : F.Sim μ S H) (r : F.Rel μ H d v) (h : (res S d).plain n = true) : Dp F.K H v (toPy (res S d)) := by
  cases d with
  | ref i =>
    simp only [res] at h ⊢
    cases e : S[i]? with
    | none => rw [e] at h; cases n <;> simp [D.plain] at h
    | some o =>
      rw [e] at h
      cases o with
      | lst xs =>
        cases n with
        | zero => simp [D.plain] at h
        | succ n =>
          simp only [D.plain, List.all_eq_true] at h
          obtain ⟨a, vs, rfl, h1, h2⟩ := res_lst (d := .ref i) (xs := xs) s r (by simp [res, e])
          simp only [toPy]
          exact .lst (.inl (.inl h1)) (RelL.dp (n := n) h h2)
      | dic t ks vs => cases n <;> simp [D.plain] at h
      | ins c fs => cases n <;> simp [D.plain] at h
  | _ => exact Rel.dp h r
theorem res_dpL : ∀ {ds : List D} {vs : List V} {n : Nat}, F.Sim μ S H → (∀ x ∈ ds.map (res S), x.plain n = true) → F.RelL μ H ds vs → DpAll F.K H vs (toPyL (ds.map (res S)))
  | _, _, _, _, _, .nil => by simp only [List.map_nil, toPyL]; exact .nil
  | _, _, _, s, h, .cons h1 h2 => by
    simp only [List.map_cons, toPyL]
    exact .cons (res_dp s h1 (h _ (by simp))) (res_dpL s (fun x hx => h x (by rw [List.map_cons]; exact List.mem_cons_of_mem _ hx)) h2)
theorem dres_dp {d : D} {v : V} {n : Nat} (s : F.Sim μ S H) (r : F.Rel μ H d v) (h : (dres S d).plain n = true) : Dp F.K H v (toPy (dres S d)) := by
  cases d with
  | tup xs =>
    cases n with
    | zero => simp [dres, D.plain] at h
    | succ n =>
      simp only [dres, D.plain, List.all_eq_true] at h
      cases r with
      | tup h1 h2 h3 =>
        simp only [dres, toPy]
        exact .tup (.inl (.inl h2)) (res_dpL s h h3)
  | _ => exact res_dp s r h
end

/-! ### two places -/
/-- the reading of a two-place operation by the own one -/
def rD (F : Fx) (k : Sto → D → D → Option D) : R2 := fun x y H Q => Sz H → ∃ μ S dx dy, F.Sim μ S H ∧ F.Rel μ H dx x ∧ F.Rel μ H dy y ∧ ∃ d, k S dx dy = some d ∧ ∀ μ' H' v, To F μ H S μ' H' → F.Rel μ' H' d v → Q v H'
section
variable {X : Cx} {F : Fx} {W : WX}
theorem opr_of {f : Value → Value → Sem Value} {k : Sto → D → D → Option D} (h : ∀ (x y : V) (H : Hp) (Q : VK) (μ : Mu) (S : Sto) (dx dy d : D), Sz H → F.Sim μ S H → F.Rel μ H dx x → F.Rel μ H dy y → k S dx dy = some d → (∀ μ' H' v, To F μ H S μ' H' → F.Rel μ' H' d v → Q v H') →
    ∃ r, OpR X f r ∧ r x y H fun v H' => Sz H' → Q v H') : OpR X f (rD F k) := by
  intro pins s σ H x y v u Q I rx ry hq
  obtain ⟨μ, S, dx, dy, sim, r1, r2, d, e, w⟩ := hq (sz_of I.hok)
  obtain ⟨r, hr, q⟩ := h x y H Q μ S dx dy d (sz_of I.hok) sim r1 r2 e w
  exact thn (hr pins s σ H x y v u _ I rx ry q) fun u s1 ⟨v, H', I', r, q'⟩ => ⟨v, H', I', r, q' (sz_of I'.hok)⟩
theorem two_ok {f g : SemE D} {k : Sto → D → D → Option D} {σ : St} {H : Hp} {μ : Mu} {ρ : Env} {S : Sto} {Q : VK} (c : Cfg F μ ρ S σ H)
    (w : Wish F W σ μ H F.Rel ((f ρ S).bind fun x S1 => (g ρ S1).bind fun y S2 => Out.opt S2 (k S2 x y)) Q) : tOp (rD F k) (tE F W f) (tE F W g) σ H Q := by
  refine tG.of c (Wish.bind w fun x S1 μ1 H1 vx t1 r1 w1 => ?_)
  refine tG.of (c.to t1) (Wish.bind w1 fun y S2 μ2 H2 vy t2 r2 w2 => ?_)
  obtain ⟨d, e, w3⟩ := Wish.opt w2
  exact fun z => ⟨μ2, S2, x, y, t2.sim, r1.mono t2.st, r2, d, e, w3⟩
end
end Pf
end

section 
set_option Elab.async false
set_option linter.all false
set_option maxRecDepth 100000
set_option maxHeartbeats 1000000
/-! PfF: operators, one by one. -/
namespace Pf
open PySem PySem.Spec PyProof.Rows L2

/-- what an expression's place has -/
structure Ok (X : Cx) (F : Fx) : Prop where
  hK : X.K = F.K
  hu : X.A.units + 200 < cLine
  gd : X.A.guards = some []
/-- .. where nothing is handled -/
structure OkC (X : Cx) (F : Fx) : Prop extends Ok X F where
  calm : X.calm = true
instance {X : Cx} {F : Fx} : Coe (OkC X F) (Ok X F) := ⟨OkC.toOk⟩
section
variable {F : Fx} {μ : Mu} {S : Sto} {H : Hp} {d : D} {Q : VK}
abbrev Then (F : Fx) (μ : Mu) (H : Hp) (S : Sto) (d : D) (Q : VK) : Prop := ∀ μ' H' v, To F μ H S μ' H' → F.Rel μ' H' d v → Q v H'
theorem Then.same (w : Then F μ H S d Q) (sim : F.Sim μ S H) {v : V} (r : F.Rel μ H d v) : Sz H → Q v H := fun z => w μ H v ⟨z, Step.refl, sim⟩ r
theorem Then.tup {xs : List D} {vs : List V} (w : Then F μ H S (.tup xs) Q) (sim : F.Sim μ S H) (r : F.RelL μ H xs vs) : ∀ p, H p = none → Sz (upd H p (.tup vs)) → Q (.ref p) (upd H p (.tup vs)) := fun p np z =>
  w μ _ _ ⟨z, Step.alloc np, sim.alloc np⟩ (.tup (sim.fresh np) upd_same (r.up np))
theorem Then.lst {xs : List D} {vs : List V} (w : Then F μ H S (.lst xs) Q) (sim : F.Sim μ S H) (r : F.RelL μ H xs vs) : ∀ p, H p = none → Sz (upd H p (.lst vs)) → Q (.ref p) (upd H p (.lst vs)) := fun p np z =>
  w μ _ _ ⟨z, Step.alloc np, sim.alloc np⟩ (.lst (sim.fresh np) upd_same (r.up np))
end
theorem toS_append (x y : List Nat) : (toS x ++ toS y : Str) = toS (x ++ y) := by
  show (⟨x.toArray ++ y.toArray⟩ : Str) = ⟨(x ++ y).toArray⟩
  simp
theorem big_eq : big = sizeLine := by rw [sizeLine_eq]; rfl
section
variable {X : Cx} {F : Fx}
theorem op_addD (ok : Ok X F) : OpR X (binaryOp .Add) (rD F fun S => binOp S .add) := by
  refine opr_of fun x y H Q μ S dx dy d z sim r1 r2 e w => ?_
  have z' := z
  cases h1 : res S dx <;> cases h2 : res S dy <;> simp only [binOp, h1, h2, reduceCtorEq, Option.some.injEq, Option.ite_none_right_eq_some] at e
  case int.int i j =>
    subst e
    obtain rfl := res_int r1 h1
    obtain rfl := res_int r2 h2
    exact ⟨_, op_add, i, j, rfl, rfl, Then.same w sim (.int _)⟩
  case str.str i j =>
    obtain ⟨hl, rfl⟩ := e
    obtain rfl := res_str r1 h1
    obtain rfl := res_str r2 h2
    refine ⟨_, op_add_str, _, _, rfl, rfl, by rw [big_eq] at hl; simpa [Str.length] using hl, ?_⟩
    rw [toS_append]
    exact Then.same w sim (.str _)
  case tup.tup xs ys =>
    obtain ⟨hl, rfl⟩ := e
    obtain ⟨a, vs, rfl, n1, e1, q1⟩ := res_tup r1 h1
    obtain ⟨b, ws, rfl, n2, e2, q2⟩ := res_tup r2 h2
    refine ⟨_, op_catA, a, b, vs, ws, rfl, rfl, .inl (.inl e1), .inl (.inl e2), by rw [← q1.length, ← q2.length, ← big_eq]; exact hl, fun h => ?_, fun h h' => ?_, fun _ _ => Then.tup w sim (q1.append q2)⟩
    · subst h
      cases q1
      exact Then.same w sim (.tup n2 e2 q2)
    · subst h'
      cases q2
      rw [List.append_nil] at w
      exact Then.same w sim (.tup n1 e1 q1)
  case lst.lst xs ys =>
    obtain ⟨hl, rfl⟩ := e
    obtain ⟨a, vs, rfl, e1, q1⟩ := res_lst sim r1 h1
    obtain ⟨b, ws, rfl, e2, q2⟩ := res_lst sim r2 h2
    exact ⟨_, op_cat, a, b, vs, ws, rfl, rfl, e1, e2, by rw [← q1.length, ← q2.length, ← big_eq]; exact hl, Then.lst w sim (q1.append q2)⟩
theorem op_subD (ok : Ok X F) : OpR X (binaryOp .Sub) (rD F fun S => binOp S .sub) := by
  refine opr_of fun x y H Q μ S dx dy d z sim r1 r2 e w => ?_
  cases h1 : res S dx <;> cases h2 : res S dy <;> simp only [binOp, h1, h2, reduceCtorEq, Option.some.injEq, Option.ite_none_right_eq_some] at e
  case int.int i j =>
    subst e
    obtain rfl := res_int r1 h1
    obtain rfl := res_int r2 h2
    exact ⟨_, op_sub, i, j, rfl, rfl, Then.same w sim (.int _)⟩
theorem op_fdivD (ok : Ok X F) : OpR X (binaryOp .FloorDiv) (rD F fun S => binOp S .fdiv) := by
  refine opr_of fun x y H Q μ S dx dy d z sim r1 r2 e w => ?_
  cases h1 : res S dx <;> cases h2 : res S dy <;> simp only [binOp, h1, h2, reduceCtorEq, Option.some.injEq, Option.ite_none_right_eq_some] at e
  case int.int i j =>
    obtain ⟨hl, rfl⟩ := e
    obtain rfl := res_int r1 h1
    obtain rfl := res_int r2 h2
    exact ⟨_, op_fdiv, i, j, rfl, rfl, hl, Then.same w sim (.int _)⟩
theorem op_modD (ok : Ok X F) : OpR X (binaryOp .Mod) (rD F fun S => binOp S .mod) := by
  refine opr_of fun x y H Q μ S dx dy d z sim r1 r2 e w => ?_
  cases h1 : res S dx <;> cases h2 : res S dy <;> simp only [binOp, h1, h2, reduceCtorEq, Option.some.injEq, Option.ite_none_right_eq_some] at e
  case int.int i j =>
    obtain ⟨hl, rfl⟩ := e
    obtain rfl := res_int r1 h1
    obtain rfl := res_int r2 h2
    exact ⟨_, op_mod, i, j, rfl, rfl, hl, Then.same w sim (.int _)⟩
theorem op_powD (ok : Ok X F) : OpR X (binaryOp .Pow) (rD F fun S => binOp S .pow) := by
  refine opr_of fun x y H Q μ S dx dy d z sim r1 r2 e w => ?_
  cases h1 : res S dx <;> cases h2 : res S dy <;> simp only [binOp, h1, h2, reduceCtorEq, Option.some.injEq, Option.ite_none_right_eq_some] at e
  case int.int i j =>
    obtain ⟨hl, rfl⟩ := e
    obtain rfl := res_int r1 h1
    obtain rfl := res_int r2 h2
    exact ⟨_, op_pow, i, j, rfl, rfl, hl, Then.same w sim (.int _)⟩
theorem op_shlD (ok : Ok X F) : OpR X (binaryOp .LShift) (rD F fun S => binOp S .shl) := by
  refine opr_of fun x y H Q μ S dx dy d z sim r1 r2 e w => ?_
  cases h1 : res S dx <;> cases h2 : res S dy <;> simp only [binOp, h1, h2, reduceCtorEq, Option.some.injEq, Option.ite_none_right_eq_some] at e
  case int.int i j =>
    obtain ⟨hl, rfl⟩ := e
    obtain rfl := res_int r1 h1
    obtain rfl := res_int r2 h2
    exact ⟨_, op_shl, i, j, rfl, rfl, hl, Then.same w sim (.int _)⟩
end
end Pf
end

section 
set_option Elab.async false
set_option linter.all false
set_option maxRecDepth 100000
set_option maxHeartbeats 4000000
/-! PfG: a tuple times an int, whatever the int. -/
namespace Pf
open PySem PySem.Spec PyProof.Rows L2
theorem tuple_mulSame (l : Addr) (items : Array Value) (n : Nat) (dd : Option Addr) (sl : Array (Option Value)) (x : Int) (u : Tok) (c0 : (decide (x < -(2 ^ 63)) || decide (x ≥ 2 ^ 63)) = false) (c1 : (items.isEmpty || x == 1) = true) :
    Meets (Builtin.«tuple.__mul__» ⟨[.ref l, .int x u], []⟩) (fun _ R s => s.heap.get? l = some { cls := .type "tuple", dict := dd, data := .seq items n, slots := sl } ∧
      R (.ok (.ret (Value.ref l))) s) :=
  .of_wp fun prog w A R s h => by
    obtain ⟨hp, g, d, tk, os⟩ := s
    obtain ⟨hl, h⟩ := h
    have f1 := AutoSeq1.idx_int
    wp_walk using wpAny_loadPart' hl
    repeat (first
      | (refine wpAny_ite_false (decide_eq_false (by rw [c0]; exact Bool.false_ne_true)) ?_; wp_walk using wpAny_loadPart' hl)
      | (refine wpAny_ite_true (decide_eq_true c1) ?_; wp_walk using wpAny_loadPart' hl))
    all_goals first
      | exact ⟨_, rfl, h⟩
      | exact h
theorem tuple_mulNone (l : Addr) (items : Array Value) (n : Nat) (dd : Option Addr) (sl : Array (Option Value)) (x : Int) (u : Tok) (c0 : (decide (x < -(2 ^ 63)) || decide (x ≥ 2 ^ 63)) = false) (c1 : (items.isEmpty || x == 1) = false) (c2 : (decide (x ≤ 0) || items.isEmpty) = true) :
    Meets (Builtin.«tuple.__mul__» ⟨[.ref l, .int x u], []⟩) (fun _ R s => s.heap.get? l = some { cls := .type "tuple", dict := dd, data := .seq items n, slots := sl } ∧
      R (.ok (.ret (Value.ref s.heap.objs.size))) { s with heap := s.heap.push { cls := Value.type "tuple", data := Data.seq #[] }, toks := s.toks }) :=
  .of_wp fun prog w A R s h => by
    obtain ⟨hp, g, d, tk, os⟩ := s
    obtain ⟨hl, h⟩ := h
    have f1 := AutoSeq1.idx_int
    wp_walk using wpAny_loadPart' hl
    repeat (first
      | (refine wpAny_ite_false (decide_eq_false (by rw [c0]; exact Bool.false_ne_true)) ?_; wp_walk using wpAny_loadPart' hl)
      | (refine wpAny_ite_false (decide_eq_false (by rw [c1]; exact Bool.false_ne_true)) ?_; wp_walk using wpAny_loadPart' hl)
      | (refine wpAny_ite_true (decide_eq_true c2) ?_; wp_walk using wpAny_loadPart' hl))
    all_goals first
      | exact ⟨_, rfl, h⟩
      | exact h
section
variable {X : Cx} {F : Fx}
theorem op_repT0 : OpR X (binaryOp .Mult) (fun x y H Q => ∃ l k xs, x = .ref l ∧ y = .int k ∧ SqT X.K H l xs ∧ (-1000 ≤ k ∧ k ≤ 1000) ∧ (xs = [] ∨ k = 1) ∧ Q (.ref l) H) := by
  intro pins s σ H x y v u Q I rx ry h
  obtain ⟨l, k, xs, rfl, rfl, hT, hk, hne, q⟩ := h
  cases rx
  obtain ⟨t, rfl⟩ := ry
  obtain ⟨its, r, ⟨⟨cls, dd, data, sl⟩, ho, hc, n, hd⟩, hs⟩ := I.tuple hT
  simp only at hc hd
  subst hc hd
  have c0 : (decide (k < -(2 ^ 63)) || decide (k ≥ 2 ^ 63)) = false := by
    rw [decide_eq_false (by omega), decide_eq_false (by omega)] <;> rfl
  have c1 : (its.toArray.isEmpty || k == 1) = true := by
    rcases hne with rfl | rfl
    · cases r; rfl
    · simp
  exact wpAny_binaryOp_repeat_ref (T := "tuple") (U := "int") (by decide) ⟨_, ho, rfl⟩ (fun s' => typeIs_int s' k t) noFill_tuple_mul F.fills_int_mul F.slot_int_rmul repeat_tuple F.slot_int_index.lookup
    (call_meets F.slot_int_rmul (typeIs_int s k t) F.entry_int_rmul (F.args_int_rmul_2 _ _) (int_rmul_tuple k t l its.toArray n dd sl)
      ⟨ho, rfl, ⟨_, ho, rfl⟩, call_meets F.slot_tuple_mul ⟨_, ho, rfl⟩ F.entry_tuple_mul (F.args_tuple_mul_2 _ _) (tuple_mulSame l its.toArray n dd sl k t c0 c1) ⟨ho, ⟨.ref l, H, I, rfl, q⟩⟩⟩)
theorem op_repTN : OpR X (binaryOp .Mult) (fun x y H Q => ∃ l k xs, x = .ref l ∧ y = .int k ∧ SqT X.K H l xs ∧ (-1000 ≤ k ∧ k ≤ 0) ∧ xs ≠ [] ∧ ∀ p, H p = none → Q (.ref p) (upd H p (.tup []))) := by
  intro pins s σ H x y v u Q I rx ry h
  obtain ⟨l, k, xs, rfl, rfl, hT, hk, hne, q⟩ := h
  cases rx
  obtain ⟨t, rfl⟩ := ry
  obtain ⟨its, r, ⟨⟨cls, dd, data, sl⟩, ho, hc, n, hd⟩, hs⟩ := I.tuple hT
  simp only at hc hd
  subst hc hd
  have c0 : (decide (k < -(2 ^ 63)) || decide (k ≥ 2 ^ 63)) = false := by
    rw [decide_eq_false (by omega), decide_eq_false (by omega)] <;> rfl
  have hi : its.toArray.isEmpty = false := by
    cases r with
    | nil => exact absurd rfl hne
    | cons a b => rfl
  have c1 : (its.toArray.isEmpty || k == 1) = false := by
    rw [hi, Bool.false_or]
    exact beq_eq_false_iff_ne.mpr (by omega)
  have c2 : (decide (k ≤ 0) || its.toArray.isEmpty) = true := by
    rw [decide_eq_true hk.2]; rfl
  refine wpAny_binaryOp_repeat_ref (T := "tuple") (U := "int") (by decide) ⟨_, ho, rfl⟩ (fun s' => typeIs_int s' k t) noFill_tuple_mul F.fills_int_mul F.slot_int_rmul repeat_tuple F.slot_int_index.lookup
    (call_meets F.slot_int_rmul (typeIs_int s k t) F.entry_int_rmul (F.args_int_rmul_2 _ _) (int_rmul_tuple k t l its.toArray n dd sl)
      ⟨ho, rfl, ⟨_, ho, rfl⟩, call_meets F.slot_tuple_mul ⟨_, ho, rfl⟩ F.entry_tuple_mul (F.args_tuple_mul_2 _ _) (tuple_mulNone l its.toArray n dd sl k t c0 c1 c2) ⟨ho, ?_⟩⟩)
  refine ⟨.ref s.heap.objs.size, _, I.laid (t' := s.toks) (o := .tup []) (fun b ob q => Heap.get?_push_of_some _ q) (Nat.le_refl _) ?_, rfl, q _ (I.hok.fresh (Nat.le_refl _))⟩
  exact ⟨Nat.zero_le _, _, .nil, IsTup.new _ _⟩
end
section
variable {X : Cx} {F : Fx}
theorem op_mulD (ok : Ok X F) : OpR X (binaryOp .Mult) (rD F fun S => binOp S .mul) := by
  refine opr_of fun x y H Q μ S dx dy d z sim r1 r2 e w => ?_
  cases h1 : res S dx <;> cases h2 : res S dy <;> simp only [binOp, h1, h2, reduceCtorEq, Option.some.injEq, Option.ite_none_right_eq_some] at e
  case int.int i j =>
    obtain ⟨hl, rfl⟩ := e
    obtain rfl := res_int r1 h1
    obtain rfl := res_int r2 h2
    simp only [mulOk, Bool.or_eq_true, decide_eq_true_eq] at hl
    rcases hl with (hl | hl) | hl
    · exact ⟨_, op_mul, i, j, rfl, rfl, .inl (by omega), Then.same w sim (.int _)⟩
    · exact ⟨_, op_mul, i, j, rfl, rfl, .inr (by omega), Then.same w sim (.int _)⟩
    · exact ⟨_, op_mulW, i, j, rfl, rfl, hl, Then.same w sim (.int _)⟩
  case tup.int xs j =>
    obtain ⟨⟨hl1, hl2, hl3⟩, rfl⟩ := e
    obtain ⟨a, vs, rfl, n1, e1, q1⟩ := res_tup r1 h1
    obtain rfl := res_int r2 h2
    have hT : SqT X.K H a vs := .inl (.inl e1)
    by_cases hx : vs = []
    · subst hx
      cases q1
      refine ⟨_, op_repT0, a, j, _, rfl, rfl, hT, ⟨hl1, hl2⟩, .inl rfl, Then.same w sim ?_⟩
      rw [show (List.replicate j.toNat ([] : List D)).flatten = [] by simp]
      exact .tup n1 e1 .nil
    · by_cases h1 : j ≤ 0
      · refine ⟨_, op_repTN, a, j, _, rfl, rfl, hT, ⟨hl1, h1⟩, hx, ?_⟩
        rw [show (List.replicate j.toNat xs).flatten = [] by rw [Int.toNat_of_nonpos h1]; rfl] at w
        exact Then.tup w sim .nil
      · by_cases h2 : j = 1
        · subst h2
          refine ⟨_, op_repT0, a, 1, _, rfl, rfl, hT, ⟨by omega, by omega⟩, .inr rfl, Then.same w sim ?_⟩
          rw [show (List.replicate (1 : Int).toNat xs).flatten = xs by simp]
          exact .tup n1 e1 q1
        · exact ⟨_, op_repT, a, j, vs, rfl, rfl, hT, hx, by omega, hl2, by rw [← q1.length]; exact hl3, Then.tup w sim (q1.rep _)⟩
  case lst.int xs j =>
    obtain ⟨⟨hl1, hl2, hl3⟩, rfl⟩ := e
    obtain ⟨a, vs, rfl, e1, q1⟩ := res_lst sim r1 h1
    obtain rfl := res_int r2 h2
    refine ⟨_, op_rep, a, j, vs, rfl, rfl, e1, by omega, by omega, ?_, Then.lst w sim (q1.rep _)⟩
    rw [sizeLine_eq, ← q1.length]
    have : xs.length * j.toNat ≤ 1000 * 1000 := Nat.mul_le_mul hl3 (by omega)
    omega
/-- the operators -/
def bopOk : Operator → Bop → Bool
  | .Add, .add => true
  | .Sub, .sub => true
  | .Mult, .mul => true
  | .FloorDiv, .fdiv => true
  | .Mod, .mod => true
  | .Pow, .pow => true
  | .LShift, .shl => true
  | _, _ => false
theorem op_binD (ok : Ok X F) {op : Operator} {b : Bop} (h : bopOk op b = true) : OpR X (binaryOp op) (rD F fun S => binOp S b) := by
  unfold bopOk at h
  split at h
  · exact op_addD ok
  · exact op_subD ok
  · exact op_mulD ok
  · exact op_fdivD ok
  · exact op_modD ok
  · exact op_powD ok
  · exact op_shlD ok
  · cases h
end
end Pf
end

section 
set_option Elab.async false
set_option linter.all false
set_option maxRecDepth 100000
set_option maxHeartbeats 1000000
/-! PfH: comparisons. -/
namespace Pf
open PySem PySem.Spec PyProof.Rows L2

/-! ### dicts: keys and values -/
section
variable {κ : Type} [DecidableEq κ] {F : Fx} {μ : Mu} {H : Hp} {enc : κ → D}
open Classical in
theorem keyAt_rel (inj : ∀ a b, enc a = enc b → a = b) (k : κ) : ∀ {kvs : List (κ × V)} {vs : List D}, F.RelL μ H vs (kvs.map (·.2)) →
    (valV kvs k = none ∧ keyAt (kvs.map fun p => enc p.1) vs (enc k) = none) ∨ ∃ v d, valV kvs k = some v ∧ keyAt (kvs.map fun p => enc p.1) vs (enc k) = some d ∧ F.Rel μ H d v
  | [], _, r => by cases r; exact .inl ⟨rfl, rfl⟩
  | (q, w) :: kvs, _, r => by
    cases r with
    | cons h r =>
      by_cases e : q = k
      · subst e
        exact .inr ⟨w, _, valV_pos rfl, by simp [keyAt], h⟩
      · rw [valV_neg (show ¬ (q, w).1 = k from e)]
        have ne : ¬ enc q = enc k := fun z => e (inj _ _ z)
        have := keyAt_rel inj k r
        simpa [keyAt, ne] using this
theorem any_iff {enc : κ → D} (inj : ∀ a b, enc a = enc b → a = b) (k : κ) : ∀ kvs : List (κ × V), ((kvs.any fun kv => decide (kv.1 = k)) = true) ↔ enc k ∈ kvs.map fun p => enc p.1
  | [] => by simp
  | (q, w) :: kvs => by
    have ih := any_iff inj k kvs
    rw [List.any_cons, Bool.or_eq_true, ih]
    simp only [decide_eq_true_eq, List.map_cons, List.mem_cons]
    constructor
    · rintro (rfl | h)
      · exact .inl rfl
      · exact .inr h
    · rintro (h | h)
      · exact .inl (inj _ _ h).symm
      · exact .inr h
open Classical in
theorem keyPut_rel (inj : ∀ a b, enc a = enc b → a = b) (k : κ) {d : D} {v : V} (h : F.Rel μ H d v) {kvs : List (κ × V)} {vs : List D} (r : F.RelL μ H vs (kvs.map (·.2))) :
    (keyPut (kvs.map fun p => enc p.1) vs (enc k) d).1 = (putK kvs k v).map (fun p => enc p.1) ∧ F.RelL μ H (keyPut (kvs.map fun p => enc p.1) vs (enc k) d).2 ((putK kvs k v).map (·.2)) := by
  unfold keyPut putK
  by_cases q : (kvs.any fun kv => decide (kv.1 = k)) = true
  · rw [if_pos q, if_pos ((any_iff inj k kvs).mp q)]
    clear q
    induction kvs generalizing vs with
    | nil => cases r; exact ⟨rfl, .nil⟩
    | cons p kvs ih =>
      obtain ⟨q, w⟩ := p
      cases r with
      | cons h1 r =>
        obtain ⟨i1, i2⟩ := ih r
        by_cases e : q = k
        · subst e
          simp only [List.map_cons, if_true, List.zipWith_cons_cons]
          exact ⟨by rw [show (kvs.map fun p => enc p.1) = _ from i1], .cons h i2⟩
        · have ne : ¬ enc q = enc k := fun z => e (inj _ _ z)
          simp only [List.map_cons, if_neg e, List.zipWith_cons_cons, if_neg ne]
          exact ⟨by rw [show (kvs.map fun p => enc p.1) = _ from i1], .cons h1 i2⟩
  · rw [if_neg q, if_neg (fun z => q ((any_iff inj k kvs).mpr z))]
    rw [List.map_append, List.map_append]
    exact ⟨rfl, r.append (.cons h .nil)⟩
open Classical in
theorem keyDrop_rel (inj : ∀ a b, enc a = enc b → a = b) (k : κ) : ∀ {kvs : List (κ × V)} {vs : List D}, F.RelL μ H vs (kvs.map (·.2)) →
    (keyDrop (kvs.map fun p => enc p.1) vs (enc k)).1 = (dropK kvs k).map (fun p => enc p.1) ∧ F.RelL μ H (keyDrop (kvs.map fun p => enc p.1) vs (enc k)).2 ((dropK kvs k).map (·.2))
  | [], _, r => by cases r; exact ⟨rfl, .nil⟩
  | (q, w) :: kvs, _, r => by
    cases r with
    | cons h r =>
      obtain ⟨i1, i2⟩ := keyDrop_rel inj k r
      unfold keyDrop dropK at i1 i2 ⊢
      simp only [decide_not, ne_eq] at i1 i2 ⊢
      by_cases e : q = k
      · subst e
        simp only [List.map_cons, List.zip_cons_cons, List.filter_cons, decide_true, Bool.not_true, Bool.false_eq_true, if_false]
        exact ⟨i1, i2⟩
      · have ne : ¬ enc q = enc k := fun z => e (inj _ _ z)
        simp only [List.map_cons, List.zip_cons_cons, List.filter_cons, ne, e, decide_false, Bool.not_false, if_true]
        exact ⟨congrArg _ i1, .cons h i2⟩
end
theorem kD_inj : ∀ a b : Key, kD a = kD b → a = b
  | .inl a, .inl b, h => by simp only [kD, D.int.injEq] at h; rw [h]
  | .inr a, .inr b, h => by
    simp only [kD, D.str.injEq] at h
    obtain ⟨a⟩ := a
    obtain ⟨b⟩ := b
    congr
    exact Array.toList_inj.mp h
  | .inl a, .inr b, h => by simp [kD] at h
  | .inr a, .inl b, h => by simp [kD] at h
def kT (k : List Key) : D := .tup (k.map kD)
theorem map_kD_inj : ∀ a b : List Key, a.map kD = b.map kD → a = b
  | [], [], _ => rfl
  | a :: as, b :: bs, h => by
    simp only [List.map_cons, List.cons.injEq] at h
    rw [kD_inj _ _ h.1, map_kD_inj _ _ h.2]
  | [], _ :: _, h => by simp at h
  | _ :: _, [], h => by simp at h
theorem kT_inj (a b : List Key) (h : kT a = kT b) : a = b := by
  unfold kT at h
  exact map_kD_inj _ _ (D.tup.inj h)
section
variable {F : Fx} {μ : Mu} {H : Hp}
theorem key0_rel {k : D} {v : V} (h : k.key0 = true) (r : F.Rel μ H k v) : ∃ key : Key, k = kD key ∧ v = kV key := by
  cases r with
  | int i => exact ⟨.inl i, rfl, rfl⟩
  | str z => exact ⟨.inr (toS z), by simp [kD], rfl⟩
  | _ => cases h
theorem key0_relL : ∀ {ks : List D} {vs : List V}, ks.all D.key0 = true → F.RelL μ H ks vs → ∃ keys : List Key, ks = keys.map kD ∧ vs = keys.map kV
  | _, _, _, .nil => ⟨[], rfl, rfl⟩
  | _, _, h, .cons h1 r => by
    rw [List.all_cons, Bool.and_eq_true] at h
    obtain ⟨k, e1, e2⟩ := key0_rel h.1 h1
    obtain ⟨ks, e3, e4⟩ := key0_relL h.2 r
    exact ⟨k :: ks, by rw [e1, e3]; rfl, by rw [e2, e4]; rfl⟩
theorem keyT_rel {k : D} {v : V} (h : k.key true = true) (r : F.Rel μ H k v) : ∃ (keys : List Key) (b : Addr), k = kT keys ∧ v = .ref b ∧ H b = some (.tup (keys.map kV)) := by
  cases r with
  | tup h1 h2 h3 =>
    obtain ⟨ks, e1, e2⟩ := key0_relL h h3
    exact ⟨ks, _, by rw [e1]; rfl, rfl, by rw [← e2]; exact h2⟩
  | _ => simp [D.key] at h
/-- what a dict of the store tells at a key -/
theorem dget_of {S : Sto} {d k : D} {v u : V} {t : Bool} {ks vs : List D} (s : F.Sim μ S H) (r : F.Rel μ H d v) (e : res S d = .dic t ks vs) (hk : k.key t = true) (rk : F.Rel μ H k u) :
    ∃ a o, v = .ref a ∧ DGet H a u o ∧ ((o = none ∧ keyAt ks vs k = none) ∨ ∃ w x, o = some w ∧ keyAt ks vs k = some x ∧ F.Rel μ H x w) := by
  cases t with
  | false =>
    obtain ⟨a, kvs, rfl, e1, rfl, q⟩ := res_dK s r e
    obtain ⟨key, rfl, rfl⟩ := key0_rel hk rk
    refine ⟨a, _, rfl, DGet.k e1, ?_⟩
    rcases keyAt_rel kD_inj key q with h | ⟨w, x, h1, h2, h3⟩
    · exact .inl h
    · exact .inr ⟨w, x, h1, h2, h3⟩
  | true =>
    obtain ⟨a, kvs, rfl, e1, rfl, q⟩ := res_dT s r e
    obtain ⟨key, b, rfl, rfl, eb⟩ := keyT_rel hk rk
    refine ⟨a, _, rfl, DGet.t e1 eb, ?_⟩
    rcases keyAt_rel (enc := kT) kT_inj key q with h | ⟨w, x, h1, h2, h3⟩
    · exact .inl h
    · exact .inr ⟨w, x, h1, h2, h3⟩
end

/-! ### order of tuples -/
theorem lexLt_eq : ∀ a b : List Int, lexLt a b = HT.lexLt a b
  | [], [] => rfl
  | [], _ :: _ => rfl
  | _ :: _, [] => rfl
  | x :: xs, y :: ys => by
    show (if x = y then lexLt xs ys else decide (x < y)) = (if x = y then HT.lexLt xs ys else decide (x < y))
    rw [lexLt_eq xs ys]
theorem lexAt_shift {e r : Nat → Bool} {z : Bool} : ∀ (k i : Nat), Ob.lexAt e r z (i + 1) k = Ob.lexAt (fun j => e (j + 1)) (fun j => r (j + 1)) z i k
  | 0, _ => rfl
  | k + 1, i => by
    rw [Ob.lexAt_succ, Ob.lexAt_succ, lexAt_shift k (i + 1)]
theorem lexAt_le : ∀ a b : List Int, Ob.lexAt (fun j => decide (a.getD j 0 = b.getD j 0)) (fun j => decide (a.getD j 0 ≤ b.getD j 0)) (decide (a.length ≤ b.length)) 0 (min a.length b.length) = !lexLt b a
  | [], [] => rfl
  | [], _ :: _ => rfl
  | _ :: _, [] => rfl
  | x :: xs, y :: ys => by
    have ih := lexAt_le xs ys
    rw [List.length_cons, List.length_cons, show min (xs.length + 1) (ys.length + 1) = min xs.length ys.length + 1 by omega, Ob.lexAt_succ, lexAt_shift]
    simp only [List.getD_cons_zero, List.getD_cons_succ, Nat.add_le_add_iff_right, decide_eq_true_eq, lexLt]
    rw [ih]
    by_cases q : x = y
    · subst q; simp
    · rw [if_neg q, if_neg (fun z => q z.symm), ← decide_not]
      congr 1
      exact propext ⟨fun h => by omega, fun h => by omega⟩
section
variable {F : Fx} {μ : Mu} {H : Hp}
theorem intsOf_rel {d : D} {v : V} {ns : List Int} (r : F.Rel μ H d v) (e : intsOf d = some ns) : ∃ a, v = .ref a ∧ H a = some (.tup (ns.map V.int)) ∧ d = tupI ns := by
  cases r with
  | tup h1 h2 h3 =>
    obtain ⟨e1, e2⟩ := h3.of_ints e
    exact ⟨_, rfl, by rw [← e2]; exact h2, by rw [e1]; rfl⟩
  | _ => cases e
end
section
variable {X : Cx} {F : Fx}
theorem op_ltD (ok : Ok X F) : OpR X (compareOp .Lt) (rD F fun S a b => (cmpOp S .lt a b).map .bl) := by
  refine opr_of fun x y H Q μ S dx dy d z sim r1 r2 e w => ?_
  obtain ⟨b, e', rfl⟩ := Option.map_eq_some_iff.mp e
  clear e
  have e := e'
  clear e'
  simp only [cmpOp] at e
  unfold ltOp at e
  split at e
  · cases e
    cases r1
    cases r2
    exact ⟨_, op_lt, _, _, rfl, rfl, Then.same w sim (.bl _)⟩
  · split at e
    · rename_i ns ms h1 h2
      cases e
      obtain ⟨a, rfl, e1, _⟩ := intsOf_rel r1 h1
      obtain ⟨b, rfl, e2, _⟩ := intsOf_rel r2 h2
      refine ⟨_, op_ltT (by have := ok.hu; omega), a, b, ns, ms, rfl, rfl, .inl (.inl e1), .inl (.inl e2), ?_⟩
      rw [← lexLt_eq]
      exact Then.same w sim (.bl _)
    · cases e
theorem op_leD (ok : Ok X F) : OpR X (compareOp .LtE) (rD F fun S a b => (cmpOp S .le a b).map .bl) := by
  refine opr_of fun x y H Q μ S dx dy d z sim r1 r2 e w => ?_
  obtain ⟨b, e', rfl⟩ := Option.map_eq_some_iff.mp e
  clear e
  have e := e'
  clear e'
  simp only [cmpOp] at e
  unfold leOp at e
  split at e
  · cases e
    cases r1
    cases r2
    exact ⟨_, op_le, _, _, rfl, rfl, Then.same w sim (.bl _)⟩
  · split at e
    · rename_i ns ms h1 h2
      cases e
      obtain ⟨a, rfl, e1, _⟩ := intsOf_rel r1 h1
      obtain ⟨b, rfl, e2, _⟩ := intsOf_rel r2 h2
      refine ⟨_, op_leT (by have := ok.hu; omega), a, b, ns, ms, rfl, rfl, .inl (.inl e1), .inl (.inl e2), ?_⟩
      rw [lexAt_le]
      exact Then.same w sim (.bl _)
    · cases e
theorem op_gtD (ok : Ok X F) : OpR X (compareOp .Gt) (rD F fun S a b => (cmpOp S .gt a b).map .bl) := by
  refine opr_of fun x y H Q μ S dx dy d z sim r1 r2 e w => ?_
  obtain ⟨b, e', rfl⟩ := Option.map_eq_some_iff.mp e
  clear e
  have e := e'
  clear e'
  cases dx <;> cases dy <;> simp only [cmpOp, reduceCtorEq, Option.some.injEq] at e
  subst e
  cases r1
  cases r2
  exact ⟨_, op_gt, _, _, rfl, rfl, Then.same w sim (.bl _)⟩
theorem op_geD (ok : Ok X F) : OpR X (compareOp .GtE) (rD F fun S a b => (cmpOp S .ge a b).map .bl) := by
  refine opr_of fun x y H Q μ S dx dy d z sim r1 r2 e w => ?_
  obtain ⟨b, e', rfl⟩ := Option.map_eq_some_iff.mp e
  clear e
  have e := e'
  clear e'
  cases dx <;> cases dy <;> simp only [cmpOp, reduceCtorEq, Option.some.injEq] at e
  subst e
  cases r1
  cases r2
  exact ⟨_, op_ge, _, _, rfl, rfl, Then.same w sim (.bl _)⟩
theorem op_eqDD (ok : Ok X F) : OpR X (compareOp .Eq) (rD F fun S a b => (cmpOp S .eq a b).map .bl) := by
  refine opr_of fun x y H Q μ S dx dy d z sim r1 r2 e w => ?_
  obtain ⟨b, e', rfl⟩ := Option.map_eq_some_iff.mp e
  clear e
  have e := e'
  clear e'
  simp only [cmpOp, eqOp, Option.ite_none_right_eq_some, Bool.and_eq_true, Option.some.injEq] at e
  obtain ⟨⟨p1, p2⟩, rfl⟩ := e
  refine ⟨_, op_eqD (by have := ok.hu; omega), _, _, by rw [ok.hK]; exact res_dp sim r1 p1, by rw [ok.hK]; exact res_dp sim r2 p2, plain_shaped p1, plain_shaped p2, ?_⟩
  rw [eqv_py p1 p2]
  exact Then.same w sim (.bl _)
theorem op_neDD (ok : Ok X F) : OpR X (compareOp .NotEq) (rD F fun S a b => (cmpOp S .ne a b).map .bl) := by
  refine opr_of fun x y H Q μ S dx dy d z sim r1 r2 e w => ?_
  obtain ⟨b, e', rfl⟩ := Option.map_eq_some_iff.mp e
  clear e
  have e := e'
  clear e'
  simp only [cmpOp] at e
  obtain ⟨c, e', rfl⟩ := Option.map_eq_some_iff.mp e
  clear e
  have e := e'
  clear e'
  simp only [eqOp, Option.ite_none_right_eq_some, Bool.and_eq_true, Option.some.injEq] at e
  obtain ⟨⟨p1, p2⟩, rfl⟩ := e
  refine ⟨_, op_neD (by have := ok.hu; omega), _, _, by rw [ok.hK]; exact res_dp sim r1 p1, by rw [ok.hK]; exact res_dp sim r2 p2, plain_shaped p1, plain_shaped p2, ?_⟩
  rw [eqv_py p1 p2]
  exact Then.same w sim (.bl _)
theorem isOp_rel {μ : Mu} {H : Hp} {a b : D} {x y : V} {c : Bool} (r1 : F.Rel μ H a x) (r2 : F.Rel μ H b y) (e : isOp a b = some c) : (y = .non ∧ c = decide (x = .non)) ∨ ∃ p q, x = .bl p ∧ y = .bl q ∧ c = decide (p = q) := by
  unfold isOp at e
  split at e
  · cases e; cases r1; cases r2; exact .inl ⟨rfl, by simp⟩
  · rename_i a h
    cases e
    cases r2
    refine .inl ⟨rfl, ?_⟩
    cases r1 <;> first
      | (exact (h rfl).elim)
      | simp
  · cases e; cases r1; cases r2; exact .inr ⟨_, _, rfl, rfl, rfl⟩
  · cases e
theorem op_isD (ok : Ok X F) : OpR X (compareOp .Is) (rD F fun S a b => (cmpOp S .is a b).map .bl) := by
  refine opr_of fun x y H Q μ S dx dy d z sim r1 r2 e w => ?_
  obtain ⟨b, e', rfl⟩ := Option.map_eq_some_iff.mp e
  clear e
  have e := e'
  clear e'
  simp only [cmpOp] at e
  rcases isOp_rel r1 r2 e with ⟨rfl, rfl⟩ | ⟨p, q, rfl, rfl, rfl⟩
  · exact ⟨_, op_isN, rfl, Then.same w sim (.bl _)⟩
  · exact ⟨_, op_isBl, p, q, rfl, rfl, Then.same w sim (.bl _)⟩
theorem op_isnotD (ok : Ok X F) : OpR X (compareOp .IsNot) (rD F fun S a b => (cmpOp S .isnot a b).map .bl) := by
  refine opr_of fun x y H Q μ S dx dy d z sim r1 r2 e w => ?_
  obtain ⟨b, e', rfl⟩ := Option.map_eq_some_iff.mp e
  clear e
  have e := e'
  clear e'
  simp only [cmpOp] at e
  obtain ⟨c, e', rfl⟩ := Option.map_eq_some_iff.mp e
  clear e
  have e := e'
  clear e'
  rcases isOp_rel r1 r2 e with ⟨rfl, rfl⟩ | ⟨p, q, rfl, rfl, rfl⟩
  · exact ⟨_, op_notN, rfl, Then.same w sim (.bl _)⟩
  · exact ⟨_, op_notBl, p, q, rfl, rfl, Then.same w sim (.bl _)⟩
end
end Pf
end

section 
set_option Elab.async false
set_option linter.all false
set_option maxRecDepth 100000
set_option maxHeartbeats 1000000
/-! PfI: in, subscripts, slices. -/
namespace Pf
open PySem PySem.Spec PyProof.Rows L2

theorem plain_shaped' {d : D} {n : Nat} (h : d.plain n = true) (hn : n ≤ 64) : SeqAt.shaped (toPy d) = true := by
  unfold SeqAt.shaped
  obtain ⟨h1, h2⟩ := plain_py h
  rw [h1, decide_eq_true (by omega)]
  rfl
theorem any_py {xs : List D} {x : D} (h : ∀ z ∈ xs, z.plain 60 = true) (hx : x.plain 60 = true) : ((toPyL xs).any fun z => PyData.eqv z (toPy x)) = xs.any fun z => z.eqv x := by
  rw [toPyL_eq, List.any_map]
  induction xs with
  | nil => rfl
  | cons y ys ih =>
    rw [List.any_cons, List.any_cons, ih fun z hz => h z (by simp [hz])]
    congr 1
    exact eqv_py (h y (by simp)) hx
theorem plain_lst {xs : List D} (h : xs.all (D.plain 60) = true) : (D.lst xs).plain 61 = true := by simpa [D.plain] using h
theorem plain_tup {xs : List D} (h : xs.all (D.plain 60) = true) : (D.tup xs).plain 61 = true := by simpa [D.plain] using h
section
variable {X : Cx} {F : Fx}
theorem op_inT (hu : X.A.units + 65 < cLine) : OpR X (compareOp .In) (fun x y H Q => ∃ d ds, Dp X.K H x d ∧ Dp X.K H y (.tuple ds) ∧ SeqAt.shaped d = true ∧ SeqAt.shaped (.tuple ds) = true ∧ Q (.bl (ds.any fun z => PyData.eqv z d)) H) := by
  intro pins s σ H x y v u Q I rx ry h
  obtain ⟨d, ds, hd, he, sd, se, q⟩ := h
  obtain ⟨as, r1⟩ := Dp.reads I d x v hd rx
  obtain ⟨bs, r2⟩ := Dp.reads I (.tuple ds) y u he ry
  exact SeqAt.in_tuple_reads r2 r1 (SeqAt.canLay_of_shaped se) (SeqAt.canLay_of_shaped sd) (room_in_shaped sd hu) ⟨.bl _, H, I, rfl, q⟩
theorem op_notInT (hu : X.A.units + 65 < cLine) : OpR X (compareOp .NotIn) (fun x y H Q => ∃ d ds, Dp X.K H x d ∧ Dp X.K H y (.tuple ds) ∧ SeqAt.shaped d = true ∧ SeqAt.shaped (.tuple ds) = true ∧ Q (.bl (!ds.any fun z => PyData.eqv z d)) H) := by
  intro pins s σ H x y v u Q I rx ry h
  obtain ⟨d, ds, hd, he, sd, se, q⟩ := h
  obtain ⟨as, r1⟩ := Dp.reads I d x v hd rx
  obtain ⟨bs, r2⟩ := Dp.reads I (.tuple ds) y u he ry
  exact SeqAt.notIn_tuple_reads r2 r1 (SeqAt.canLay_of_shaped se) (SeqAt.canLay_of_shaped sd) (room_in_shaped sd hu) ⟨.bl _, H, I, rfl, q⟩
theorem op_inDic (hu : X.A.units + 1 < cLine) : OpR X (compareOp .In) (fun x y H Q => ∃ a o, y = .ref a ∧ DGet H a x o ∧ Q (.bl o.isSome) H) := by
  intro pins s σ H x y v u Q I rx ry h
  obtain ⟨a, o, rfl, g, q⟩ := h
  obtain rfl : u = Value.ref a := ry
  exact d_in hu I g rx fun s' I' => ⟨.bl o.isSome, H, I', rfl, q⟩
theorem op_notInDic (hu : X.A.units + 1 < cLine) : OpR X (compareOp .NotIn) (fun x y H Q => ∃ a o, y = .ref a ∧ DGet H a x o ∧ Q (.bl (!o.isSome)) H) := by
  intro pins s σ H x y v u Q I rx ry h
  obtain ⟨a, o, rfl, g, q⟩ := h
  obtain rfl : u = Value.ref a := ry
  exact d_notIn hu I g rx fun s' I' => ⟨.bl (!o.isSome), H, I', rfl, q⟩
theorem op_inDD (ok : Ok X F) : OpR X (compareOp .In) (rD F fun S a b => (cmpOp S .isin a b).map .bl) := by
  refine opr_of fun x y H Q μ S dx dy d z sim r1 r2 e0 w => ?_
  obtain ⟨b, e, rfl⟩ := Option.map_eq_some_iff.mp e0
  clear e0
  have hu := ok.hu
  simp only [cmpOp] at e
  unfold inOp at e
  split at e
  · rename_i xs h1
    simp only [Option.ite_none_right_eq_some, Bool.and_eq_true, Option.some.injEq] at e
    obtain ⟨⟨p1, p2⟩, rfl⟩ := e
    obtain ⟨a, vs, rfl, n1, e1, q1⟩ := res_tup r2 h1
    have p3 := plain_tup p2
    rw [List.all_eq_true] at p2
    refine ⟨_, op_inT (by omega), toPy dx, toPyL xs, by rw [ok.hK]; exact Rel.dp p1 r1, ?_, plain_shaped p1, ?_, ?_⟩
    · rw [ok.hK]; exact .tup (.inl (.inl e1)) (RelL.dp p2 q1)
    · have := plain_shaped' p3 (by omega); simpa only [toPy] using this
    · rw [any_py p2 p1]; exact Then.same w sim (.bl _)
  · rename_i xs h1
    simp only [Option.ite_none_right_eq_some, Bool.and_eq_true, Option.some.injEq] at e
    obtain ⟨⟨p1, p2⟩, rfl⟩ := e
    obtain ⟨a, vs, rfl, e1, q1⟩ := res_lst sim r2 h1
    have p3 := plain_lst p2
    rw [List.all_eq_true] at p2
    refine ⟨_, op_inD (by omega), toPy dx, toPyL xs, by rw [ok.hK]; exact Rel.dp p1 r1, ?_, plain_shaped p1, ?_, ?_⟩
    · rw [ok.hK]; exact .lst (.inl (.inl e1)) (RelL.dp p2 q1)
    · have := plain_shaped' p3 (by omega); simpa only [toPy] using this
    · rw [any_py p2 p1]; exact Then.same w sim (.bl _)
  · rename_i t ks vs h1
    simp only [Option.ite_none_right_eq_some, Option.some.injEq] at e
    obtain ⟨p1, rfl⟩ := e
    obtain ⟨a, o, rfl, g, hv⟩ := dget_of sim r2 h1 p1 r1
    refine ⟨_, op_inDic (by omega), a, o, rfl, g, ?_⟩
    have e2 : o.isSome = (keyAt ks vs dx).isSome := by
      rcases hv with ⟨rfl, h⟩ | ⟨_, _, rfl, h, _⟩ <;> rw [h] <;> rfl
    rw [e2]
    exact Then.same w sim (.bl _)
  · rename_i z h1
    split at e
    · rename_i c
      cases e
      obtain rfl := res_str r2 h1
      cases r1
      refine ⟨_, op_in_sign, c, toS z, rfl, rfl, ?_⟩
      exact Then.same w sim (.bl _)
    · cases e
  · cases e
theorem op_notInDD (ok : Ok X F) : OpR X (compareOp .NotIn) (rD F fun S a b => (cmpOp S .notin a b).map .bl) := by
  refine opr_of fun x y H Q μ S dx dy d z sim r1 r2 e0 w => ?_
  obtain ⟨b, e1, rfl⟩ := Option.map_eq_some_iff.mp e0
  clear e0
  simp only [cmpOp] at e1
  obtain ⟨c, e, rfl⟩ := Option.map_eq_some_iff.mp e1
  clear e1
  have hu := ok.hu
  unfold inOp at e
  split at e
  · rename_i xs h1
    simp only [Option.ite_none_right_eq_some, Bool.and_eq_true, Option.some.injEq] at e
    obtain ⟨⟨p1, p2⟩, rfl⟩ := e
    obtain ⟨a, vs, rfl, n1, e1, q1⟩ := res_tup r2 h1
    have p3 := plain_tup p2
    rw [List.all_eq_true] at p2
    refine ⟨_, op_notInT (by omega), toPy dx, toPyL xs, by rw [ok.hK]; exact Rel.dp p1 r1, ?_, plain_shaped p1, ?_, ?_⟩
    · rw [ok.hK]; exact .tup (.inl (.inl e1)) (RelL.dp p2 q1)
    · have := plain_shaped' p3 (by omega); simpa only [toPy] using this
    · rw [any_py p2 p1]; exact Then.same w sim (.bl _)
  · rename_i xs h1
    simp only [Option.ite_none_right_eq_some, Bool.and_eq_true, Option.some.injEq] at e
    obtain ⟨⟨p1, p2⟩, rfl⟩ := e
    obtain ⟨a, vs, rfl, e1, q1⟩ := res_lst sim r2 h1
    have p3 := plain_lst p2
    rw [List.all_eq_true] at p2
    refine ⟨_, op_notInD (by omega), toPy dx, toPyL xs, by rw [ok.hK]; exact Rel.dp p1 r1, ?_, plain_shaped p1, ?_, ?_⟩
    · rw [ok.hK]; exact .lst (.inl (.inl e1)) (RelL.dp p2 q1)
    · have := plain_shaped' p3 (by omega); simpa only [toPy] using this
    · rw [any_py p2 p1]; exact Then.same w sim (.bl _)
  · rename_i t ks vs h1
    simp only [Option.ite_none_right_eq_some, Option.some.injEq] at e
    obtain ⟨p1, rfl⟩ := e
    obtain ⟨a, o, rfl, g, hv⟩ := dget_of sim r2 h1 p1 r1
    refine ⟨_, op_notInDic (by omega), a, o, rfl, g, ?_⟩
    have e2 : o.isSome = (keyAt ks vs dx).isSome := by
      rcases hv with ⟨rfl, h⟩ | ⟨_, _, rfl, h, _⟩ <;> rw [h] <;> rfl
    rw [e2]
    exact Then.same w sim (.bl _)
  · rename_i z h1
    split at e
    · rename_i c
      cases e
      obtain rfl := res_str r2 h1
      cases r1
      refine ⟨_, op_notIn_sign, c, toS z, rfl, rfl, ?_⟩
      exact Then.same w sim (.bl _)
    · cases e
  · cases e
/-- the comparisons -/
def copOk : CmpOp → Cop → Bool
  | .Eq, .eq => true
  | .NotEq, .ne => true
  | .Lt, .lt => true
  | .LtE, .le => true
  | .Gt, .gt => true
  | .GtE, .ge => true
  | .Is, .is => true
  | .IsNot, .isnot => true
  | .In, .isin => true
  | .NotIn, .notin => true
  | _, _ => false
theorem op_cmpD (ok : Ok X F) {op : CmpOp} {b : Cop} (h : copOk op b = true) : OpR X (compareOp op) (rD F fun S x y => (cmpOp S b x y).map .bl) := by
  unfold copOk at h
  split at h
  · exact op_eqDD ok
  · exact op_neDD ok
  · exact op_ltD ok
  · exact op_leD ok
  · exact op_gtD ok
  · exact op_geD ok
  · exact op_isD ok
  · exact op_isnotD ok
  · exact op_inDD ok
  · exact op_notInDD ok
  · cases h

/-! ### subscripts -/
theorem ixOf_eq (n : Nat) (i : Int) : ixOf n i = ixN n i := rfl
theorem atOf_eq {α : Type} (xs : List α) (i : Int) : atOf xs i = atI xs i := rfl
theorem RelL.atI {μ : Mu} {H : Hp} {ds : List D} {vs : List V} {i : Int} {d : D} (r : F.RelL μ H ds vs) (e : atOf ds i = some d) : ∃ v, L2.atI vs i = some v ∧ F.Rel μ H d v := by
  unfold atOf at e
  unfold L2.atI
  rw [← r.length]
  cases h : ixOf ds.length i with
  | none => rw [h] at e; cases e
  | some j =>
    rw [h] at e
    obtain ⟨v, h1, h2⟩ := r.get (show ds[j]? = some d from e)
    exact ⟨v, by rw [← ixOf_eq, h]; exact h1, h2⟩
theorem ix_dic (hu : X.A.units + 1 < cLine) : IxR X (fun x y H Q => ∃ a v, x = .ref a ∧ DGet H a y (some v) ∧ Q v H) := by
  intro value slice pins s σ H x y v u Q I rx ry h hs
  obtain ⟨a, r, rfl, g, q⟩ := h
  obtain rfl : v = Value.ref a := rx
  exact tail_any (dict_typeIs I g) slot_dict_getitem.lookup (d_getItem hu I g ry fun w' s3 I3 rw' => ⟨r, H, I3, rw', q⟩) hs
theorem ixr_of {k : Sto → D → D → Option D} (h : ∀ (x y : V) (H : Hp) (Q : VK) (μ : Mu) (S : Sto) (dx dy d : D), Sz H → F.Sim μ S H → F.Rel μ H dx x → F.Rel μ H dy y → k S dx dy = some d → Then F μ H S d Q →
    ∃ r, IxR X r ∧ r x y H fun v H' => Sz H' → Q v H') : IxR X (rD F k) := by
  intro value slice pins s σ H x y v u Q I rx ry hq hs
  obtain ⟨μ, S, dx, dy, sim, r1, r2, d, e, w⟩ := hq (sz_of I.hok)
  obtain ⟨r, hr, q⟩ := h x y H Q μ S dx dy d (sz_of I.hok) sim r1 r2 e w
  exact thn (hr value slice pins s σ H x y v u _ I rx ry q hs) fun u s1 ⟨v, H', I', r, q'⟩ => ⟨v, H', I', r, q' (sz_of I'.hok)⟩
theorem str_le {pins : List (Addr × Obj)} {s : Shared} {σ : St} {H : Hp} (I : Inv X pins σ H s) : True := trivial
theorem ix_all (ok : Ok X F) : IxR X (rD F idxOp) := by
  refine ixr_of fun x y H Q μ S dx dy d z sim r1 r2 e w => ?_
  unfold idxOp at e
  split at e
  · rename_i xs i h1
    obtain ⟨a, vs, rfl, n1, e1, q1⟩ := res_tup r1 h1
    cases r2
    obtain ⟨v, h2, h3⟩ := RelL.atI q1 e
    exact ⟨_, ix_tup, a, vs, i, v, rfl, rfl, .inl (.inl e1), h2, Then.same w sim h3⟩
  · rename_i xs i h1
    obtain ⟨a, vs, rfl, e1, q1⟩ := res_lst sim r1 h1
    cases r2
    obtain ⟨v, h2, h3⟩ := RelL.atI q1 e
    exact ⟨_, ix_list, a, vs, i, v, rfl, rfl, .inl (.inl e1), h2, Then.same w sim h3⟩
  · rename_i ns i h1
    obtain ⟨a, rfl, e1⟩ := res_scr r1 h1
    cases r2
    obtain ⟨n, e2, rfl⟩ := Option.map_eq_some_iff.mp e
    obtain ⟨v, h2, h3⟩ := RelL.atI (F := F) (μ := μ) (H := H) (RelL.ints ns) (i := i) (d := .int n) (by
      unfold atOf at e2 ⊢
      rw [List.length_map]
      cases q : ixOf ns.length i with
      | none => rw [q] at e2; cases e2
      | some j => rw [q] at e2; simp only [Option.bind_some] at e2 ⊢; rw [List.getElem?_map, e2]; rfl)
    exact ⟨_, ix_list, a, _, i, v, rfl, rfl, by rw [ok.hK]; exact e1, h2, Then.same w sim h3⟩
  · rename_i zs i h1
    obtain rfl := res_str r1 h1
    cases r2
    split at e
    · rename_i hl
      obtain ⟨n, e2, rfl⟩ := Option.map_eq_some_iff.mp e
      refine ⟨_, ix_str, toS zs, i, n, rfl, rfl, ?_, ?_, Then.same w sim (.str [n])⟩
      · rw [← big_eq]; simpa [Str.length] using hl
      · show atI zs i = some n
        exact e2
    · cases e
  · rename_i t ks vs h1
    simp only [Option.ite_none_right_eq_some] at e
    obtain ⟨p1, e⟩ := e
    obtain ⟨a, o, rfl, g, hv⟩ := dget_of sim r1 h1 p1 r2
    rcases hv with ⟨_, h⟩ | ⟨w', x', rfl, h, h3⟩
    · rw [h] at e; cases e
    · rw [h] at e; cases e
      exact ⟨_, ix_dic (by have := ok.hu; omega), a, w', rfl, g, Then.same w sim h3⟩
  · cases e
/-! ### slices -/
theorem sIx_eq (n d : Nat) (o : Option Int) : sIx n d o = HT.sIx n d o := by cases o <;> rfl
theorem RelL.cut {μ : Mu} {H : Hp} {ds : List D} {vs : List V} (r : F.RelL μ H ds vs) (lo hi : Option Int) : F.RelL μ H (Pf.cut ds lo hi) (cutV vs lo hi) := by
  unfold Pf.cut cutV
  rw [← r.length, sIx_eq, sIx_eq]
  exact (r.drop _).take _
theorem slr_of {k : Sto → D → Option Int → Option Int → Option D} (h : ∀ (x : V) (lo hi : Option Int) (H : Hp) (Q : VK) (μ : Mu) (S : Sto) (dx d : D), Sz H → F.Sim μ S H → F.Rel μ H dx x → k S dx lo hi = some d → Then F μ H S d Q →
    ∃ r, SlR X r ∧ r x lo hi H fun v H' => Sz H' → Q v H') : SlR X (fun x lo hi H Q => Sz H → ∃ μ S dx, F.Sim μ S H ∧ F.Rel μ H dx x ∧ ∃ d, k S dx lo hi = some d ∧ Then F μ H S d Q) := by
  intro pins s σ H x v vl vu lo hi sl Q I rx hs pl pu hq
  obtain ⟨μ, S, dx, sim, r1, d, e, w⟩ := hq (sz_of I.hok)
  obtain ⟨r, hr, q⟩ := h x lo hi H Q μ S dx d (sz_of I.hok) sim r1 e w
  obtain ⟨T, id, h1, h2, h3⟩ := hr pins s σ H x v vl vu lo hi sl _ I rx hs pl pu q
  exact ⟨T, id, h1, h2, thn h3 fun u s1 ⟨v, H', I', r, q'⟩ => ⟨v, H', I', r, q' (sz_of I'.hok)⟩⟩
theorem sl_all (ok : Ok X F) : SlR X (fun x lo hi H Q => Sz H → ∃ μ S dx, F.Sim μ S H ∧ F.Rel μ H dx x ∧ ∃ d, slcOp S dx lo hi = some d ∧ Then F μ H S d Q) := by
  refine slr_of fun x lo hi H Q μ S dx d z sim r1 e w => ?_
  unfold slcOp at e
  split at e
  · rename_i xs h1
    cases e
    obtain ⟨a, vs, rfl, n1, e1, q1⟩ := res_tup r1 h1
    refine ⟨_, sl_tupA, a, vs, rfl, .inl (.inl e1), fun hw => ?_, fun hw => Then.tup w sim (q1.cut lo hi)⟩
    have ec : Pf.cut xs lo hi = xs := by
      unfold Pf.cut
      rw [sIx_eq, sIx_eq, q1.length, hw.1, hw.2, List.drop_zero, Nat.sub_zero, ← q1.length, List.take_length]
    rw [ec] at w
    exact Then.same w sim (.tup n1 e1 q1)
  · rename_i xs h1
    cases e
    obtain ⟨a, vs, rfl, e1, q1⟩ := res_lst sim r1 h1
    exact ⟨_, sl_list, a, vs, rfl, .inl (.inl e1), Then.lst w sim (q1.cut lo hi)⟩
  · rename_i zs h1
    simp only [Option.ite_none_right_eq_some, Option.some.injEq] at e
    obtain ⟨hl, rfl⟩ := e
    obtain rfl := res_str r1 h1
    refine ⟨_, sl_str, toS zs, rfl, by rw [← big_eq]; simpa [Str.length] using hl, ?_⟩
    have ec : cutS (toS zs) lo hi = toS (Pf.cut zs lo hi) := by
      unfold cutS Pf.cut
      simp [sIx_eq, Str.length]
    rw [ec]
    exact Then.same w sim (.str _)
  · cases e
end
end Pf
end

section 
set_option Elab.async false
set_option linter.all false
set_option maxRecDepth 100000
set_option maxHeartbeats 1000000
/-! PfJ: built-in functions. -/
namespace Pf
open PySem PySem.Spec PyProof.Rows L2

def rC (F : Fx) (k : Sto → List D → Option D) : List V → Hp → VK → Prop := fun xs H Q => Sz H → ∃ μ S ds, F.Sim μ S H ∧ F.RelL μ H ds xs ∧ ∃ d, k S ds = some d ∧ Then F μ H S d Q
section
variable {X : Cx} {F : Fx}
theorem callr_of {f : Value} {k : Sto → List D → Option D} (h : ∀ (xs : List V) (H : Hp) (Q : VK) (μ : Mu) (S : Sto) (ds : List D) (d : D), Sz H → F.Sim μ S H → F.RelL μ H ds xs → k S ds = some d → Then F μ H S d Q →
    ∃ r, CallR X f r ∧ r xs H fun v H' => Sz H' → Q v H') : CallR X f (rC F k) := by
  intro pins s σ H xs us Q I rx hq
  obtain ⟨μ, S, ds, sim, r1, d, e, w⟩ := hq (sz_of I.hok)
  obtain ⟨r, hr, q⟩ := h xs H Q μ S ds d (sz_of I.hok) sim r1 e w
  exact thn (hr pins s σ H xs us _ I rx q) fun u s1 ⟨v, H', I', r, q'⟩ => ⟨v, H', I', r, q' (sz_of I'.hok)⟩
section
variable {μ : Mu} {H : Hp}
theorem RelL.one {d : D} {xs : List V} (r : F.RelL μ H [d] xs) : ∃ x, xs = [x] ∧ F.Rel μ H d x := by
  cases r with
  | cons h r => cases r; exact ⟨_, rfl, h⟩
theorem RelL.two {d e : D} {xs : List V} (r : F.RelL μ H [d, e] xs) : ∃ x y, xs = [x, y] ∧ F.Rel μ H d x ∧ F.Rel μ H e y := by
  cases r with
  | cons h r =>
    obtain ⟨y, rfl, h'⟩ := RelL.one r
    exact ⟨_, _, rfl, h, h'⟩
theorem RelL.nil0 {xs : List V} (r : F.RelL μ H [] xs) : xs = [] := by cases r; rfl
end
theorem c_len (ok : Ok X F) : CallR X (.builtin "len") (rC F fun S ds => biOp S .len ds) := by
  refine callr_of fun xs H Q μ S ds d z sim r e w => ?_
  unfold biOp at e
  split at e <;> try contradiction
  rename_i dd _
  obtain ⟨x, rfl, rx⟩ := RelL.one r
  obtain ⟨n, e0, rfl⟩ := Option.map_eq_some_iff.mp e
  clear e
  have e := e0
  clear e0
  unfold lenOp at e
  split at e
  · rename_i zs h1
    have hl : zs.length ≤ big := by
      by_cases q : zs.length ≤ big
      · exact q
      · rw [if_neg q] at e; cases e
    rw [if_pos hl] at e
    cases e
    obtain rfl := res_str rx h1
    refine ⟨_, call_len_str, toS zs, rfl, by rw [← big_eq]; simpa [Str.length] using hl, ?_⟩
    rw [show ((toS zs).length : Int) = (zs.length : Int) by simp [Str.length]]
    exact Then.same w sim (.int _)
  · rename_i zs h1
    cases e
    obtain ⟨a, vs, rfl, n1, e1, q1⟩ := res_tup rx h1
    refine ⟨_, call_len_seq, a, vs, rfl, .inr (.inl (.inl e1)), ?_⟩
    rw [← q1.length]
    exact Then.same w sim (.int _)
  · rename_i zs h1
    cases e
    obtain ⟨a, vs, rfl, e1, q1⟩ := res_lst sim rx h1
    refine ⟨_, call_len_seq, a, vs, rfl, .inl (.inl (.inl e1)), ?_⟩
    rw [← q1.length]
    exact Then.same w sim (.int _)
  · rename_i ns h1
    cases e
    obtain ⟨a, rfl, e1⟩ := res_scr rx h1
    refine ⟨_, call_len_seq, a, ns.map V.int, rfl, .inl (by rw [ok.hK]; exact e1), ?_⟩
    rw [List.length_map]
    exact Then.same w sim (.int _)
  · rename_i t ks vs h1
    cases e
    cases t with
    | false =>
      obtain ⟨a, kvs, rfl, e1, rfl, q⟩ := res_dK sim rx h1
      refine ⟨_, call_lenD, a, kvs, rfl, e1, ?_⟩
      rw [List.length_map] at w
      exact Then.same w sim (.int _)
    | true =>
      obtain ⟨a, kvs, rfl, e1, rfl, q⟩ := res_dT sim rx h1
      refine ⟨_, call_len_dT, a, kvs, rfl, ?_, ?_⟩
      · first | exact e1 | exact .inl e1
      · rw [List.length_map] at w
        exact Then.same w sim (.int _)
  · cases e
theorem c_abs (ok : Ok X F) : CallR X (.builtin "abs") (rC F fun S ds => biOp S .abs ds) := by
  refine callr_of fun xs H Q μ S ds d z sim r e w => ?_
  unfold biOp at e
  split at e <;> try contradiction
  cases e
  obtain ⟨x, rfl, rx⟩ := RelL.one r
  cases rx
  exact ⟨_, call_abs, _, rfl, Then.same w sim (.int _)⟩
theorem lstOf_rel {μ : Mu} {S : Sto} {H : Hp} {d : D} {v : V} {xs : List D} (sim : F.Sim μ S H) (r : F.Rel μ H d v) (e : lstOf S d = some xs) : ∃ a vs, v = .ref a ∧ H a = some (.lst vs) ∧ F.RelL μ H xs vs := by
  unfold lstOf at e
  split at e
  · rename_i h
    cases e
    exact res_lst sim r h
  · cases e
theorem c_all (ok : OkC X F) : CallR X (.builtin "all") (rC F fun S ds => biOp S .all ds) := by
  refine callr_of fun xs H Q μ S ds d z sim r e w => ?_
  unfold biOp at e
  split at e <;> try contradiction
  obtain ⟨x, rfl, rx⟩ := RelL.one r
  obtain ⟨bs, e0, rfl⟩ := Option.map_eq_some_iff.mp e
  clear e
  have e := e0
  clear e0
  obtain ⟨ys, e1, e2⟩ := Option.bind_eq_some_iff.mp e
  obtain ⟨a, vs, rfl, h1, q1⟩ := lstOf_rel sim rx e1
  obtain ⟨_, rfl⟩ := q1.of_bls e2
  exact ⟨_, cr_all ok.calm, a, bs, rfl, .inl (.inl h1), Then.same w sim (.bl _)⟩
theorem c_any (ok : OkC X F) : CallR X (.builtin "any") (rC F fun S ds => biOp S .any ds) := by
  refine callr_of fun xs H Q μ S ds d z sim r e w => ?_
  unfold biOp at e
  split at e <;> try contradiction
  obtain ⟨x, rfl, rx⟩ := RelL.one r
  obtain ⟨bs, e0, rfl⟩ := Option.map_eq_some_iff.mp e
  clear e
  have e := e0
  clear e0
  obtain ⟨ys, e1, e2⟩ := Option.bind_eq_some_iff.mp e
  obtain ⟨a, vs, rfl, h1, q1⟩ := lstOf_rel sim rx e1
  obtain ⟨_, rfl⟩ := q1.of_bls e2
  exact ⟨_, cr_any ok.calm, a, bs, rfl, .inl (.inl h1), Then.same w sim (.bl _)⟩
theorem c_sum (ok : OkC X F) : CallR X (.builtin "sum") (rC F fun S ds => biOp S .sum ds) := by
  refine callr_of fun xs H Q μ S ds d z sim r e w => ?_
  unfold biOp at e
  split at e <;> try contradiction
  obtain ⟨x, rfl, rx⟩ := RelL.one r
  obtain ⟨bs, e0, rfl⟩ := Option.map_eq_some_iff.mp e
  clear e
  have e := e0
  clear e0
  obtain ⟨ys, e1, e2⟩ := Option.bind_eq_some_iff.mp e
  obtain ⟨a, vs, rfl, h1, q1⟩ := lstOf_rel sim rx e1
  obtain ⟨_, rfl⟩ := q1.of_ints e2
  exact ⟨_, cr_sum ok.calm, a, bs, rfl, .inl (.inl h1), Then.same w sim (.int _)⟩
theorem foldl_max_ge : ∀ (l : List Int) (a : Int), a ≤ l.foldl max a ∧ ∀ x ∈ l, x ≤ l.foldl max a
  | [], a => ⟨Int.le_refl _, by simp⟩
  | y :: l, a => by
    obtain ⟨h1, h2⟩ := foldl_max_ge l (max a y)
    refine ⟨by rw [List.foldl_cons]; omega, fun x hx => ?_⟩
    rw [List.foldl_cons]
    rcases List.mem_cons.mp hx with rfl | hx
    · omega
    · exact h2 x hx
theorem foldl_max_mem : ∀ (l : List Int) (a : Int), l.foldl max a ∈ a :: l
  | [], a => by simp
  | y :: l, a => by
    rw [List.foldl_cons]
    rcases List.mem_cons.mp (foldl_max_mem l (max a y)) with h | h
    · rw [h]
      by_cases q : a ≤ y
      · rw [Int.max_eq_right q]; simp
      · rw [Int.max_eq_left (by omega)]; simp
    · simp [h]
theorem foldl_min_le : ∀ (l : List Int) (a : Int), l.foldl min a ≤ a ∧ ∀ x ∈ l, l.foldl min a ≤ x
  | [], a => ⟨Int.le_refl _, by simp⟩
  | y :: l, a => by
    obtain ⟨h1, h2⟩ := foldl_min_le l (min a y)
    refine ⟨by rw [List.foldl_cons]; omega, fun x hx => ?_⟩
    rw [List.foldl_cons]
    rcases List.mem_cons.mp hx with rfl | hx
    · omega
    · exact h2 x hx
theorem foldl_min_mem : ∀ (l : List Int) (a : Int), l.foldl min a ∈ a :: l
  | [], a => by simp
  | y :: l, a => by
    rw [List.foldl_cons]
    rcases List.mem_cons.mp (foldl_min_mem l (min a y)) with h | h
    · rw [h]
      by_cases q : a ≤ y
      · rw [Int.min_eq_left q]; simp
      · rw [Int.min_eq_right (by omega)]; simp
    · simp [h]
theorem maxI_spec {l : List Int} {m : Int} (h : maxI l = some m) : m ∈ l ∧ ∀ x ∈ l, x ≤ m := by
  cases l with
  | nil => cases h
  | cons a l =>
    cases h
    refine ⟨foldl_max_mem l a, fun x hx => ?_⟩
    rcases List.mem_cons.mp hx with rfl | hx
    · exact (foldl_max_ge l _).1
    · exact (foldl_max_ge l a).2 x hx
theorem minI_spec {l : List Int} {m : Int} (h : minI l = some m) : m ∈ l ∧ ∀ x ∈ l, m ≤ x := by
  cases l with
  | nil => cases h
  | cons a l =>
    cases h
    refine ⟨foldl_min_mem l a, fun x hx => ?_⟩
    rcases List.mem_cons.mp hx with rfl | hx
    · exact (foldl_min_le l _).1
    · exact (foldl_min_le l a).2 x hx
theorem c_max1 (ok : OkC X F) : CallR X (.builtin "max") (rC F fun S ds => biOp S .max1 ds) := by
  refine callr_of fun xs H Q μ S ds d z sim r e w => ?_
  unfold biOp at e
  split at e <;> try contradiction
  obtain ⟨x, rfl, rx⟩ := RelL.one r
  obtain ⟨m, e0, rfl⟩ := Option.map_eq_some_iff.mp e
  clear e
  have e := e0
  clear e0
  obtain ⟨ns, e0, em⟩ := Option.bind_eq_some_iff.mp e
  obtain ⟨ys, e1, e2⟩ := Option.bind_eq_some_iff.mp e0
  obtain ⟨a, vs, rfl, h1, q1⟩ := lstOf_rel sim rx e1
  obtain ⟨_, rfl⟩ := q1.of_ints e2
  obtain ⟨m1, m2⟩ := maxI_spec em
  refine ⟨_, cr_max ok.calm, a, ns, rfl, .inl (.inl h1), List.length_pos_of_mem m1, fun m' h1' h2' => ?_⟩
  have : m' = m := Int.le_antisymm (m2 m' h1') (h2' m m1)
  subst this
  exact Then.same w sim (.int _)
theorem c_max2 (ok : OkC X F) : CallR X (.builtin "max") (rC F fun S ds => biOp S .max2 ds) := by
  refine callr_of fun xs H Q μ S ds d z sim r e w => ?_
  unfold biOp at e
  split at e <;> try contradiction
  cases e
  obtain ⟨x, y, rfl, rx, ry⟩ := RelL.two r
  cases rx
  cases ry
  exact ⟨_, call_max2 ok.calm, _, _, rfl, Then.same w sim (.int _)⟩
theorem c_min2 (ok : OkC X F) : CallR X (.builtin "min") (rC F fun S ds => biOp S .min2 ds) := by
  refine callr_of fun xs H Q μ S ds d z sim r e w => ?_
  unfold biOp at e
  split at e <;> try contradiction
  cases e
  obtain ⟨x, y, rfl, rx, ry⟩ := RelL.two r
  cases rx
  cases ry
  exact ⟨_, call_min2 ok.calm, _, _, rfl, Then.same w sim (.int _)⟩
theorem c_divmod (ok : Ok X F) : CallR X (.builtin "divmod") (rC F fun S ds => biOp S .divmod ds) := by
  refine callr_of fun xs H Q μ S ds d z sim r e w => ?_
  unfold biOp at e
  split at e <;> try contradiction
  rename_i i j _
  simp only [Option.ite_none_right_eq_some, Option.some.injEq] at e
  obtain ⟨hl, rfl⟩ := e
  obtain ⟨x, y, rfl, rx, ry⟩ := RelL.two r
  cases rx
  cases ry
  exact ⟨_, call_divmod, _, _, rfl, hl, Then.tup w sim (.cons (.int _) (.cons (.int _) .nil))⟩
theorem c_tuple (ok : Ok X F) : CallR X (.type "tuple") (rC F fun S ds => biOp S .tuple ds) := by
  refine callr_of fun xs H Q μ S ds d z sim r e w => ?_
  unfold biOp at e
  split at e <;> try contradiction
  obtain ⟨x, rfl, rx⟩ := RelL.one r
  obtain ⟨ys, e0, rfl⟩ := Option.map_eq_some_iff.mp e
  clear e
  have e := e0
  clear e0
  unfold seqOf at e
  split at e
  · rename_i zs h1
    cases e
    obtain ⟨a, vs, rfl, n1, e1, q1⟩ := res_tup rx h1
    exact ⟨_, call_tuple_of, a, vs, rfl, .inr ⟨.inl (.inl e1), Then.same w sim (.tup n1 e1 q1)⟩⟩
  · rename_i zs h1
    cases e
    obtain ⟨a, vs, rfl, e1, q1⟩ := res_lst sim rx h1
    exact ⟨_, call_tuple_of, a, vs, rfl, .inl ⟨.inl (.inl e1), Then.tup w sim q1⟩⟩
  · cases e
theorem c_list (ok : Ok X F) : CallR X (.type "list") (rC F fun S ds => biOp S .list ds) := by
  refine callr_of fun xs H Q μ S ds d z sim r e w => ?_
  unfold biOp at e
  split at e <;> try contradiction
  obtain ⟨x, rfl, rx⟩ := RelL.one r
  split at e
  · rename_i zs h1
    cases e
    obtain ⟨a, vs, rfl, n1, e1, q1⟩ := res_tup rx h1
    exact ⟨_, call_list_of, a, vs, rfl, .inr (.inl (.inl e1)), Then.lst w sim q1⟩
  · rename_i zs h1
    cases e
    obtain ⟨a, vs, rfl, e1, q1⟩ := res_lst sim rx h1
    exact ⟨_, call_list_of, a, vs, rfl, .inl (.inl (.inl e1)), Then.lst w sim q1⟩
  · cases e
theorem c_int (ok : Ok X F) : CallR X (.type "int") (rC F fun S ds => biOp S .int ds) := by
  refine callr_of fun xs H Q μ S ds d z sim r e w => ?_
  unfold biOp at e
  split at e <;> try contradiction
  · cases e
    obtain ⟨x, rfl, rx⟩ := RelL.one r
    cases rx
    exact ⟨_, call_int1, .inl ⟨_, rfl, Then.same w sim (.int _)⟩⟩
  · cases e
    obtain ⟨x, rfl, rx⟩ := RelL.one r
    cases rx
    exact ⟨_, call_int1, .inr ⟨_, rfl, Then.same w sim (.int _)⟩⟩
end
end Pf
end

section 
set_option Elab.async false
set_option linter.all false
set_option maxRecDepth 100000
set_option maxHeartbeats 4000000
/-! PfJT: sorted(a tuple of pairs). -/
namespace Pf
open PySem PySem.Spec PyProof.Rows Srt SrtO
section
variable {prog : Program} {w : World} {A : Around} {E : Value → Shared → Prop} {s : Shared}
/-- what a walk through a tuple gathers -/
theorem gather_tup {l : Addr} {vs : List Value} {Q : List Value → Shared → Prop} (hl : s.heap.IsTuple l vs.toArray) (hz : vs.length ≤ sizeLine)
    (h : Q vs { s with heap := (s.heap.push (seqObj "list" #[] 0)).update s.heap.objs.size (Obj.mapSeq (· ++ vs.toArray)) }) : wpAny (model prog w) A (collect (.ref l)) Q E s := by
  obtain ⟨o, ho, hc, n, hd⟩ := id hl
  have at0 : (s.heap.push (seqObj "list" #[] 0)).get? s.heap.objs.size = some (seqObj "list" #[] 0) := Heap.get?_push_size _ rfl
  have ho' : (s.heap.push (seqObj "list" #[] 0)).get? l = some o := Heap.get?_push_of_some _ ho
  unfold collect
  refine wpAny_bind (wpAny_runValue (codeAny_builtin entry_proto_collect' ?_))
  refine wpAny_bind (wpAny_newList (wpAny_pure ⟨Code.quiet_builtin _ (by decide +kernel), codeAny_builtin entry_list_iadd' ?_⟩))
  show wpAny _ _ (Builtin.List.listExtendWith (.ref s.heap.objs.size) (.ref l) (.ref s.heap.objs.size)) _ _ { s with heap := s.heap.push (seqObj "list" #[] 0) }
  unfold Builtin.List.listExtendWith
  refine wpAny_bind (wpAny_typeOf (T := "tuple") ⟨o, ho', hc⟩ ?_)
  rw [if_pos (by rw [show (Value.type "tuple" == Value.type "tuple") = true from rfl]; simp)]
  refine wpAny_bind (listItems_at ho' hd (wpAny_bind (listItems_at (xs := #[]) (n := 0) at0 rfl ?_)))
  rw [if_neg (by simp)]
  refine wpAny_bind (listUpdate_at (xs := #[]) (n := 0) at0 rfl ?_ (Nat.zero_le _) (by show (#[] ++ vs.toArray).size ≤ sizeLine + 1; simp only [Array.size_append, List.size_toArray, List.length_nil]; omega))
  refine wpAny_pure ?_
  refine wpAny_bind (wpAny_load (get?_update_seq at0 _) ?_)
  show wpAny _ _ (pure ((#[] : Array Value) ++ vs.toArray).toList) Q E _
  rw [show ((#[] : Array Value) ++ vs.toArray).toList = vs by simp]
  exact wpAny_pure h
theorem sorted_tup {l : Addr} {vs : List Value} {k : Value → Int × Int} {Q : Value → Shared → Prop} (hl : s.heap.IsTuple l vs.toArray) (hz : vs.length ≤ sizeLine) (hp : ∀ v ∈ vs, IsPair s.heap v (k v).1 (k v).2)
    (h : ∀ (h' : Heap) (d : Addr) (out : List Value), Srtd (fun v u => lexB (k v) (k u)) out → Stb (fun v u => lexB (k v) (k u)) out vs → (∀ b o, s.heap.get? b = some o → h'.get? b = some o) → s.heap.objs.size ≤ d → (∃ n, h'.get? d = some (seqObj "list" out.toArray n)) → Q (.ref d) { s with heap := h' }) :
    wpAny (model prog w) A (call (.builtin "sorted") [.ref l]) Q E s := by
  refine Calls.call_function_entry kind_sorted plain_sorted entry_sorted (args_sorted1 _) ?_
  unfold Builtin.«sorted»
  refine wpAny_bind (m := checkCount "sorted" 1 1 _) (wpAny_pure ?_)
  refine wpAny_bind (gather_tup hl hz ?_)
  refine wpAny_bind (wpAny_newList ?_ hz)
  generalize hg : (s.heap.push (seqObj "list" #[] 0)).update s.heap.objs.size (Obj.mapSeq (· ++ vs.toArray)) = g
  have gs : g.objs.size = s.heap.objs.size + 1 := by rw [← hg, Heap.size_update, size_push']
  have go : ∀ b o, s.heap.get? b = some o → g.get? b = some o := fun b o q => by
    rw [← hg, Heap.get?_update_ne _ _ _ _ (Nat.ne_of_lt (Heap.lt_size q))]
    exact Heap.get?_push_of_some _ q
  have new : (g.push (seqObj "list" vs.toArray 0)).get? g.objs.size = some (seqObj "list" vs.toArray 0) := Heap.get?_push_size _ rfl
  refine wpAny_bind (wpAny_holding (wpAny_call_entry slot_list_sort ⟨_, new, rfl⟩ entry_list_sort (list_sort_ord (swo_lex k) new hz (fun h2 => ?_) fun out hs hb => ⟨_, rfl, ?_⟩) (args_list_sort _)))
  · refine pairs_sortableO (by omega) (fun v hm => (hp v hm).keeps fun b o e _ => Heap.get?_push_of_some _ (go b o e)) fun o e => ?_
    cases e.symm.trans new
    intro c
    exact absurd (Value.type.inj c) (by decide)
  · refine wpAny_pure ⟨_, rfl, ?_⟩
    have e1 := sortedAll_at s.heap vs out.toArray
    have e2 : ∀ b o, s.heap.get? b = some o → (sortedAll s.heap vs out.toArray).get? b = some o := fun b o e => sortedAll_old e
    have e3 : s.heap.objs.size ≤ s.heap.objs.size + 1 := Nat.le_succ _
    have r := h _ _ out hs hb e2 e3 e1
    unfold sortedAll at r
    rw [hg] at r
    rw [gs]
    exact r
end
section
open L2
variable {X : Cx}
def rSortedTP (K : PySem.W.Frag) : List V → Hp → VK → Prop := fun vs H Q => ∃ (a : Addr) (xs : List V) (k : V → Int × Int), vs = [V.ref a] ∧ SqT K H a xs ∧ (∀ x ∈ xs, ∃ t, x = V.ref t ∧ H t = some (.tup [.int (k x).1, .int (k x).2])) ∧
  ∀ ys p, Srtd (ltP k) ys → Stb (ltP k) ys xs → H p = none → Q (.ref p) (upd H p (.lst ys))
theorem cr_sortedTP : CallR X (.builtin "sorted") (rSortedTP X.K) := by
  intro pins s σ H vs us Q I r h
  obtain ⟨a, xs, k, rfl, hs, hx, q⟩ := h
  obtain ⟨its, rv, pt, hz⟩ := I.tuple hs
  rw [Vals.ref1 r]
  obtain ⟨e1, e2⟩ := refs_back rv fun x m => let ⟨t, e, _⟩ := hx x m; ⟨t, e⟩
  refine sorted_tup (k := fun u => k (backV u)) pt (by rw [← rv.length]; exact hz) (fun v hv => ?_) fun h' d out h1 h2 kp hd hn => ?_
  · obtain ⟨t, rfl⟩ := e2 v hv
    obtain ⟨t', e, ht⟩ := hx _ (by rw [e1]; exact List.mem_map.mpr ⟨_, hv, rfl⟩)
    cases e
    obtain ⟨_, its2, r2, o, ho, hc, n, hd⟩ := I.hok _ _ ht
    obtain ⟨u1, u2, rfl, ⟨t1, rfl⟩, ⟨t2, rfl⟩⟩ := vals2 r2
    exact ⟨t, o, t1, t2, n, rfl, ho, hc, hd⟩
  · obtain ⟨n, hn⟩ := hn
    have hb : Stb (ltP k) (out.map backV) xs := by rw [e1]; exact Stb.map (ltP_swo k) backV h2
    refine ⟨.ref d, upd H d (.lst (out.map backV)), I.laid (t' := s.toks) kp hd ⟨by rw [hb.len]; exact hz, out, n, vals_back fun u hu => e2 u (h2.perm.mem_iff.mp hu), hn⟩, rfl, q _ d (srtd_map h1) hb (I.hok.fresh hd)⟩
end
end Pf
end

section 
set_option Elab.async false
set_option linter.all false
set_option maxRecDepth 100000
set_option maxHeartbeats 1000000
/-! PfK: sorted; isinstance. -/
namespace Pf
open PySem PySem.Spec PyProof.Rows L2

theorem sortI_perm (l : List Int) : (sortI l).Perm l := List.mergeSort_perm _ _
theorem sortI_sorted (l : List Int) : (sortI l).Pairwise (· ≤ ·) := by
  have h := List.pairwise_mergeSort (le := fun a b : Int => decide (a ≤ b)) (by intro a b c h1 h2; simp only [decide_eq_true_eq] at *; omega) (by intro a b; simp only [Bool.or_eq_true, decide_eq_true_eq]; omega) l
  exact h.imp fun h => of_decide_eq_true h
theorem pairLe_iff {a b : Int × Int} : pairLe a b = true ↔ a.1 < b.1 ∨ (a.1 = b.1 ∧ a.2 ≤ b.2) := by simp [pairLe]
theorem sortP_perm (l : List (Int × Int)) : (sortP l).Perm l := List.mergeSort_perm _ _
theorem sortP_sorted (l : List (Int × Int)) : (sortP l).Pairwise (fun a b => pairLe a b = true) :=
  List.pairwise_mergeSort (le := pairLe) (by intro a b c h1 h2; rw [pairLe_iff] at *; omega) (by intro a b; rw [Bool.or_eq_true, pairLe_iff, pairLe_iff]; omega) l
theorem perm_sorted_eq {α : Type} {le : α → α → Prop} (anti : ∀ a b, le a b → le b a → a = b) : ∀ {l m : List α}, l.Perm m → l.Pairwise le → m.Pairwise le → l = m
  | [], m, p, _, _ => (List.Perm.eq_nil p.symm).symm
  | x :: l, [], p, _, _ => absurd p.length_eq (by simp)
  | x :: l, y :: m, p, hl, hm => by
    have e : x = y := by
      rcases List.mem_cons.mp (p.mem_iff.mp List.mem_cons_self) with h | h
      · exact h
      · rcases List.mem_cons.mp (p.mem_iff.mpr List.mem_cons_self) with h' | h'
        · exact h'.symm
        · exact anti x y ((List.pairwise_cons.mp hl).1 y h') ((List.pairwise_cons.mp hm).1 x h)
    subst e
    rw [perm_sorted_eq anti p.cons_inv (List.pairwise_cons.mp hl).2 (List.pairwise_cons.mp hm).2]
theorem sortP_uniq {l m : List (Int × Int)} (p : l.Perm m) (h : l.Pairwise (fun a b => pairLe a b = true)) : l = sortP m :=
  perm_sorted_eq (le := fun a b => pairLe a b = true) (fun a b h1 h2 => by rw [pairLe_iff] at h1 h2; exact Prod.ext (by omega) (by omega)) (p.trans (sortP_perm m).symm) h (sortP_sorted m)
theorem sortI_uniq {l m : List Int} (p : l.Perm m) (h : l.Pairwise (· ≤ ·)) : l = sortI m :=
  perm_sorted_eq (le := (· ≤ ·)) (fun a b h1 h2 => Int.le_antisymm h1 h2) (p.trans (sortI_perm m).symm) h (sortI_sorted m)
/-- the two ints of a pair -/
def two (H : Hp) (x : V) : Int × Int := match x with
  | .ref t => match H t with
    | some (.tup [.int a, .int b]) => (a, b)
    | _ => (0, 0)
  | _ => (0, 0)
section
variable {F : Fx} {μ : Mu} {H : Hp}
theorem pair_rel {d : D} {v : V} {p : Int × Int} (r : F.Rel μ H d v) (e : pairOf d = some p) : d = pairD p ∧ ∃ t, v = .ref t ∧ t ∉ μ ∧ H t = some (.tup [.int p.1, .int p.2]) := by
  unfold pairOf at e
  split at e
  · cases e
    cases r with
    | tup h1 h2 h3 =>
      obtain ⟨x, y, rfl, r1, r2⟩ := RelL.two h3
      cases r1
      cases r2
      exact ⟨rfl, _, rfl, h1, h2⟩
  · cases e
theorem pairs_rel : ∀ {ds : List D} {vs : List V} {ps : List (Int × Int)}, F.RelL μ H ds vs → allOf pairOf ds = some ps → vs.map (two H) = ps ∧ ∀ x ∈ vs, ∃ t, x = .ref t ∧ t ∉ μ ∧ H t = some (.tup [.int (two H x).1, .int (two H x).2])
  | _, _, _, .nil, e => by cases e; exact ⟨rfl, by simp⟩
  | _, _, ps, .cons (d := d) (ds := ds) (v := v) h r, e => by
    unfold allOf at e
    split at e
    · rename_i y ys h1 h2
      cases e
      obtain ⟨a, b⟩ := pairs_rel r h2
      obtain ⟨_, t, rfl, n, ht⟩ := pair_rel h h1
      have e2 : two H (.ref t) = y := by simp [two, ht]
      refine ⟨by rw [List.map_cons, a, e2], fun x hx => ?_⟩
      rcases List.mem_cons.mp hx with rfl | hx
      · exact ⟨t, rfl, n, by rw [e2]; exact ht⟩
      · exact b x hx
    · cases e
theorem rel_pairs : ∀ {vs : List V}, (∀ x ∈ vs, ∃ t, x = .ref t ∧ t ∉ μ ∧ H t = some (.tup [.int (two H x).1, .int (two H x).2])) → F.RelL μ H ((vs.map (two H)).map pairD) vs
  | [], _ => .nil
  | x :: vs, h => by
    obtain ⟨t, e, n, ht⟩ := h x (by simp)
    refine .cons ?_ (rel_pairs fun y hy => h y (by simp [hy]))
    rw [e] at ht ⊢
    exact .tup n ht (.cons (.int _) (.cons (.int _) .nil))
end
section
variable {X : Cx} {F : Fx}
theorem c_sorted (ok : Ok X F) : CallR X (.builtin "sorted") (rC F fun S ds => biOp S .sorted ds) := by
  refine callr_of fun xs H Q μ S ds d z sim r e w => ?_
  unfold biOp at e
  split at e <;> try contradiction
  · obtain ⟨x, rfl, rx⟩ := RelL.one r
    obtain ⟨ps, hp, rfl⟩ := Option.map_eq_some_iff.mp e
    cases rx with
    | tup t1 t2 t3 =>
      obtain ⟨h2, h3⟩ := pairs_rel t3 hp
      refine ⟨_, cr_sortedTP, _, _, two H, rfl, .inl (.inl t2), fun x hx => let ⟨t, h4, _, h5⟩ := h3 x hx; ⟨t, h4, h5⟩, fun ys p s1 s2 np => ?_⟩
      have hm : ys.map (two H) = sortP ps := by
        rw [← h2]
        refine sortP_uniq (s2.perm.map _) ?_
        refine List.pairwise_map.mpr (List.Pairwise.imp ?_ s1)
        intro x y hxy
        have := SrtO.lexB_no.mp hxy
        rw [pairLe_iff]
        omega
      rw [← hm] at w
      exact Then.lst w sim (rel_pairs fun x hx => h3 x (s2.perm.mem_iff.mp hx)) p np
  · obtain ⟨x, rfl, rx⟩ := RelL.one r
    obtain ⟨zs, e0, rfl⟩ := Option.map_eq_some_iff.mp e
    obtain ⟨ys, e1, e2⟩ := Option.bind_eq_some_iff.mp e0
    obtain ⟨a, vs, rfl, h1, q1⟩ := lstOf_rel sim rx e1
    unfold sortOp at e2
    split at e2
    · rename_i ns hn
      cases e2
      obtain ⟨_, rfl⟩ := q1.of_ints hn
      refine ⟨_, cr_sortedI, a, ns, rfl, .inl (.inl h1), fun ns' p p1 p2 np => ?_⟩
      rw [← sortI_uniq p1 p2] at w
      exact Then.lst w sim (RelL.ints ns') p np
    · obtain ⟨ps, hp, e3⟩ := Option.map_eq_some_iff.mp e2
      subst e3
      obtain ⟨h2, h3⟩ := pairs_rel q1 hp
      refine ⟨_, cr_sortedPO, a, vs, two H, rfl, .inl (.inl h1), fun x hx => let ⟨t, h4, _, h5⟩ := h3 x hx; ⟨t, h4, h5⟩, fun ys p s1 s2 np => ?_⟩
      have hm : ys.map (two H) = sortP ps := by
        rw [← h2]
        refine sortP_uniq (s2.perm.map _) ?_
        refine List.pairwise_map.mpr (List.Pairwise.imp ?_ s1)
        intro x y hxy
        have := SrtO.lexB_no.mp hxy
        rw [pairLe_iff]
        omega
      rw [← hm] at w
      exact Then.lst w sim (rel_pairs fun x hx => h3 x (s2.perm.mem_iff.mp hx)) p np
/-! ### isinstance -/
def tyName : Ty → String
  | .int => "int"
  | .bool => "bool"
  | .str => "str"
  | .tuple => "tuple"
  | .dict => "dict"
theorem kit_int (t : Ty) : kitB "int" (tyName t) = some (decide (t = .int)) := by cases t <;> decide +kernel
theorem kit_bool (t : Ty) : kitB "bool" (tyName t) = some (decide (t = .bool) || decide (t = .int)) := by cases t <;> decide +kernel
theorem kit_str (t : Ty) : kitB "str" (tyName t) = some (decide (t = .str)) := by cases t <;> decide +kernel
theorem kit_tuple (t : Ty) : kitB "tuple" (tyName t) = some (decide (t = .tuple)) := by cases t <;> decide +kernel
theorem kit_dict (t : Ty) : kitB "dict" (tyName t) = some (decide (t = .dict)) := by cases t <;> decide +kernel
theorem kit_list (t : Ty) : kitB "list" (tyName t) = some false := by cases t <;> decide +kernel
theorem kit_none (t : Ty) : kitB "NoneType" (tyName t) = some false := by cases t <;> decide +kernel
theorem isTy_rel {μ : Mu} {S : Sto} {H : Hp} {d : D} {x : V} {t : Ty} {b : Bool} (sim : F.Sim μ S H) (r : F.Rel μ H d x) (e : isTy S t d = some b) : ∃ n, TyX F.K H x (.type n) ∧ kitB n (tyName t) = some b := by
  unfold isTy at e
  split at e <;> try contradiction
  · rename_i i h; cases e; obtain rfl := res_int r h; exact ⟨_, .base (.int i), kit_int t⟩
  · rename_i i h; cases e; obtain rfl := res_bl r h; exact ⟨_, .base (.bl i), kit_bool t⟩
  · rename_i i h; cases e; obtain rfl := res_str r h; exact ⟨_, .base (.str _), kit_str t⟩
  · rename_i i h; cases e; obtain ⟨a, vs, rfl, _, h1, _⟩ := res_tup r h; exact ⟨_, .base (.tup h1), kit_tuple t⟩
  · rename_i tt ks vs h
    cases e
    cases tt with
    | false => obtain ⟨a, vs, rfl, h1, _⟩ := res_dK sim r h; exact ⟨_, .base (.dK h1), kit_dict t⟩
    | true => obtain ⟨a, vs, rfl, h1, _⟩ := res_dT sim r h; exact ⟨_, .base (.dT h1), kit_dict t⟩
  · rename_i i h; cases e; obtain ⟨a, vs, rfl, h1, _⟩ := res_lst sim r h; exact ⟨_, .base (.lst h1), kit_list t⟩
  · rename_i h; cases e; obtain rfl := res_non r h; exact ⟨_, .base .non, kit_none t⟩
end
end Pf
end

section 
set_option Elab.async false
set_option linter.all false
set_option maxRecDepth 100000
set_option maxHeartbeats 1000000
/-! PfL: expressions, node by node. -/
namespace Pf
open PySem PySem.Spec PyProof.Rows L2

theorem truth_rel {F : Fx} {μ : Mu} {S : Sto} {H : Hp} {d : D} {x : V} {b : Bool} (sim : F.Sim μ S H) (r : F.Rel μ H d x) (e : truth S d = some b) : TruV F.K x H b := by
  unfold truth at e
  split at e <;> try contradiction
  · rename_i h; cases e; obtain rfl := res_non r h; rfl
  · rename_i h; cases e; obtain rfl := res_bl r h; rfl
  · rename_i h; cases e; obtain rfl := res_int r h; rfl
  · rename_i z h
    have hl : z.length ≤ big := by
      by_cases q : z.length ≤ big
      · exact q
      · rw [if_neg q] at e; cases e
    rw [if_pos hl] at e
    cases e
    obtain rfl := res_str r h
    refine ⟨by rw [← big_eq]; simpa [Str.length] using hl, ?_⟩
    cases z with
    | nil => rfl
    | cons c z =>
      show true = (((toS (c :: z)).length : Int) != 0)
      have : ((toS (c :: z)).length : Int) ≠ 0 := by simp [Str.length]; omega
      simpa using this
  · rename_i h; cases e; obtain ⟨a, vs, rfl, _, h1, q⟩ := res_tup r h
    refine .inr (.inl ⟨vs, .inl (.inl h1), ?_⟩)
    cases q <;> rfl
  · rename_i h; cases e; obtain ⟨a, vs, rfl, h1, q⟩ := res_lst sim r h
    refine .inl ⟨vs, .inl (.inl h1), ?_⟩
    cases q <;> rfl
/-- a test's value -/
noncomputable def tst (f : SemE D) : SemE Bool := fun ρ S => (f ρ S).bind fun x S1 => Out.opt S1 (truth S1 x)
section
variable {X : Cx} {F : Fx} {W : WX} {a b c e : Expr} {f g h : SemE D} {pos : Pos}
theorem snd_var {i : Nat} {x : Str} (hN : X.N[i]? = some x) (hv : Vis X.env.scope x) (h1 : (x == ("__debug__" : Str)) = false) (h2 : (x == ("__classdict__" : Str)) = false) : PE X (.Name x pos) (tE F W fun ρ S => Out.opt S (ρ[i]?.join)) := by
  refine pe_of fun σ H Q μ ρ S z c w => ⟨_, pe_var hN hv h1 h2, ?_⟩
  obtain ⟨d, e, w⟩ := Wish.opt w
  obtain ⟨v, e1, r⟩ := c.env.2 i d (by
    cases q : ρ[i]? with
    | none => rw [q] at e; cases e
    | some o => rw [q] at e; exact congrArg some e)
  exact ⟨v, e1, Wish.done w Step.refl c.sim r⟩
def cstB : Const → D → Bool
  | .none, .non => true
  | .bool b, .bl c => b == c
  | .int i, .int j => decide (i = j)
  | .str x, .str z => decide (x.cps.toList = z)
  | _, _ => false
theorem snd_cst {k : Const} {j : Nat} {d : D} (hc : cstB k d = true) : PE X (.Constant k j pos) (tE F W fun _ S => .ok d S) := by
  refine pe_of fun σ H Q μ ρ S z c w => ?_
  unfold cstB at hc
  split at hc
  · exact ⟨_, pe_non, Wish.done w Step.refl c.sim .non⟩
  · obtain rfl := eq_of_beq hc
    exact ⟨_, pe_bl, Wish.done w Step.refl c.sim (.bl _)⟩
  · obtain rfl := of_decide_eq_true hc
    exact ⟨_, pe_int, Wish.done w Step.refl c.sim (.int _)⟩
  · obtain rfl := of_decide_eq_true hc
    refine ⟨_, pe_str, ?_⟩
    rename_i x
    have : F.Rel μ H (.str x.cps.toList) (.str x) := by
      have := Pf.Rel.str (K := F.K) (ξ := F.xs) (μ := μ) (H := H) x.cps.toList
      simpa using this
    exact Wish.done w Step.refl c.sim this
  · cases hc
def dV : D → V
  | .int i => .int i
  | .str z => .str (toS z)
  | .bl b => .bl b
  | _ => .non
def flat0 : D → Bool
  | .int _ => true
  | .str _ => true
  | .bl _ => true
  | .non => true
  | _ => false
theorem dV_rel {μ : Mu} {H : Hp} {d : D} (h : flat0 d = true) : F.Rel μ H d (dV d) := by
  cases d <;> first
    | exact .int _
    | exact .str _
    | exact .bl _
    | exact .non
    | cases h
theorem snd_glb {x : Str} {d : D} {u : Value} (hg : Gl X x) (hm : X.mg x = some u) (hf : flat0 d = true) (r : RelV (dV d) u) (h1 : (x == ("__debug__" : Str)) = false) : PE X (.Name x pos) (tE F W fun _ S => .ok d S) := by
  refine pe_of fun σ H Q μ ρ S z c w => ⟨_, pe_glob hg hm r h1, ?_⟩
  exact Wish.done w Step.refl c.sim (dV_rel hf)
theorem snd_bin (ok : Ok X F) {op : Operator} {o : Bop} (ho : bopOk op o = true) (ha : PE X a (tE F W f)) (hb : PE X b (tE F W g)) : PE X (.BinOp a op b pos) (tE F W fun ρ S => (f ρ S).bind fun x S1 => (g ρ S1).bind fun y S2 => Out.opt S2 (binOp S2 o x y)) :=
  pe_of fun σ H Q μ ρ S z c w => ⟨_, pe_op (op_binD ok ho) ha hb, two_ok c (w.imp fun _ _ q _ => q)⟩
theorem behind_of (op : CmpOp) {b : Expr} (h : ∀ es k p, b ≠ .Set es k p) : behindInMarks op b = false := by
  cases b <;> first
    | rfl
    | exact (h _ _ _ rfl).elim
theorem snd_cmp (ok : Ok X F) {op : CmpOp} {o : Cop} (ho : copOk op o = true) (hs : ∀ es k p, b ≠ .Set es k p) (ha : PE X a (tE F W f)) (hb : PE X b (tE F W g)) :
    PE X (.Compare a [op] [b] pos) (tE F W fun ρ S => (f ρ S).bind fun x S1 => (g ρ S1).bind fun y S2 => Out.opt S2 ((cmpOp S2 o x y).map .bl)) :=
  pe_of fun σ H Q μ ρ S z c w => ⟨_, pe_cmpR (op_cmpD ok ho) ha hb (behind_of op hs), two_ok (k := fun S x y => (cmpOp S o x y).map .bl) c (w.imp fun _ _ q _ => q)⟩
theorem Out.bind_assoc {α β γ : Type} (o : Out α) (k : α → Sto → Out β) (l : β → Sto → Out γ) : (o.bind k).bind l = o.bind fun x S => (k x S).bind l := by cases o <;> rfl
theorem snd_cmpT (ok : Ok X F) {op : CmpOp} {o : Cop} (ho : copOk op o = true) (hs : ∀ es k p, b ≠ .Set es k p) (ha : PE X a (tE F W f)) (hb : PE X b (tE F W g)) :
    PT X (.Compare a [op] [b] pos) (tT F W (tst fun ρ S => (f ρ S).bind fun x S1 => (g ρ S1).bind fun y S2 => Out.opt S2 ((cmpOp S2 o x y).map .bl))) := by
  refine pt_of fun σ H Q μ ρ S z c w => ⟨_, pt_cmpR (op_cmpD ok ho) ha hb (behind_of op hs), ?_⟩
  simp only [tst, Out.bind_assoc] at w
  refine tG.of c (Wish.bind w fun x S1 μ1 H1 vx t1 r1 w1 => ?_)
  refine tG.of (c.to t1) (Wish.bind w1 fun y S2 μ2 H2 vy t2 r2 w2 => ?_)
  cases e : cmpOp S2 o x y with
  | none => rw [e] at w2; exact w2.elim
  | some k =>
    rw [e] at w2
    refine fun z => ⟨μ2, S2, x, y, t2.sim, r1.mono t2.st, r2, .bl k, by show Option.map D.bl (cmpOp S2 o x y) = some (D.bl k); rw [e]; rfl, fun μ' H' v to r => ?_⟩
    cases r
    exact ⟨k, rfl, fun _ => w2 μ' H' k to rfl⟩
/-- a test that is its value's truth -/
def plainT : Expr → Bool
  | .UnaryOp .Not _ _ => false
  | .BoolOp _ _ _ => false
  | .IfExp _ _ _ _ => false
  | .Compare _ _ _ _ => false
  | _ => true
theorem isTrue_plainT (h : plainT e = true) : ∀ whole, isTrue e X.env whole = (do let v ← whole; standAt e.pos; holding [v] (truthy v)) := by
  intro whole
  cases e <;> first
    | rfl
    | cases h
    | (rename_i op _ _; cases op <;> first | rfl | cases h)
theorem snd_truth (ok : Ok X F) (ha : PE X a (tE F W f)) (h : plainT a = true) : PT X a (tT F W (tst f)) := by
  refine pt_of fun σ H Q μ ρ S z c w => ⟨_, pt_truth ha (isTrue_plainT h), ?_⟩
  simp only [tst] at w
  refine tG.of c (Wish.bind w fun x S1 μ1 H1 vx t1 r1 w1 => ?_)
  obtain ⟨k, e, w2⟩ := Wish.opt w1
  exact ⟨k, by rw [ok.hK]; exact truth_rel t1.sim r1 e, Wish.done w2 Step.refl t1.sim rfl⟩
theorem snd_not (ok : Ok X F) (ha : PE X a (tE F W f)) : PE X (.UnaryOp .Not a pos) (tE F W fun ρ S => (f ρ S).bind fun x S1 => Out.opt S1 ((truth S1 x).map fun b => .bl (!b))) := by
  refine pe_of fun σ H Q μ ρ S z c w => ⟨_, pe_notT ha, ?_⟩
  refine tG.of c (Wish.bind w fun x S1 μ1 H1 vx t1 r1 w1 => ?_)
  cases e : truth S1 x with
  | none => rw [e] at w1; exact w1.elim
  | some k =>
    rw [e] at w1
    exact ⟨k, by rw [ok.hK]; exact truth_rel t1.sim r1 e, Wish.done w1 Step.refl t1.sim (.bl _)⟩
theorem snd_notT (ha : PT X a (tT F W (tst f))) : PT X (.UnaryOp .Not a pos) (tT F W (tst fun ρ S => (f ρ S).bind fun x S1 => Out.opt S1 ((truth S1 x).map fun b => .bl (!b)))) := by
  refine pt_of fun σ H Q μ ρ S z c w => ⟨_, pt_not ha, ?_⟩
  refine tG.of c ?_
  simp only [tst, Out.bind_assoc] at w ⊢
  cases o : f ρ S with
  | stuck => rw [o] at w; exact w
  | exn k x S1 => rw [o] at w; exact w
  | ok x S1 =>
    rw [o] at w
    simp only [Out.ok_bind] at w ⊢
    cases e : truth S1 x with
    | none => rw [e] at w; exact w
    | some k =>
      rw [e] at w
      intro μ' H' b to hb
      subst hb
      exact fun _ => w μ' H' _ to rfl
theorem snd_and (ok : Ok X F) {rest : List Expr} (ha : PE X a (tE F W f)) (hb : PE X (.BoolOp .And (b :: rest) pos) (tE F W g)) :
    PE X (.BoolOp .And (a :: b :: rest) pos) (tE F W fun ρ S => (f ρ S).bind fun x S1 => (Out.opt S1 (truth S1 x)).bind fun t S2 => if t = true then g ρ S2 else .ok x S2) := by
  refine pe_of fun σ H Q μ ρ S z c w => ⟨_, pe_andT ha hb, ?_⟩
  refine tG.of c (Wish.bind w fun x S1 μ1 H1 vx t1 r1 w1 => ?_)
  cases e : truth S1 x with
  | none => rw [e] at w1; exact w1.elim
  | some k =>
    rw [e] at w1
    refine ⟨k, by rw [ok.hK]; exact truth_rel t1.sim r1 e, ?_⟩
    cases k with
    | true => exact tG.of (c.to t1) (Wish.imp w1 fun _ _ q _ => q)
    | false => exact Wish.done w1 Step.refl t1.sim r1
theorem snd_or (ok : Ok X F) {rest : List Expr} (ha : PE X a (tE F W f)) (hb : PE X (.BoolOp .Or (b :: rest) pos) (tE F W g)) :
    PE X (.BoolOp .Or (a :: b :: rest) pos) (tE F W fun ρ S => (f ρ S).bind fun x S1 => (Out.opt S1 (truth S1 x)).bind fun t S2 => if t = true then .ok x S2 else g ρ S2) := by
  refine pe_of fun σ H Q μ ρ S z c w => ⟨_, pe_orT ha hb, ?_⟩
  refine tG.of c (Wish.bind w fun x S1 μ1 H1 vx t1 r1 w1 => ?_)
  cases e : truth S1 x with
  | none => rw [e] at w1; exact w1.elim
  | some k =>
    rw [e] at w1
    refine ⟨k, by rw [ok.hK]; exact truth_rel t1.sim r1 e, ?_⟩
    cases k with
    | false => exact tG.of (c.to t1) (Wish.imp w1 fun _ _ q _ => q)
    | true => exact Wish.done w1 Step.refl t1.sim r1
theorem snd_andT {rest : List Expr} (ha : PT X a (tT F W (tst f))) (hb : PW X (.BoolOp .And (b :: rest) pos) (tT F W (tst g))) :
    PW X (.BoolOp .And (a :: b :: rest) pos) (tT F W (tst fun ρ S => (f ρ S).bind fun x S1 => (Out.opt S1 (truth S1 x)).bind fun t S2 => if t = true then g ρ S2 else .ok x S2)) := by
  refine pw_of fun σ H Q μ ρ S z c w => ⟨_, pw_and ha hb, ?_⟩
  refine tG.of c ?_
  simp only [tst, Out.bind_assoc] at w ⊢
  cases o : f ρ S with
  | stuck => rw [o] at w; exact w
  | exn k x S1 => rw [o] at w; exact w
  | ok x S1 =>
    rw [o] at w
    simp only [Out.ok_bind] at w ⊢
    cases e : truth S1 x with
    | none => rw [e] at w; exact w
    | some k =>
      rw [e] at w
      intro μ' H' b to hb
      subst hb
      cases k with
      | true =>
        simp only [Out.opt_some, Out.ok_bind, if_true] at w
        exact tG.of (c.to to) ((Wish.after to w).imp fun _ _ q _ => q)
      | false =>
        simp only [Out.opt_some, Out.ok_bind, Bool.false_eq_true, if_false, e] at w
        exact fun _ => w μ' H' _ to rfl
theorem snd_orT {rest : List Expr} (ha : PT X a (tT F W (tst f))) (hb : PW X (.BoolOp .Or (b :: rest) pos) (tT F W (tst g))) :
    PW X (.BoolOp .Or (a :: b :: rest) pos) (tT F W (tst fun ρ S => (f ρ S).bind fun x S1 => (Out.opt S1 (truth S1 x)).bind fun t S2 => if t = true then .ok x S2 else g ρ S2)) := by
  refine pw_of fun σ H Q μ ρ S z c w => ⟨_, pw_or ha hb, ?_⟩
  refine tG.of c ?_
  simp only [tst, Out.bind_assoc] at w ⊢
  cases o : f ρ S with
  | stuck => rw [o] at w; exact w
  | exn k x S1 => rw [o] at w; exact w
  | ok x S1 =>
    rw [o] at w
    simp only [Out.ok_bind] at w ⊢
    cases e : truth S1 x with
    | none => rw [e] at w; exact w
    | some k =>
      rw [e] at w
      intro μ' H' b to hb
      subst hb
      cases k with
      | false =>
        simp only [Out.opt_some, Out.ok_bind, Bool.false_eq_true, if_false] at w
        exact tG.of (c.to to) ((Wish.after to w).imp fun _ _ q _ => q)
      | true =>
        simp only [Out.opt_some, Out.ok_bind, if_true, e] at w
        exact fun _ => w μ' H' _ to rfl
theorem snd_ite (hc : PT X c (tT F W (tst f))) (ha : PE X a (tE F W g)) (hb : PE X b (tE F W h)) :
    PE X (.IfExp c a b pos) (tE F W fun ρ S => (f ρ S).bind fun x S1 => (Out.opt S1 (truth S1 x)).bind fun t S2 => if t = true then g ρ S2 else h ρ S2) := by
  refine pe_of fun σ H Q μ ρ S z c w => ⟨_, pe_ifExp hc ha hb, ?_⟩
  refine tG.of c ?_
  simp only [tst]
  cases o : f ρ S with
  | stuck => rw [o] at w; exact w
  | exn k x S1 => rw [o] at w; exact w
  | ok x S1 =>
    rw [o] at w
    simp only [Out.ok_bind] at w ⊢
    cases e : truth S1 x with
    | none => rw [e] at w; exact w
    | some k =>
      rw [e] at w
      intro μ' H' b to hb
      subst hb
      cases k with
      | true =>
        simp only [Out.opt_some, Out.ok_bind, if_true] at w
        exact tG.of (c.to to) ((Wish.after to w).imp fun _ _ q _ => q)
      | false =>
        simp only [Out.opt_some, Out.ok_bind, Bool.false_eq_true, if_false] at w
        exact tG.of (c.to to) ((Wish.after to w).imp fun _ _ q _ => q)
theorem snd_neg (ha : PE X a (tE F W f)) : PE X (.UnaryOp .USub a pos) (tE F W fun ρ S => (f ρ S).bind fun x S1 => Out.opt S1 ((intOf x).map fun i => .int (-i))) := by
  refine pe_of fun σ H Q μ ρ S z c w => ⟨_, pe_un un_neg ha, ?_⟩
  refine tG.of c (Wish.bind w fun x S1 μ1 H1 vx t1 r1 w1 => ?_)
  obtain ⟨d, e, w2⟩ := Wish.opt w1
  obtain ⟨i, e1, rfl⟩ := Option.map_eq_some_iff.mp e
  cases x <;> simp only [intOf, reduceCtorEq, Option.some.injEq] at e1
  subst e1
  cases r1
  exact ⟨_, rfl, Wish.done w2 Step.refl t1.sim (.int _)⟩
/-- what stands as an index: no slice -/
def noSl : Expr → Bool
  | .Slice _ _ _ _ => false
  | _ => true
theorem plainIx_of (h : noSl b = true) : PlainIx b := by
  intro o i
  cases b <;> first
    | rfl
    | cases h
theorem snd_idx (ok : Ok X F) (hs : noSl b = true) (ha : PE X a (tE F W f)) (hb : PE X b (tE F W g)) : PE X (.Subscript a b pos) (tE F W fun ρ S => (f ρ S).bind fun x S1 => (g ρ S1).bind fun y S2 => Out.opt S2 (idxOp S2 x y)) :=
  pe_of fun σ H Q μ ρ S z c w => ⟨_, pe_ix (ix_all ok) ha hb (plainIx_of hs), two_ok (k := idxOp) c (w.imp fun _ _ q _ => q)⟩
end
end Pf
end

section 
set_option Elab.async false
set_option linter.all false
set_option maxRecDepth 100000
set_option maxHeartbeats 1000000
/-! PfM: displays, calls, what is made anew. -/
namespace Pf
open PySem PySem.Spec PyProof.Rows L2

/-! ### what is made anew -/
def newHO (F : Fx) (μ : Mu) (H : Hp) : D → HO → Prop
  | .lst ds, .lst xs => F.RelL μ H ds xs
  | .dic false ks vs, .dK kvs => ks = kvs.map (fun p => kD p.1) ∧ F.RelL μ H vs (kvs.map (·.2))
  | .dic true ks vs, .dT kvs => ks = kvs.map (fun p => .tup (p.1.map kD)) ∧ F.RelL μ H vs (kvs.map (·.2))
  | _, _ => False
def isNew : D → Bool
  | .lst _ => true
  | .dic _ _ _ => true
  | _ => false
def WishN (F : Fx) (W : WX) (σ : St) (μ : Mu) (H : Hp) (o : Out D) (Q : VK) : Prop := match o with
  | .ok d S' => isNew d = true ∧ ∀ μ' H1 p ho, Sz (upd H1 p ho) → Step μ H μ' H1 → F.Sim μ' S' H1 → H1 p = none → newHO F μ' H1 d ho → Q (.ref p) (upd H1 p ho)
  | .exn c x S' => ∀ μ' H' cls dd, To F μ H S' μ' H' → ExR F μ' H' c x cls dd → W cls dd σ H'
  | .stuck => False
def tN (F : Fx) (W : WX) (f : SemE D) : TE := fun σ H Q => Sz H → ∃ μ ρ S, Cfg F μ ρ S σ H ∧ WishN F W σ μ H (f ρ S) Q
/-- as a name of the store -/
noncomputable def mutS (f : SemE D) : SemE D := fun ρ S => (f ρ S).bind fun x S1 => match x with
    | .lst xs => .ok (.ref S1.length) (S1 ++ [.lst xs])
    | .dic t ks vs => .ok (.ref S1.length) (S1 ++ [.dic t ks vs])
    | _ => .stuck
section
variable {X : Cx} {F : Fx} {W : WX} {a b c e : Expr} {f g h : SemE D} {pos : Pos}
theorem pn_of (h : ∀ σ H Q μ ρ S, Sz H → Cfg F μ ρ S σ H → WishN F W σ μ H (f ρ S) Q → ∃ t, PE X e t ∧ t σ H fun v H' => Sz H' → Q v H') : PE X e (tN F W f) := by
  refine ⟨fun pins s σ H Q I hq => ?_⟩
  obtain ⟨μ, ρ, S, c, w⟩ := hq (sz_of I.hok)
  obtain ⟨t, ht, q⟩ := h σ H Q μ ρ S (sz_of I.hok) c w
  exact thn (ht.run pins s σ H _ I q) fun u s1 ⟨v, H', I', r, q'⟩ => ⟨v, H', I', r, q' (sz_of I'.hok)⟩
theorem new_rel {μ : Mu} {S : Sto} {H : Hp} {p : Addr} {d : D} {ho : HO} (sim : F.Sim μ S H) (np : H p = none) (n : newHO F μ H d ho) : F.Rel μ (upd H p ho) d (.ref p) := by
  cases d with
  | lst ds =>
    cases ho with
    | lst xs => exact .lst (sim.fresh np) upd_same (RelL.up np n)
    | _ => exact n.elim
  | dic t ks vs =>
    cases t with
    | false =>
      cases ho with
      | dK kvs =>
        obtain ⟨rfl, r⟩ := n
        exact .dK (sim.fresh np) upd_same (RelL.up np r)
      | _ => exact n.elim
    | true =>
      cases ho with
      | dT kvs =>
        obtain ⟨rfl, r⟩ := n
        exact .dT (sim.fresh np) upd_same (RelL.up np r)
      | _ => exact n.elim
  | _ => exact n.elim
theorem pure_new (hn : ∀ ρ S d S', f ρ S = .ok d S' → isNew d = true) (h : PE X e (tN F W f)) : PE X e (tE F W f) := by
  refine pe_of fun σ H Q μ ρ S z c w => ⟨_, h, fun _ => ⟨μ, ρ, S, c, ?_⟩⟩
  cases o : f ρ S with
  | stuck => rw [o] at w; exact w
  | exn k x S1 => rw [o] at w; exact w
  | ok d S1 =>
    rw [o] at w
    refine ⟨hn ρ S d S1 o, fun μ' H1 p ho z1 st sim np n _ => w μ' _ _ ⟨z1, st.trans (Step.alloc np) sim.nd, sim.alloc np⟩ (new_rel sim np n)⟩
theorem mut_new (h : PE X e (tN F W f)) : PE X e (tE F W (mutS f)) := by
  refine pe_of fun σ H Q μ ρ S z c w => ⟨_, h, fun _ => ⟨μ, ρ, S, c, ?_⟩⟩
  unfold mutS at w
  cases o : f ρ S with
  | stuck => rw [o] at w; exact w
  | exn k x S1 => rw [o] at w; exact w
  | ok d S1 =>
    rw [o] at w
    simp only [Out.ok_bind] at w
    cases d with
    | lst ds =>
      refine ⟨rfl, fun μ' H1 p ho z1 st sim np n _ => ?_⟩
      cases ho with
      | lst xs =>
        have hs : F.Sim (μ'.push p) (S1 ++ [.lst ds]) (upd H1 p (.lst xs)) := sim.push np ⟨xs, upd_same, n.mono (Step.push np)⟩
        refine w (μ'.push p) _ _ ⟨z1, st.trans (Step.push np) hs.nd, hs⟩ (.ref ?_)
        show (_ ++ [_])[_]? = _
        rw [← sim.len, List.getElem?_append_right (Nat.le_refl _)]
        simp
      | _ => exact n.elim
    | dic t ks vs =>
      refine ⟨rfl, fun μ' H1 p ho z1 st sim np n _ => ?_⟩
      cases t with
      | false =>
        cases ho with
        | dK kvs =>
          obtain ⟨e1, r⟩ := n
          have hs : F.Sim (μ'.push p) (S1 ++ [.dic false ks vs]) (upd H1 p (.dK kvs)) := sim.push np ⟨kvs, upd_same, e1, r.mono (Step.push np)⟩
          refine w (μ'.push p) _ _ ⟨z1, st.trans (Step.push np) hs.nd, hs⟩ (.ref ?_)
          show (_ ++ [_])[_]? = _
          rw [← sim.len, List.getElem?_append_right (Nat.le_refl _)]
          simp
        | _ => exact n.elim
      | true =>
        cases ho with
        | dT kvs =>
          obtain ⟨e1, r⟩ := n
          have hs : F.Sim (μ'.push p) (S1 ++ [.dic true ks vs]) (upd H1 p (.dT kvs)) := sim.push np ⟨kvs, upd_same, e1, r.mono (Step.push np)⟩
          refine w (μ'.push p) _ _ ⟨z1, st.trans (Step.push np) hs.nd, hs⟩ (.ref ?_)
          show (_ ++ [_])[_]? = _
          rw [← sim.len, List.getElem?_append_right (Nat.le_refl _)]
          simp
        | _ => exact n.elim
    | _ => exact w.elim
/-- a part, then what makes it -/
theorem WishN.bind {α β : Type} {R : Mu → Hp → α → β → Prop} {o : Out α} {k : α → Sto → Out D} {Q : VK} {Q1 : β → Hp → Prop} {σ : St} {μ : Mu} {H : Hp} (h : WishN F W σ μ H (o.bind k) Q)
    (i : ∀ a S' μ' H' b, To F μ H S' μ' H' → R μ' H' a b → WishN F W σ μ' H' (k a S') Q → Q1 b H') : Wish F W σ μ H R o Q1 := by
  cases o with
  | ok a S' =>
    intro μ' H' b t r
    refine i a S' μ' H' b t r ?_
    simp only [Out.ok_bind] at h
    cases q : k a S' with
    | ok d S2 => rw [q] at h; exact ⟨h.1, fun μ2 H1 p ho z1 st sim np n => h.2 μ2 H1 p ho z1 (t.st.trans st sim.nd) sim np n⟩
    | exn c x S2 => rw [q] at h; exact fun μ2 H2 cls dd t2 r2 => h μ2 H2 cls dd (t.trans t2) r2
    | stuck => rw [q] at h; exact h
  | exn c x S' => exact h
  | stuck => exact h
theorem WishN.opt {σ : St} {μ : Mu} {H : Hp} {S : Sto} {o : Option D} {Q : VK} (h : WishN F W σ μ H (Out.opt S o) Q) : ∃ a, o = some a ∧ WishN F W σ μ H (.ok a S) Q := by
  cases o with
  | none => exact h.elim
  | some a => exact ⟨a, rfl, h⟩
theorem WishN.lst {σ : St} {μ : Mu} {H : Hp} {S : Sto} {ds : List D} {xs : List V} {Q : VK} (h : WishN F W σ μ H (.ok (.lst ds) S) Q) (sim : F.Sim μ S H) (r : F.RelL μ H ds xs) : ∀ p, H p = none → Sz (upd H p (.lst xs)) → Q (.ref p) (upd H p (.lst xs)) :=
  fun p np z => h.2 μ H p (.lst xs) z Step.refl sim np r

/-! ### lists of arguments -/
def notStar : Expr → Bool
  | .Starred _ _ => false
  | _ => true
theorem star_cons {es : List Expr} {env : PySem.Env} (h : notStar e = true) : starEach (e :: es) env = (false, eval e env) :: starEach es env := by
  cases e <;> first
    | rfl
    | cases h
theorem star_none {env : PySem.Env} : ∀ {es : List Expr}, es.all notStar = true → (backTo pos (starEach es env)).any (·.1) = false
  | [], _ => rfl
  | e :: es, h => by
    rw [List.all_cons, Bool.and_eq_true] at h
    rw [star_cons h.1]
    have := star_none (env := env) h.2
    simp only [backTo, List.map_cons, List.any_cons, Bool.false_or] at this ⊢
    exact this
noncomputable def consS (f : SemE D) (g : SemE (List D)) : SemE (List D) := fun ρ S => (f ρ S).bind fun d S1 => (g ρ S1).bind fun ds S2 => .ok (d :: ds) S2
theorem snd_nil : PA X [] (tA F W fun _ S => .ok [] S) := pa_of fun σ H Q μ ρ S z c w => ⟨_, pa_nil, Wish.done w Step.refl c.sim .nil⟩
theorem snd_cons {es : List Expr} {gs : SemE (List D)} (hs : notStar e = true) (ha : PE X e (tE F W f)) (hr : PA X es (tA F W gs)) : PA X (e :: es) (tA F W (consS f gs)) := by
  refine pa_of fun σ H Q μ ρ S z c w => ⟨_, pa_cons ha hr (star_cons hs), ?_⟩
  refine tG.of c (Wish.bind w fun x S1 μ1 H1 vx t1 r1 w1 => ?_)
  refine tG.of (c.to t1) (Wish.bind w1 fun xs S2 μ2 H2 vs t2 r2 w2 => ?_)
  exact Wish.done w2 Step.refl t2.sim (.cons (r1.mono t2.st) r2)
theorem snd_tup {es : List Expr} {k : Nat} {gs : SemE (List D)} (hl : es.length ≤ 1000) (hlen : ∀ ρ S ds S', gs ρ S = .ok ds S' → ds.length = es.length) (ha : PA X es (tA F W gs)) : PE X (.Tuple es k pos) (tE F W fun ρ S => (gs ρ S).bind fun ds S1 => .ok (.tup ds) S1) := by
  refine pe_of fun σ H Q μ ρ S z c w => ⟨_, pe_tup ha, ?_⟩
  refine tG.of c ?_
  cases o : gs ρ S with
  | stuck => rw [o] at w; exact w
  | exn k x S1 => rw [o] at w; exact w
  | ok ds S1 =>
    rw [o] at w
    intro μ1 H1 vs t1 r1
    refine ⟨?_, fun p np z => w μ1 _ _ ⟨z, t1.st.trans (Step.alloc np) t1.sim.nd, t1.sim.alloc np⟩ (.tup (t1.sim.fresh np) upd_same (RelL.up np r1))⟩
    rw [← r1.length, hlen ρ S ds S1 o, sizeLine_eq]; omega
theorem snd_lst {es : List Expr} {gs : SemE (List D)} (hl : es.length ≤ 1000) (hlen : ∀ ρ S ds S', gs ρ S = .ok ds S' → ds.length = es.length) (ha : PA X es (tA F W gs)) : PE X (.List es pos) (tN F W fun ρ S => (gs ρ S).bind fun ds S1 => .ok (.lst ds) S1) := by
  refine pn_of fun σ H Q μ ρ S z c w => ⟨_, pe_lst ha, ?_⟩
  refine tG.of c ?_
  cases o : gs ρ S with
  | stuck => rw [o] at w; exact w
  | exn k x S1 => rw [o] at w; exact w
  | ok ds S1 =>
    rw [o] at w
    intro μ1 H1 vs t1 r1
    refine ⟨?_, fun p np z => w.2 μ1 H1 p (.lst vs) z t1.st t1.sim np r1⟩
    rw [← r1.length, hlen ρ S ds S1 o, sizeLine_eq]; omega
theorem lst_new {gs : SemE (List D)} : ∀ ρ S d S', ((fun ρ S => (gs ρ S).bind fun ds S1 => .ok (.lst ds) S1) : SemE D) ρ S = .ok d S' → isNew d = true := by
  intro ρ S d S' h
  simp only at h
  cases o : gs ρ S with
  | stuck => rw [o] at h; cases h
  | exn k x S1 => rw [o] at h; cases h
  | ok ds S1 => rw [o] at h; cases h; rfl
/-! ### slices -/
abbrev tO (F : Fx) (W : WX) (f : SemE (Option Int)) : TO := tG F W (fun _ _ a b => a = b) f
theorem snd_none : PO X none (tO F W fun _ S => .ok none S) := by
  refine ⟨fun pins s σ H Q I hq => ?_⟩
  obtain ⟨μ, ρ, S, c, w⟩ := hq (sz_of I.hok)
  exact po_none.run pins s σ H Q I (w μ H _ ⟨sz_of I.hok, Step.refl, c.sim⟩ rfl)
theorem snd_some (ha : PE X a (tE F W f)) : PO X (some a) (tO F W fun ρ S => (f ρ S).bind fun d S1 => Out.opt S1 ((intOf d).map some)) := by
  refine ⟨fun pins s σ H Q I hq => ?_⟩
  obtain ⟨μ, ρ, S, c, w⟩ := hq (sz_of I.hok)
  refine (po_some ha).run pins s σ H Q I ?_
  refine tG.of c (Wish.bind w fun x S1 μ1 H1 vx t1 r1 w1 => ?_)
  obtain ⟨d, e, w2⟩ := Wish.opt w1
  obtain ⟨i, e1, rfl⟩ := Option.map_eq_some_iff.mp e
  cases x <;> simp only [intOf, reduceCtorEq, Option.some.injEq] at e1
  subst e1
  cases r1
  exact ⟨_, rfl, w2 μ1 H1 _ ⟨t1.sz, Step.refl, t1.sim⟩ rfl⟩
theorem snd_slc (ok : Ok X F) {lo hi : Option Expr} {fl fh : SemE (Option Int)} {p2 : Pos} (ha : PE X a (tE F W f)) (hl : PO X lo (tO F W fl)) (hh : PO X hi (tO F W fh)) :
    PE X (.Subscript a (.Slice lo hi none p2) pos) (tE F W fun ρ S => (f ρ S).bind fun x S1 => (fl ρ S1).bind fun l S2 => (fh ρ S2).bind fun h S3 => Out.opt S3 (slcOp S3 x l h)) := by
  refine pe_of fun σ H Q μ ρ S z c w => ⟨_, pe_slice (sl_all ok) ha hl hh, ?_⟩
  refine tG.of c (Wish.bind w fun x S1 μ1 H1 vx t1 r1 w1 => ?_)
  refine tG.of (c.to t1) (Wish.bind w1 fun l S2 μ2 H2 l' t2 r2 w2 => ?_)
  refine tG.of ((c.to t1).to t2) (Wish.bind w2 fun u S3 μ3 H3 u' t3 r3 w3 => ?_)
  subst r2 r3
  obtain ⟨d, e, w4⟩ := Wish.opt w3
  exact fun z => ⟨μ3, S3, x, t3.sim, (r1.mono t2.st).mono t3.st, d, e, fun μ' H' v to r _ => w4 μ' H' v to r⟩
end
end Pf
end

section 
set_option Elab.async false
set_option linter.all false
set_option maxRecDepth 100000
set_option maxHeartbeats 1000000
/-! PfN: calls. -/
namespace Pf
open PySem PySem.Spec PyProof.Rows L2

/-! ### own defs -/
def WishC (F : Fx) (μ : Mu) (H : Hp) (o : Out D) (Q : VK) (E : XK) : Prop := match o with
  | .ok d S' => ∀ μ' H' v, To F μ H S' μ' H' → F.Rel μ' H' d v → Q v H'
  | .exn c x S' => ∀ μ' H' cls dd, To F μ H S' μ' H' → ExR F μ' H' c x cls dd → E cls dd H'
  | .stuck => False
/-- a def's promise by the interpreter -/
def spF (F : Fx) (n : Nat) (g : List D → Sto → Out D) : Sp := fun vs H Q E => vs.length = n ∧ (Sz H → ∃ μ S ds, F.Sim μ S H ∧ F.RelL μ H ds vs ∧ WishC F μ H (g ds S) Q E)
/-- a def keeps a promise where no repr is under way -/
structure FnG (P : Program) (w : World) (K : PySem.W.Frag) (mg : Str → Option Value) (base : Heap) (k : Nat) (f : Addr) (fd : FuncData) (ps : List Str) (sp : Sp) : Prop where
  len : ∀ vs H Q E, sp vs H Q E → vs.length = ps.length
  run : ∀ A outer s H args us vs Q E, Room k A → A.guards = some [] → Env0 P w K mg base A outer s H → BindsTo s fd args (ps.zip us) → Vals vs us → sp vs H Q E → codeAny (model P w) A (.call (.ref f) args) (CR (L2N.CX P w) outer P w H s Q E) s
structure CallOk (X : Cx) (F : Fx) (k : Nat) (x : Str) (n : Nat) (g : List D → Sto → Out D) : Prop where
  ex : ∃ (f : Addr) (fd : FuncData) (ps : List Str), FnG X.prog X.w X.K X.mg X.base k f fd ps (spF F n g) ∧ X.mg x = some (.ref f) ∧ PySem.W.keepIn X.K (.ref f) = true ∧ Binds X.K fd ps []
  len : ∀ ds S, g ds S ≠ .stuck → ds.length = n
section
variable {X : Cx} {F : Fx} {W : WX} {a b c e : Expr} {f g h : SemE D} {pos p : Pos}
theorem pe_callG {k : Nat} {f : Addr} {fd : FuncData} {ps : List Str} {sp : Sp} {x : Str} {es : List Expr} {t : TA} (G : FnG X.prog X.w X.K X.mg X.base k f fd ps sp) (hr : Room k X.A) (hgd : X.A.guards = some []) (tk : L2N.Takes X W) (hg : Gl X x) (hm : X.mg x = some (.ref f))
    (hk : PySem.W.keepIn X.K (.ref f) = true) (hb : Binds X.K fd ps []) (ha : PA X (e :: es) t) (hd : (x == ("__debug__" : Str)) = false) (he : notStar e = true) (hs : es.all notStar = true) :
    PE X (.Call (.Name x p) (e :: es) [] pos) (tCallS sp (WE W) t) := by
  constructor
  intro pins s σ H Q I hq
  apply wpAny_Call_Name_kw
  apply ld_glob I hg hm _ hd
  refine PySem.W.callWith_K (h₀ := X.base) I.ok.mod.kin hk ?_ (star_cons he) (star_none hs)
  refine thn (ha.run pos pins s σ H _ I hq) ?_
  rintro us s1 ⟨vs, H1, I1, rv, q⟩
  refine ⟨I1.kIn, ?_⟩
  have hl : us.length = ps.length := rv.length.symm.trans (G.len _ _ _ _ q)
  have bb := hb s1 us I1.kIn (by simpa using hl)
  simp only [List.append_nil] at bb
  apply wpAny_call
  refine codeAny_mono (G.run X.A X.stack s1 H1 ⟨us, []⟩ us vs Q (WE W σ) hr hgd I1.env0 bb rv q) ?_
  intro r s2 hq2
  cases r with
  | error x => exact L2N.passAt tk σ pins H1 s1 x s2 I1 hq2
  | ok fl => cases fl <;> first
    | exact I1.after hq2
    | exact False.elim hq2
theorem snd_call (ok : Ok X F) {k n : Nat} {x : Str} {es : List Expr} {gs : SemE (List D)} {φ : List D → Sto → Out D} (tk : L2N.Takes X W) (hr : Room k X.A) (C : CallOk X F k x n φ) (hg : Gl X x) (hd : (x == ("__debug__" : Str)) = false) (hs : (e :: es).all notStar = true) (ha : PA X (e :: es) (tA F W gs)) :
    PE X (.Call (.Name x p) (e :: es) [] pos) (tE F W fun ρ S => (gs ρ S).bind fun ds S1 => φ ds S1) := by
  obtain ⟨f, fd, ps, FO, hm, hk, hb⟩ := C.ex
  rw [List.all_cons, Bool.and_eq_true] at hs
  refine pe_of fun σ H Q μ ρ S z c w => ⟨_, pe_callG FO hr ok.gd tk hg hm hk hb ha hd hs.1 hs.2, ?_⟩
  refine tG.of c (Wish.bind w fun ds S1 μ1 H1 vs t1 r1 w1 => ?_)
  refine ⟨?_, fun z => ⟨μ1, S1, ds, t1.sim, r1, ?_⟩⟩
  · rw [← r1.length]
    refine C.len ds S1 fun q => ?_
    rw [q] at w1
    exact w1
  · cases o : φ ds S1 with
    | ok d S2 => rw [o] at w1; exact fun μ' H' v to r _ => w1 μ' H' v to r
    | exn c x S2 => rw [o] at w1; exact w1
    | stuck => rw [o] at w1; exact w1
/-! ### built-in ones -/
theorem snd_callB {x : Str} {id : String} {es : List Expr} {gs : SemE (List D)} {k : Sto → List D → Option D} (hc : CallR X (.builtin id) (rC F k)) (hg : Gl X x) (hm : X.mg x = none) (hv : bootBuiltins x = some (.builtin id)) (hs : (e :: es).all notStar = true) (ha : PA X (e :: es) (tA F W gs))
    (hn : x ≠ "__name__") (hdb : (x == ("__debug__" : Str)) = false) : PE X (.Call (.Name x p) (e :: es) [] pos) (tE F W fun ρ S => (gs ρ S).bind fun ds S1 => Out.opt S1 (k S1 ds)) := by
  rw [List.all_cons, Bool.and_eq_true] at hs
  refine pe_of fun σ H Q μ ρ S z c w => ⟨_, pe_callB hc hg hm hv ha hn hdb (star_cons hs.1) (star_none hs.2), ?_⟩
  refine tG.of c (Wish.bind w fun ds S1 μ1 H1 vs t1 r1 w1 => ?_)
  obtain ⟨d, e, w2⟩ := Wish.opt w1
  exact fun z => ⟨μ1, S1, ds, t1.sim, r1, d, e, fun μ' H' v to r _ => w2 μ' H' v to r⟩
theorem snd_callT {x : Str} {T : String} {es : List Expr} {gs : SemE (List D)} {k : Sto → List D → Option D} (hc : CallR X (.type T) (rC F k)) (hg : Gl X x) (hm : X.mg x = none) (hv : bootBuiltins x = some (.type T)) (hs : (e :: es).all notStar = true) (ha : PA X (e :: es) (tA F W gs))
    (hn : x ≠ "__name__") (hdb : (x == ("__debug__" : Str)) = false) : PE X (.Call (.Name x p) (e :: es) [] pos) (tE F W fun ρ S => (gs ρ S).bind fun ds S1 => Out.opt S1 (k S1 ds)) := by
  rw [List.all_cons, Bool.and_eq_true] at hs
  refine pe_of fun σ H Q μ ρ S z c w => ⟨_, pe_callTy hc hg hm hv ha hn hdb (star_cons hs.1) (star_none hs.2), ?_⟩
  refine tG.of c (Wish.bind w fun ds S1 μ1 H1 vs t1 r1 w1 => ?_)
  obtain ⟨d, e, w2⟩ := Wish.opt w1
  exact fun z => ⟨μ1, S1, ds, t1.sim, r1, d, e, fun μ' H' v to r _ => w2 μ' H' v to r⟩
/-- list(x), anew -/
theorem snd_listN (ok : Ok X F) (hg : Gl X "list") (hm : X.mg "list" = none) (hs : notStar e = true) (ha : PE X e (tE F W f)) :
    PE X (.Call (.Name "list" p) [e] [] pos) (tN F W fun ρ S => (consS f (fun _ S => .ok [] S) ρ S).bind fun ds S1 => Out.opt S1 (biOp S1 .list ds)) := by
  have hA : PA X [e] (tA F W (consS f fun _ S => .ok [] S)) := snd_cons hs ha snd_nil
  refine pn_of fun σ H Q μ ρ S z c w => ⟨_, pe_callTy call_list_of hg hm boot_list hA (by decide) (by decide) (star_cons hs) rfl, ?_⟩
  refine tG.of c (WishN.bind w fun ds S1 μ1 H1 vs t1 r1 w1 => ?_)
  obtain ⟨d, e, w2⟩ := WishN.opt w1
  unfold biOp at e
  split at e <;> try contradiction
  obtain ⟨x, rfl, rx⟩ := RelL.one r1
  split at e
  · rename_i zs h1
    cases e
    obtain ⟨a, vs, rfl, n1, e1, q1⟩ := res_tup rx h1
    exact ⟨a, vs, rfl, .inr (.inl (.inl e1)), WishN.lst w2 t1.sim q1⟩
  · rename_i zs h1
    cases e
    obtain ⟨a, vs, rfl, e1, q1⟩ := res_lst t1.sim rx h1
    exact ⟨a, vs, rfl, .inl (.inl (.inl e1)), WishN.lst w2 t1.sim q1⟩
  · cases e
/-! ### isinstance -/
theorem snd_isi (ok : Ok X F) {t : Ty} {x y : Str} {p2 : Pos} (hx : x = "isinstance") (hg : Gl X x) (hm : X.mg x = none) (hs : notStar a = true) (ha : PE X a (tE F W f)) (hg2 : Gl X y) (hm2 : X.mg y = none) (hv2 : bootBuiltins y = some (.type (tyName t)))
    (hn : y ≠ "__name__") (hd : (y == ("__debug__" : Str)) = false) : PE X (.Call (.Name x p) [a, .Name y p2] [] pos) (tE F W fun ρ S => (f ρ S).bind fun x S1 => Out.opt S1 ((isTy S1 t x).map .bl)) := by
  subst hx
  have hA : PA X [a, .Name y p2] (tCons (tE F W f) (tCons (tC (.ty (tyName t))) tNil)) := pa_cons ha (pa_cons (pe_bltn hg2 hm2 hv2 rfl hn hd) pa_nil rfl) (star_cons hs)
  refine pe_of fun σ H Q μ ρ S z c w => ⟨_, pe_callB call_isi hg hm boot_isinstance hA (by decide) (by decide) (star_cons hs) rfl, ?_⟩
  refine tG.of c (Wish.bind w fun d S1 μ1 H1 vx t1 r1 w1 => ?_)
  obtain ⟨b, e, w2⟩ := Wish.opt w1
  obtain ⟨k, e1, rfl⟩ := Option.map_eq_some_iff.mp e
  obtain ⟨n, h1, h2⟩ := isTy_rel t1.sim r1 e1
  exact ⟨vx, .ty (tyName t), .type n, .type (tyName t), k, rfl, .ty _, by rw [ok.hK]; exact h1, kit_ty h2, Wish.done w2 Step.refl t1.sim (.bl _)⟩
/-! ### chains -/
theorem lastMarks_of {op op' : CmpOp} (h1 : ∀ es k p, c ≠ .Set es k p) : lastMarks [op, op'] [b, c] = false := behind_of op' h1
theorem snd_chain (ok : Ok X F) {op op' : CmpOp} {o o' : Cop} (ho : copOk op o = true) (ho' : copOk op' o' = true) (hs : ∀ es k p, c ≠ .Set es k p) (ha : PE X a (tE F W f)) (hb : PE X b (tE F W g)) (hc : PE X c (tE F W h)) :
    PE X (.Compare a [op, op'] [b, c] pos) (tE F W fun ρ S => (f ρ S).bind fun x S1 => (g ρ S1).bind fun y S2 => (Out.opt S2 (cmpOp S2 o x y)).bind fun t S3 =>
      if t = true then (h ρ S3).bind fun z S4 => Out.opt S4 ((cmpOp S4 o' y z).map .bl) else .ok (.bl false) S3) := by
  refine pe_of fun σ H Q μ ρ S z c w => ⟨_, pe_chain (op_cmpD ok ho) (op_cmpD ok ho') ha hb hc (lastMarks_of hs), ?_⟩
  refine tG.of c (Wish.bind w fun x S1 μ1 H1 vx t1 r1 w1 => ?_)
  refine tG.of (c.to t1) (Wish.bind w1 fun y S2 μ2 H2 vy t2 r2 w2 => ?_)
  cases e : cmpOp S2 o x y with
  | none => rw [e] at w2; exact w2.elim
  | some k =>
    rw [e] at w2
    refine fun z => ⟨μ2, S2, x, y, t2.sim, r1.mono t2.st, r2, .bl k, by show Option.map D.bl (cmpOp S2 o x y) = some (D.bl k); rw [e]; rfl, fun μ' H' v to r => ?_⟩
    cases r
    refine ⟨k, rfl, ?_⟩
    simp only [Out.opt_some, Out.ok_bind] at w2
    have w3 := Wish.after to w2
    cases k with
    | false => exact Wish.done w3 Step.refl to.sim (.bl _)
    | true =>
      refine tG.of (((c.to t1).to t2).to to) (Wish.bind w3 fun u S3 μ3 H3 vu t3 r3 w4 => ?_)
      obtain ⟨d, e2, w5⟩ := Wish.opt w4
      exact fun z => ⟨μ3, S3, y, u, t3.sim, (r2.mono to.st).mono t3.st, r3, d, e2, fun μ' H' v to r _ => w5 μ' H' v to r⟩
theorem snd_chainT (ok : Ok X F) {op op' : CmpOp} {o o' : Cop} (ho : copOk op o = true) (ho' : copOk op' o' = true) (hs : ∀ es k p, c ≠ .Set es k p) (ha : PE X a (tE F W f)) (hb : PE X b (tE F W g)) (hc : PE X c (tE F W h)) :
    PT X (.Compare a [op, op'] [b, c] pos) (tT F W (tst fun ρ S => (f ρ S).bind fun x S1 => (g ρ S1).bind fun y S2 => (Out.opt S2 (cmpOp S2 o x y)).bind fun t S3 =>
      if t = true then (h ρ S3).bind fun z S4 => Out.opt S4 ((cmpOp S4 o' y z).map .bl) else .ok (.bl false) S3)) := by
  refine pt_of fun σ H Q μ ρ S z c w => ⟨_, pt_chain (op_cmpD ok ho) (op_cmpD ok ho') ha hb hc (lastMarks_of hs), ?_⟩
  simp only [tst, Out.bind_assoc] at w
  refine tG.of c (Wish.bind w fun x S1 μ1 H1 vx t1 r1 w1 => ?_)
  refine tG.of (c.to t1) (Wish.bind w1 fun y S2 μ2 H2 vy t2 r2 w2 => ?_)
  cases e : cmpOp S2 o x y with
  | none => rw [e] at w2; exact w2.elim
  | some k =>
    rw [e] at w2
    refine fun z => ⟨μ2, S2, x, y, t2.sim, r1.mono t2.st, r2, .bl k, by show Option.map D.bl (cmpOp S2 o x y) = some (D.bl k); rw [e]; rfl, fun μ' H' v to r => ?_⟩
    cases r
    refine ⟨k, rfl, ?_⟩
    simp only [Out.opt_some, Out.ok_bind] at w2
    have w3 := Wish.after to w2
    cases k with
    | false => exact ⟨false, rfl, fun _ => w3 μ' H' false ⟨to.sz, Step.refl, to.sim⟩ rfl⟩
    | true =>
      simp only [if_true, Out.bind_assoc] at w3
      refine tG.of (((c.to t1).to t2).to to) (Wish.bind w3 fun u S3 μ3 H3 vu t3 r3 w4 => ?_)
      cases e2 : cmpOp S3 o' y u with
      | none => rw [e2] at w4; exact w4.elim
      | some k2 =>
        rw [e2] at w4
        refine fun z => ⟨μ3, S3, y, u, t3.sim, (r2.mono to.st).mono t3.st, r3, .bl k2, by show Option.map D.bl (cmpOp S3 o' y u) = some (D.bl k2); rw [e2]; rfl, fun μ4 H4 v4 to4 r4 => ?_⟩
        cases r4
        exact ⟨k2, rfl, fun _ => w4 μ4 H4 k2 to4 rfl⟩
/-! ### ranges as lists, as tuples -/
theorem rg_rel {μ : Mu} {H : Hp} (i j : Int) : F.RelL μ H (rangeI i j) (rgV i j) := by
  unfold rangeI rgV
  generalize (j - i).toNat = n
  have : ∀ l : List Nat, F.RelL μ H (l.map fun (k : Nat) => D.int (i + (k : Int))) (l.map fun (k : Nat) => V.int (i + (k : Int))) := by
    intro l
    induction l with
    | nil => exact .nil
    | cons a l ih => exact .cons (.int _) ih
  exact this _
theorem snd_listRange1 (ok : OkC X F) {q pr : Pos} (hg : Gl X "list") (hm : X.mg "list" = none) (hg2 : Gl X "range") (hm2 : X.mg "range" = none) (hs : notStar e = true) (ha : PE X e (tE F W f)) :
    PE X (.Call (.Name "list" p) [.Call (.Name "range" q) [e] [] pr] [] pos) (tN F W fun ρ S => (consS f (fun _ S => .ok [] S) ρ S).bind fun ds S1 => Out.opt S1 (biOp S1 .listRange ds)) := by
  refine pn_of fun σ H Q μ ρ S z c w => ⟨_, pe_listRg ok.calm hg hm (prg_1 hg2 hm2 ha (star_cons hs)) rfl, ?_⟩
  simp only [consS, Out.bind_assoc, Out.ok_bind] at w
  refine tG.of c (WishN.bind w fun d S1 μ1 H1 vx t1 r1 w1 => ?_)
  obtain ⟨d', e, w2⟩ := WishN.opt w1
  cases d <;> simp only [biOp, reduceCtorEq, Option.ite_none_right_eq_some, Option.some.injEq] at e
  rename_i j
  obtain ⟨hl, rfl⟩ := e
  cases r1
  refine ⟨j, rfl, ?_, WishN.lst w2 t1.sim (rg_rel 0 j)⟩
  simp only [big] at hl
  exact ⟨by decide, by decide, by omega, by omega, by omega⟩
theorem snd_tupRange1 (ok : OkC X F) {q pr : Pos} (hg : Gl X "tuple") (hm : X.mg "tuple" = none) (hg2 : Gl X "range") (hm2 : X.mg "range" = none) (hs : notStar e = true) (ha : PE X e (tE F W f)) :
    PE X (.Call (.Name "tuple" p) [.Call (.Name "range" q) [e] [] pr] [] pos) (tE F W fun ρ S => (consS f (fun _ S => .ok [] S) ρ S).bind fun ds S1 => Out.opt S1 (biOp S1 .tupRange ds)) := by
  refine pe_of fun σ H Q μ ρ S z c w => ⟨_, pe_tupRg ok.calm hg hm (prg_1 hg2 hm2 ha (star_cons hs)) rfl, ?_⟩
  simp only [consS, Out.bind_assoc, Out.ok_bind] at w
  refine tG.of c (Wish.bind w fun d S1 μ1 H1 vx t1 r1 w1 => ?_)
  obtain ⟨d', e, w2⟩ := Wish.opt w1
  cases d <;> simp only [biOp, reduceCtorEq, Option.ite_none_right_eq_some, Option.some.injEq] at e
  rename_i j
  obtain ⟨hl, rfl⟩ := e
  cases r1
  simp only [big] at hl
  refine ⟨j, rfl, ⟨by decide, by decide, by omega, by omega, by omega⟩, fun q nq z => ?_⟩
  exact w2 μ1 _ _ ⟨z, Step.alloc nq, t1.sim.alloc nq⟩ (.tup (t1.sim.fresh nq) upd_same (RelL.up nq (rg_rel 0 j)))
end
end Pf
end

section 
set_option Elab.async false
set_option linter.all false
set_option maxRecDepth 100000
set_option maxHeartbeats 1000000
/-! PfO: methods of lists. -/
namespace Pf
open PySem PySem.Spec PyProof.Rows L2

def rM (F : Fx) (k : Sto → D → List D → Option (D × Sto)) : V → List V → Hp → VK → Prop := fun x xs H Q => Sz H → ∃ μ S d ds, F.Sim μ S H ∧ F.Rel μ H d x ∧ F.RelL μ H ds xs ∧ ∃ y S', k S d ds = some (y, S') ∧ Then F μ H S' y Q
section
variable {X : Cx} {F : Fx} {W : WX} {a b c e o : Expr} {f g h : SemE D} {pos p apos cpos : Pos}
theorem mtr_of {id : String} {k : Sto → D → List D → Option (D × Sto)} (h : ∀ (x : V) (xs : List V) (H : Hp) (Q : VK) (μ : Mu) (S : Sto) (d : D) (ds : List D) (y : D) (S' : Sto), Sz H → F.Sim μ S H → F.Rel μ H d x → F.RelL μ H ds xs → k S d ds = some (y, S') → Then F μ H S' y Q →
    ∃ r, MtR X id r ∧ r x xs H fun v H' => Sz H' → Q v H') : MtR X id (rM F k) := by
  intro pins s σ H x xs v us Q I rx rs hq
  obtain ⟨μ, S, d, ds, sim, r1, r2, y, S', e, w⟩ := hq (sz_of I.hok)
  obtain ⟨r, hr, q⟩ := h x xs H Q μ S d ds y S' (sz_of I.hok) sim r1 r2 e w
  exact thn (hr pins s σ H x xs v us _ I rx rs q) fun u s1 ⟨v, H', I', r, q'⟩ => ⟨v, H', I', r, q' (sz_of I'.hok)⟩
/-- a list of the store -/
theorem ref_lst {μ : Mu} {S : Sto} {H : Hp} {i : Nat} {x : V} {xs : List D} (sim : F.Sim μ S H) (r : F.Rel μ H (.ref i) x) (e : S[i]? = some (.lst xs)) : ∃ p vs, x = .ref p ∧ μ.nm[i]? = some p ∧ H p = some (.lst vs) ∧ F.RelL μ H xs vs := by
  cases r with
  | ref h =>
    obtain ⟨a', h', o⟩ := sim.at e
    rw [h] at h'; cases h'
    obtain ⟨vs, h1, h2⟩ := o
    exact ⟨_, _, rfl, h, h1, h2⟩
theorem Then.putL {μ : Mu} {S : Sto} {H : Hp} {i : Nat} {p : Addr} {xs : List D} {vs : List V} {y : D} {v : V} {Q : VK} (w : Then F μ H (S.set i (.lst xs)) y Q) (sim : F.Sim μ S H) (h : μ.nm[i]? = some p) (r : F.RelL μ H xs vs) (ry : F.Rel μ H y v) : Sz (upd H p (.lst vs)) → Q v (upd H p (.lst vs)) := fun z =>
  have hs : Step μ H μ (upd H p (.lst vs)) := Step.write (List.mem_of_getElem? h)
  w μ _ v ⟨z, hs, sim.put h ⟨vs, upd_same, r.mono hs⟩⟩ (ry.mono hs)
theorem m_append (ok : Ok X F) : MtR X "list.append" (rM F fun S => mtOp S .append) := by
  refine mtr_of fun x xs H Q μ S d ds y S' z sim r1 r2 e w => ?_
  unfold mtOp at e
  split at e <;> try contradiction
  rename_i i y0 _
  split at e
  · rename_i ys hy
    simp only [Option.ite_none_right_eq_some, Option.some.injEq, Prod.mk.injEq] at e
    obtain ⟨hl, rfl, rfl⟩ := e
    obtain ⟨p, vs, rfl, hμ, hp, q⟩ := ref_lst sim r1 hy
    obtain ⟨u, rfl, ru⟩ := RelL.one r2
    exact ⟨_, mt_append, p, vs, u, rfl, rfl, hp, by rw [← q.length, ← big_eq]; exact hl, Then.putL w sim hμ (q.append (.cons ru .nil)) .non⟩
  · cases e
theorem m_extend (ok : Ok X F) : MtR X "list.extend" (rM F fun S => mtOp S .extend) := by
  refine mtr_of fun x xs H Q μ S d ds y S' z sim r1 r2 e w => ?_
  unfold mtOp at e
  split at e <;> try contradiction
  rename_i i y0 _
  split at e
  · rename_i ys zs hy hz
    simp only [Option.ite_none_right_eq_some, Option.some.injEq, Prod.mk.injEq] at e
    obtain ⟨hl, rfl, rfl⟩ := e
    obtain ⟨p, vs, rfl, hμ, hp, q⟩ := ref_lst sim r1 hy
    obtain ⟨u, rfl, ru⟩ := RelL.one r2
    obtain ⟨b, ws, rfl, hb, q2⟩ := res_lst sim ru hz
    exact ⟨_, mt_extend, p, b, vs, ws, rfl, rfl, hp, hb, by rw [← q.length, ← q2.length, ← big_eq]; exact hl, Then.putL w sim hμ (q.append q2) .non⟩
  · cases e
theorem m_insert (ok : Ok X F) : MtR X "list.insert" (rM F fun S => mtOp S .insert) := by
  refine mtr_of fun x xs H Q μ S d ds y S' z sim r1 r2 e w => ?_
  unfold mtOp at e
  split at e <;> try contradiction
  rename_i i y0 _
  split at e
  · rename_i ys hy
    simp only [Option.ite_none_right_eq_some, Option.some.injEq, Prod.mk.injEq] at e
    obtain ⟨hl, rfl, rfl⟩ := e
    obtain ⟨p, vs, rfl, hμ, hp, q⟩ := ref_lst sim r1 hy
    obtain ⟨u, u', rfl, ru, ru'⟩ := RelL.two r2
    cases ru
    refine ⟨_, mt_insert, p, vs, 0, u', rfl, rfl, hp, by rw [← q.length, ← big_eq]; exact hl, by decide, by decide, ?_⟩
    first
      | exact Then.putL w sim hμ (.cons ru' q) .non
      | simpa using Then.putL w sim hμ (.cons ru' q) .non
  · cases e
theorem m_pop0 (ok : Ok X F) : MtR X "list.pop" (rM F fun S => mtOp S .pop0) := by
  refine mtr_of fun x xs H Q μ S d ds y S' z sim r1 r2 e w => ?_
  unfold mtOp at e
  split at e <;> try contradiction
  split at e
  · rename_i ys hy
    obtain ⟨y1, e1, e2⟩ := Option.map_eq_some_iff.mp e
    cases e2
    obtain ⟨p, vs, rfl, hμ, hp, q⟩ := ref_lst sim r1 hy
    obtain rfl := RelL.nil0 r2
    rw [List.getLast?_eq_getElem?] at e1
    obtain ⟨v, hv, rv⟩ := q.get e1
    rw [q.length] at hv
    exact ⟨_, mt_pop, p, vs, v, rfl, rfl, hp, hv, Then.putL w sim hμ q.dropLast rv⟩
  · cases e
theorem m_pop1 (ok : Ok X F) : MtR X "list.pop" (rM F fun S => mtOp S .pop1) := by
  refine mtr_of fun x xs H Q μ S d ds y S' z sim r1 r2 e w => ?_
  unfold mtOp at e
  split at e <;> try contradiction
  rename_i i j _
  split at e
  · rename_i ys hy
    obtain ⟨n, e0, e⟩ := Option.bind_eq_some_iff.mp e
    obtain ⟨y1, e1, e2⟩ := Option.map_eq_some_iff.mp e
    cases e2
    obtain ⟨p, vs, rfl, hμ, hp, q⟩ := ref_lst sim r1 hy
    obtain ⟨u, rfl, ru⟩ := RelL.one r2
    cases ru
    obtain ⟨v, hv, rv⟩ := q.get e1
    rw [ixOf_eq, q.length] at e0
    obtain ⟨h1, h2, h3, h4⟩ := ixN_seq e0
    have hsz := z.lst p vs hp
    rw [sizeLine_eq] at hsz
    exact ⟨_, mt_popAt, p, vs, j, n, v, rfl, rfl, hp, by omega, by omega, h1, hv, Then.putL w sim hμ (q.eraseIdx n) rv⟩
  · cases e
/-! ### the call of a method -/
def notCall : Expr → Bool
  | .Call _ _ _ _ => false
  | _ => true
theorem attrBase_of {name : Str} (h : notCall o = true) : attributeBase o name X.env (eval o X.env) = eval o X.env := by
  cases o <;> first
    | rfl
    | cases h
theorem few_of {es : List Expr} (hs : es.all notStar = true) (hl : es.length < 20) : ((backTo cpos (starEach es X.env)).all (fun x => !x.1) && (backToKw cpos (keywordEach [] X.env)).all (fun x => x.1.isSome)
      && decide (es.length + ([] : List Keyword).length + (if ([] : List Keyword).isEmpty then 0 else 1) < 30)) = true := by
  have h1 : (backTo cpos (starEach es X.env)).all (fun x => !x.1) = true := by
    have := star_none (pos := cpos) (env := X.env) hs
    rw [List.all_eq_true]
    intro x hx
    rw [List.any_eq_false] at this
    simpa using this x hx
  rw [h1]
  simp [backToKw, keywordEach]
  omega
theorem lst_ty {μ : Mu} {S : Sto} {H : Hp} {d : D} {x : V} (sim : F.Sim μ S H) (r : F.Rel μ H d x) {ys : List D} (h : res S d = .lst ys) : tyV F.K "list" x H := by
  obtain ⟨p, vs, rfl, hp, _⟩ := res_lst sim r h
  exact .inl ⟨rfl, vs, .inl (.inl hp)⟩
theorem dic_ty {μ : Mu} {S : Sto} {H : Hp} {d : D} {x : V} (sim : F.Sim μ S H) (r : F.Rel μ H d x) {t : Bool} {ks vs : List D} (h : res S d = .dic t ks vs) : tyV F.K "dict" x H := by
  cases t with
  | false =>
    obtain ⟨p, kvs, rfl, hp, _⟩ := res_dK sim r h
    exact .inr (.inr (.inl ⟨rfl, .inl ⟨_, hp⟩⟩))
  | true =>
    obtain ⟨p, kvs, rfl, hp, _⟩ := res_dT sim r h
    exact .inr (.inr (.inl ⟨rfl, .inr ⟨_, hp⟩⟩))
/-- what a method's kind asks is the receiver's type T -/
def TyFor (F : Fx) (m : Mt) (T : String) : Prop := ∀ (μ : Mu) (S : Sto) (H : Hp) (d : D) (x : V), F.Sim μ S H → F.Rel μ H d x → mtTy S m d = true → tyV F.K T x H
noncomputable def methS (m : Mt) (f : SemE D) (gs : SemE (List D)) : SemE D := fun ρ S => (f ρ S).bind fun x S1 => if mtTy S1 m x = true then (gs ρ S1).bind fun ds S2 => match mtOp S2 m x ds with
      | some (y, S3) => .ok y S3
      | none => .stuck
    else .stuck
theorem snd_meth (ok : Ok X F) {m : Mt} {T id : String} {name : Str} {es : List Expr} {gs : SemE (List D)} (pa : PlainAttrs T) (slot : Slot T name id) (hty : typeOf (.builtin id) = pure (.type "method_descriptor")) (hm : MtR X id (rM F fun S => mtOp S m)) (tf : TyFor F m T)
    (hl : (apos.endLine == cpos.line) = true) (hc : notCall o = true) (hs : (e :: es).all notStar = true) (hlen : (e :: es).length < 20) (ho : PE X o (tE F W f)) (ha : PA X (e :: es) (tA F W gs)) :
    PE X (.Call (.Attribute o name apos) (e :: es) [] cpos) (tE F W (methS m f gs)) := by
  have hs' := hs
  rw [List.all_cons, Bool.and_eq_true] at hs'
  refine pe_of fun σ H Q μ ρ S z c w => ⟨_, pe_bm pa slot hty hm ho ha (attrBase_of hc) (few_of hs hlen) hl (star_cons hs'.1) (star_none hs'.2), ?_⟩
  unfold methS at w
  refine tG.of c (Wish.bind w fun x S1 μ1 H1 vx t1 r1 w1 => ?_)
  by_cases q : mtTy S1 m x = true
  · rw [if_pos q] at w1
    refine ⟨by rw [ok.hK]; exact tf μ1 S1 H1 x vx t1.sim r1 q, ?_⟩
    refine tG.of (c.to t1) (Wish.bind w1 fun ds S2 μ2 H2 vs t2 r2 w2 => ?_)
    cases o : mtOp S2 m x ds with
    | none => rw [o] at w2; exact w2.elim
    | some p =>
      obtain ⟨y, S3⟩ := p
      rw [o] at w2
      exact fun z => ⟨μ2, S2, x, ds, t2.sim, r1.mono t2.st, r2, y, S3, o, fun μ' H' v to r _ => w2 μ' H' v to r⟩
  · rw [if_neg q] at w1
    exact w1.elim
theorem snd_meth0 (ok : Ok X F) {m : Mt} {T id : String} {name : Str} (pa : PlainAttrs T) (slot : Slot T name id) (hty : typeOf (.builtin id) = pure (.type "method_descriptor")) (hm : MtR X id (rM F fun S => mtOp S m)) (tf : TyFor F m T)
    (hl : (apos.endLine == cpos.line) = true) (hc : notCall o = true) (ho : PE X o (tE F W f)) :
    PE X (.Call (.Attribute o name apos) [] [] cpos) (tE F W (methS m f fun _ S => .ok [] S)) := by
  refine pe_of fun σ H Q μ ρ S z c w => ⟨_, pe_bm0 pa slot hty hm ho (attrBase_of hc) hl, ?_⟩
  unfold methS at w
  refine tG.of c (Wish.bind w fun x S1 μ1 H1 vx t1 r1 w1 => ?_)
  by_cases q : mtTy S1 m x = true
  · rw [if_pos q] at w1
    refine ⟨by rw [ok.hK]; exact tf μ1 S1 H1 x vx t1.sim r1 q, ?_⟩
    simp only [Out.ok_bind] at w1
    cases o : mtOp S1 m x [] with
    | none => rw [o] at w1; exact w1.elim
    | some p =>
      obtain ⟨y, S3⟩ := p
      rw [o] at w1
      exact fun z => ⟨μ1, S1, x, [], t1.sim, r1, .nil, y, S3, o, fun μ' H' v to r _ => w1 μ' H' v to r⟩
  · rw [if_neg q] at w1
    exact w1.elim
theorem tf_list {m : Mt} (h : ∀ S d, mtTy S m d = true → ∃ ys, res S d = .lst ys) : TyFor F m "list" := fun μ S H d x sim r q => by
  obtain ⟨ys, e⟩ := h S d q
  exact lst_ty sim r e
end
end Pf
end

section 
set_option Elab.async false
set_option linter.all false
set_option maxRecDepth 100000
set_option maxHeartbeats 1000000
/-! PfP: a def's promise from its body; the law's call. -/
namespace Pf
open PySem PySem.Spec PyProof.Rows L2

section
variable {P : Program} {w : World} {K : PySem.W.Frag} {mg : Str → Option Value} {base : Heap} {k : Nat} {f : Addr} {fd : FuncData} {x qual : Str} {params : Arguments} {body : List Stmt} {scope : Scope} {N ps : List Str} {sp : Sp}
theorem fnG_of (D : FunD K x qual params body scope [] [] f fd) (S : FnScope N ps scope) (len : ∀ vs H Q E, sp vs H Q E → vs.length = ps.length)
    (hbody : ∀ cdv A outer s H vs Q E, Room k (A.deeper (envOfC qual scope s.heap.objs.size f cdv)) → A.guards = some [] → sp vs H Q E →
      ∃ t, PSs (cxOf (L2N.CX P w) P w K mg base N qual scope f cdv A outer s H E) body t ∧ t { nx := fun _ H' => Q .non H', rt := Q } (start N vs) H) :
    FnG P w K mg base (k + 1) f fd ps sp := by
  obtain ⟨oc, od, dV, kV, doc, pm, an, cdv, ct, osl, rfl, lk, hcd, _, _⟩ := D.ex
  constructor
  · exact len
  intro A outer s H args us vs Q E hr hgd e0 hb rv hsp
  have hl := len vs H Q E hsp
  have kept : ∀ b o, base.get? b = some o → s.heap.get? b = some o := fun b o e => (e0.bs b o e).1
  have KX : K.In s.heap := e0.mod.kin.keeps kept
  have lim : s.heap.NoLimit := e0.mod.nolimit.keeps kept
  refine codeAny_call_function hr.depth (KX f _ lk) rfl S.co S.gen rfl (PySem.W.codeRec_of KX hcd) (hb _ _ _ _ ?_)
  refine wpAny_newFunctionEnv_cells S.kind ?_ ?_
  · rintro ⟨n, v⟩ hy
    rcases S.par n (List.of_mem_zip hy).1 with q | q
    · exact Or.inl q
    · exact Or.inr ⟨q, PySem.W.cellsFrom_some _ _ _ (Or.inl q)⟩
  rintro env rfl s1 x1
  refine ⟨lim.keeps x1.toInCall.keep, codeAny_func ?_⟩
  obtain ⟨t, ht, hq⟩ := hbody cdv A outer s H vs Q E (hr.deeper _) hgd hsp
  have I : Inv (cxOf (L2N.CX P w) P w K mg base N qual scope f cdv A outer s H E) [] (start N vs) H s1 := inv_start S hr.hd e0 hl rv x1
  refine wpAny_mono (ht.run [] s1 (start N vs) H _ I hq) ?_ (fun _ _ z => z)
  rintro (_ | _ | _ | u) s2 hs
  · obtain ⟨σ', H', J, q⟩ := hs
    exact ⟨V.non, H', J.os, J.bare, J.base, J.hok, rfl, q⟩
  · obtain ⟨_, _, _, q⟩ := hs
    exact q.elim
  · obtain ⟨_, _, _, q⟩ := hs
    exact q.elim
  · obtain ⟨v, σ', H', J, r', q⟩ := hs
    exact ⟨v, H', J.os, J.bare, J.base, J.hok, r', q⟩
end
/-! ### the law's call -/
section
variable {P : Program} {w : World} {K : PySem.W.Frag} {mg mb : Str → Option Value} {k : Nat} {fa a : Addr} {fd : FuncData} {x : Str} {sp : Sp} {s₁ : Shared} {vs : List Value} {ns : List Int}
/-- over an abstract heap that tracks nothing but the script -/
theorem law_coreG {H : Hp} (KX : K.In s₁.heap) (hns : s₁.heap.Ns mainGlobals mg) (hb : s₁.heap.Ns builtinsNs mb) (hbb : ∀ y : Str, y ≠ "__name__" → mb y = bootBuiltins y) (hlim : s₁.heap.NoLimit) (hg : s₁.gens = #[])
    (ha : s₁.heap.get? a = some { cls := .type "list", data := .seq vs.toArray }) (hr : Room k callerA) (G : ∀ base, K.In base → base.Ns mainGlobals mg → FnG P w K mg base k fa fd [x] sp) (hbind : ∀ s u, BindsTo s fd ⟨[u], []⟩ [(x, u)])
    (hO : Only H) (hq : sp [.ref a] H (fun v _ => v = .bl true) fun _ _ _ => False) (hok : HOk P w H s₁.heap) (hA : ∀ b, H b ≠ none → b = a) (hK : H a ≠ none → K.lookup a = none) :
    codeAny (model P w) callerA (.call (.ref fa) ⟨[.ref a], []⟩) (fun r s' => r = .ok (.ret (.bool true)) ∧ OldK s₁.heap s'.heap ∧ s'.os = s₁.os ∧ AllBare s'.gens) s₁ := by
  have free : ∀ b, b ≠ a → H b = none := fun b hb => Classical.byContradiction fun z => hb (hA b z)
  have noD : ∀ b o es ep, s₁.heap.get? b = some o → o.data = .dict es ep → H b = none := fun b o es ep e d => free b fun z => by
    subst z
    rw [ha] at e
    cases e
    cases d
  have nsK : ∀ b m, s₁.heap.Ns b m → (hidT s₁.heap H).Ns b m := fun b m ⟨o, es, ep, e, d, r⟩ => ⟨o, es, ep, hidT_get e (noD b o es ep e d), d, r⟩
  have hKb : K.In (hidT s₁.heap H) := fun b o e => by
    refine hidT_get (KX b o e) (Classical.byContradiction fun z => ?_)
    have := hA b z
    subst this
    rw [hK z] at e
    cases e
  have hM : Mod K mg (hidT s₁.heap H) := by
    obtain ⟨mc, h1, h2⟩ := hlim
    exact ⟨hKb, nsK _ _ hns, ⟨mb, nsK _ _ hb, hbb⟩, mc, nsK _ _ h1, h2⟩
  have e0 : Env0 P w K mg (hidT s₁.heap H) callerA [] s₁ H := ⟨rfl, hM, fun b o e => of_hidT e, Nat.le_of_eq (hidT_size _ _), trivial, fun b hb => (by cases (show b ∈ ([] : List Addr) from hb)), hok, .of_eq hg⟩
  refine codeAny_mono ((G _ hKb (nsK _ _ hns)).run callerA [] s₁ H ⟨[.ref a], []⟩ [.ref a] [.ref a] _ _ hr rfl e0 (hbind s₁ (.ref a)) (.cons rfl .nil) hq) ?_
  rintro (e | _ | _ | _ | u) s' h
  · obtain ⟨_, _, _, _, _, _, _, _, _, _, _, _, z⟩ := h
    exact z.elim
  · exact False.elim h
  · exact False.elim h
  · exact False.elim h
  · obtain ⟨v, H', os, bare, un, hok', r', q⟩ := h
    have q' : v = .bl true := q
    subst q'
    cases r'
    refine ⟨rfl, OldK.of_keep fun b o e => ?_, os, bare⟩
    rcases hO b with z | ⟨ob, xs, z⟩
    · exact un.keep b o e z (fun q => by cases (show b ∈ ([] : List Addr) from q)) (by simp)
    · have e1 := (hok b _ z).1
      have e2 := (hok' b _ (un.frzs b ob _ z)).1
      rw [e] at e1
      cases e1
      exact e2
theorem law_callG (KX : K.In s₁.heap) (hns : s₁.heap.Ns mainGlobals mg) (hb : s₁.heap.Ns builtinsNs mb) (hbb : ∀ y : Str, y ≠ "__name__" → mb y = bootBuiltins y) (hlim : s₁.heap.NoLimit) (hg : s₁.gens = #[])
    (ha : s₁.heap.get? a = some { cls := .type "list", data := .seq vs.toArray }) (hi : IntsAre vs ns) (hl : ns.length ≤ sizeLine) (hr : Room k callerA) (G : ∀ base, K.In base → base.Ns mainGlobals mg → FnG P w K mg base k fa fd [x] sp) (hbind : ∀ s u, BindsTo s fd ⟨[u], []⟩ [(x, u)])
    (hsp : ∀ H, Only H → SqL K H a (ns.map V.int) → (∀ b, H b ≠ none → b = a) → sp [.ref a] H (fun v _ => v = .bl true) fun _ _ _ => False) :
    codeAny (model P w) callerA (.call (.ref fa) ⟨[.ref a], []⟩) (fun r s' => r = .ok (.ret (.bool true)) ∧ OldK s₁.heap s'.heap ∧ s'.os = s₁.os ∧ AllBare s'.gens) s₁ := by
  have rv := vals_ints hi
  have lenV := hi.length
  cases hk : K.lookup a with
  | some o =>
    have e := KX a o hk
    rw [ha] at e
    cases e
    have hS : SqL K (fun _ => none) a (ns.map V.int) := Or.inr ⟨_, vs.toArray, _, hk, rfl, rfl, rfl, by rw [List.size_toArray, lenV]; exact hl, by simpa using rv⟩
    exact law_coreG KX hns hb hbb hlim hg ha hr G hbind (fun _ => Or.inl rfl) (hsp _ (fun _ => Or.inl rfl) hS fun b z => (z rfl).elim) (fun b u z => by cases z) (fun b z => (z rfl).elim) (fun z => (z rfl).elim)
  | none =>
    let Hs : Hp := fun b => if b = a then some (.frz { cls := .type "list", data := .seq vs.toArray } (.lst (ns.map V.int))) else none
    have same : Hs a = some (.frz { cls := .type "list", data := .seq vs.toArray } (.lst (ns.map V.int))) := if_pos rfl
    have other : ∀ b, b ≠ a → Hs b = none := fun b h => if_neg h
    have hA : ∀ b, Hs b ≠ none → b = a := fun b z => Classical.byContradiction fun q => z (other b q)
    have hO : Only Hs := fun b => by
      by_cases q : b = a
      · subst q
        exact Or.inr ⟨_, _, same⟩
      · exact Or.inl (other b q)
    refine law_coreG (H := Hs) KX hns hb hbb hlim hg ha hr G hbind hO (hsp Hs hO (Or.inl (Or.inr ⟨_, same⟩)) hA) ?_ hA (fun _ => hk)
    intro b u z
    by_cases q : b = a
    · subst q
      rw [same] at z
      cases z
      exact ⟨ha, by rw [List.length_map]; exact hl, vs, _, rv, ha⟩
    · rw [other b q] at z
      cases z
theorem walkG {l : PySem.W.OpenLaw} {n : Nat} {q : Program} {loose : List Str} {XP : (Str → Option Value) → Heap → Prop} {YP : World → Heap → Prop} {d : DefRec} (hn : l.most = some n) (hn2 : n ≤ sizeLine) (hdf : d.params.defaults = []) (hr : Room k callerA)
    (hF : ∀ (w : World) (mg : Str → Option Value) (fa : Addr) (h : Heap), YP w h → h.Ns mainGlobals mg → mg d.name = some (.ref fa) → ∃ (K : PySem.W.Frag) (fd : FuncData) (sp : Sp), K.In h ∧ (∀ (s : Shared) (u : Value), BindsTo s fd ⟨[u], []⟩ [(x, u)]) ∧
      (∀ (H : Hp) (a : Addr) (ns : List Int), ns.length ≤ n → (∀ z ∈ ns, Builtin.Int.intBits z ≤ 1048576) → Only H → SqL K H a (ns.map V.int) → (∀ b, H b ≠ none → b = a) → sp [.ref a] H (fun v _ => v = .bl true) fun _ _ _ => False) ∧
      ∀ base : Heap, K.In base → base.Ns mainGlobals mg → FnG l.prog w K mg base k fa fd [x] sp) : PySem.W.WalkO q loose XP YP l.row.toRowW d [] (fun f vs => PySem.call f vs) := by
  refine Att.attach_callB hn hdf ?_
  intro w s₀ s₁ mg mb fa o pm cd doc a vs ns G Y ho hd hcd hmg hobj hints hlen hbits hg
  obtain ⟨K, fd, sp, KX, hb, hsp, hG⟩ := hF w mg fa _ Y G.T.g hmg
  exact law_callG KX G.T.g G.T.b G.T.builtins G.T.nolimit hg hobj hints (Nat.le_trans hlen hn2) hr hG hb fun H hO hS hA => hsp H a ns hlen hbits hO hS hA
end
end Pf
end

section 
set_option Elab.async false
set_option linter.all false
set_option maxRecDepth 100000
set_option maxHeartbeats 1000000
/-! PfQ: what is walked; comprehensions. -/
namespace Pf
open PySem PySem.Spec PyProof.Rows L2

theorem RelL.imp {F : Fx} {μ μ₀ : Mu} {H H₀ : Hp} (k : ∀ d v, F.Rel μ H d v → F.Rel μ₀ H₀ d v) : ∀ {ds : List D} {vs : List V}, F.RelL μ H ds vs → F.RelL μ₀ H₀ ds vs
  | _, _, .nil => .nil
  | _, _, .cons q r => .cons (k _ _ q) (RelL.imp k r)
/-- an iterator that yields the walk's items as long as the walked object stays -/
structure ItR (F : Fx) (μ₀ : Mu) (H₀ : Hp) (J : It) (w : Wk) : Prop where
  go : ∀ i d μ S H, w.xs[i]? = some d → Step μ₀ H₀ μ H → F.Sim μ S H → w.ok S → J.go i H ∧ ∀ x H', J.yld i H x H' → Step μ H μ H' ∧ F.Sim μ S H' ∧ F.Rel μ H' d x
  stop : ∀ μ S H, Step μ₀ H₀ μ H → F.Sim μ S H → w.ok S → J.stop w.xs.length H
/-- with a place held back, too -/
def ItB (F : Fx) (μ : Mu) (H : Hp) (J : It) (w : Wk) : Prop := ItR F μ H J w ∧ ∀ p ho, H p = none → ItR F (μ.hold p) (upd H p ho) J w
def WishI (F : Fx) (W : WX) (σ : St) (μ : Mu) (H : Hp) (o : Out Wk) (R : It → Hp → Prop) : Prop := match o with
  | .ok w S' => ∀ μ' H' J, To F μ H S' μ' H' → w.ok S' → w.xs.length ≤ big → (ItB F μ' H' J w) → R J H'
  | .exn c x S' => ∀ μ' H' cls dd, To F μ H S' μ' H' → ExR F μ' H' c x cls dd → W cls dd σ H'
  | .stuck => False
def tI (F : Fx) (W : WX) (f : SemE Wk) : TI := fun σ H R => Sz H → ∃ μ ρ S, Cfg F μ ρ S σ H ∧ WishI F W σ μ H (f ρ S) R
/-- the walk's iterator from its behaviour over every moment that follows -/
theorem ItR.both {F : Fx} {μ : Mu} {H : Hp} {J : It} {w : Wk} (h : ∀ (μ₀ : Mu) (H₀ : Hp), (∀ a o, a ∉ μ → H a = some o → a ∉ μ₀ ∧ H₀ a = some o) → (∀ d v, F.Rel μ H d v → F.Rel μ₀ H₀ d v) → (∀ (i : Nat) (a : Addr), μ.nm[i]? = some a → μ₀.nm[i]? = some a) → ItR F μ₀ H₀ J w) :
    ItB F μ H J w := 
  ⟨h μ H (fun _ _ n e => ⟨n, e⟩) (fun _ _ r => r) (fun _ _ e => e), fun p ho np => h _ _ (fun a o n e => ⟨hold_nin np n e, (upd_ne (ne_of_none e np)).trans e⟩) (fun _ _ r => r.hold np) (fun _ _ e => e)⟩
section
variable {X : Cx} {F : Fx} {W : WX} {a b c e tg iter : Expr} {f g h : SemE D} {pos p : Pos}
theorem pi_of {fw : SemE Wk} (h : ∀ σ H R μ ρ S, Sz H → Cfg F μ ρ S σ H → WishI F W σ μ H (fw ρ S) R → ∃ t, PI X tg iter t ∧ t σ H R) : PI X tg iter (tI F W fw) := by
  refine ⟨fun pins s σ H R I hq => ?_⟩
  obtain ⟨μ, ρ, S, c, w⟩ := hq (sz_of I.hok)
  obtain ⟨t, ht, q⟩ := h σ H R μ ρ S (sz_of I.hok) c w
  exact ht.run pins s σ H R I q
/-- an argument's reading, then the walk -/
theorem WishI.bind {α β : Type} {R : Mu → Hp → α → β → Prop} {o : Out α} {k : α → Sto → Out Wk} {Q : It → Hp → Prop} {Q1 : β → Hp → Prop} {σ : St} {μ : Mu} {H : Hp} (h : WishI F W σ μ H (o.bind k) Q)
    (i : ∀ a S' μ' H' b, To F μ H S' μ' H' → R μ' H' a b → WishI F W σ μ' H' (k a S') Q → Q1 b H') : Wish F W σ μ H R o Q1 := by
  cases o with
  | ok a S' =>
    intro μ' H' b t r
    refine i a S' μ' H' b t r ?_
    simp only [Out.ok_bind] at h
    cases q : k a S' with
    | ok d S2 => rw [q] at h; exact fun μ2 H2 J t2 hw hl hi => h μ2 H2 J (t.trans t2) hw hl hi
    | exn c x S2 => rw [q] at h; exact fun μ2 H2 cls dd t2 r2 => h μ2 H2 cls dd (t.trans t2) r2
    | stuck => rw [q] at h; exact h
  | exn c x S' => exact h
  | stuck => exact h
theorem WishI.opt {σ : St} {μ : Mu} {H : Hp} {S : Sto} {o : Option Wk} {R : It → Hp → Prop} (h : WishI F W σ μ H (Out.opt S o) R) : ∃ a, o = some a ∧ WishI F W σ μ H (.ok a S) R := by
  cases o with
  | none => exact h.elim
  | some a => exact ⟨a, rfl, h⟩
theorem WishI.here {σ : St} {μ : Mu} {H : Hp} {S : Sto} {w : Wk} {J : It} {R : It → Hp → Prop} (h : WishI F W σ μ H (.ok w S) R) (z : Sz H) (sim : F.Sim μ S H) (hw : w.ok S) (hl : w.xs.length ≤ big) (hi : ItB F μ H J w) : R J H :=
  h μ H J ⟨z, Step.refl, sim⟩ hw hl hi
/-! ### the iterators -/
theorem it_rng {μ : Mu} {H : Hp} {lo hi : Int} : ItB F μ H (L2.Itr lo (hi - lo).toNat) ⟨rangeI lo hi, none⟩ := by
  refine ItR.both fun μ₀ H₀ _ _ _ => ⟨fun i d μ S H' e _ sim _ => ?_, fun μ S H' _ _ _ => ?_⟩
  · simp only [rangeI, List.getElem?_map] at e
    obtain ⟨k, e1, rfl⟩ := Option.map_eq_some_iff.mp e
    obtain ⟨hl, e2⟩ := List.getElem?_eq_some_iff.mp e1
    simp at hl e2
    subst e2
    exact ⟨show i < (hi - lo).toNat by omega, fun x H2 q => by obtain ⟨rfl, rfl⟩ := q; exact ⟨Step.refl, sim, .int _⟩⟩
  · show (hi - lo).toNat ≤ (rangeI lo hi).length
    simp [rangeI]
/-- a tuple that stands still -/
theorem it_tup {μ : Mu} {H : Hp} {t : Addr} {ds : List D} {vs : List V} (hK : X.K = F.K) (n : t ∉ μ) (e : H t = some (.tup vs)) (r : F.RelL μ H ds vs) : ItB F μ H (Itt X.K t) ⟨ds, none⟩ := by
  have one : ∀ xs, H t = some (.tup xs) → xs = vs := fun xs q => by rw [e] at q; cases q; rfl
  refine ItR.both fun μ₀ H₀ k1 k2 _ => ?_
  obtain ⟨n0, e0⟩ := k1 t _ n e
  have r0 : F.RelL μ₀ H₀ ds vs := r.imp k2
  refine ⟨fun i d μ S H' e' st sim _ => ?_, fun μ S H' st _ _ => ?_⟩
  · have e1 := st.keep t _ (Mu.nin n0) e0
    obtain ⟨x, hx, rx⟩ := r0.get e'
    refine ⟨⟨vs, x, .inl (.inl e1), hx⟩, fun y H2 q => ?_⟩
    obtain ⟨rfl, q⟩ := q
    have := q vs (.inl (.inl e1))
    rw [hx] at this
    cases this
    exact ⟨Step.refl, sim, rx.mono st⟩
  · have e1 := st.keep t _ (Mu.nin n0) e0
    exact ⟨vs, .inl (.inl e1), by rw [← r0.length]; exact Nat.le_refl _⟩
/-- a list that stands still: no name of the store -/
theorem it_lst {μ : Mu} {H : Hp} {t : Addr} {ds : List D} {vs : List V} (hK : X.K = F.K) (n : t ∉ μ) (e : H t = some (.lst vs)) (r : F.RelL μ H ds vs) : ItB F μ H (Itl X.K t) ⟨ds, none⟩ := by
  refine ItR.both fun μ₀ H₀ k1 k2 _ => ?_
  obtain ⟨n0, e0⟩ := k1 t _ n e
  have r0 : F.RelL μ₀ H₀ ds vs := r.imp k2
  refine ⟨fun i d μ S H' e' st sim _ => ?_, fun μ S H' st _ _ => ?_⟩
  · have e1 := st.keep t _ (Mu.nin n0) e0
    obtain ⟨x, hx, rx⟩ := r0.get e'
    refine ⟨⟨vs, x, .inl (.inl e1), hx⟩, fun y H2 q => ?_⟩
    obtain ⟨rfl, q⟩ := q
    have := q vs (.inl (.inl e1))
    rw [hx] at this
    cases this
    exact ⟨Step.refl, sim, rx.mono st⟩
  · have e1 := st.keep t _ (Mu.nin n0) e0
    exact ⟨vs, .inl (.inl e1), by rw [← r0.length]; exact Nat.le_refl _⟩
/-- a list of the store, which must stay -/
theorem it_ref {μ : Mu} {H : Hp} {t : Addr} {i : Nat} {ds : List D} (h : μ.nm[i]? = some t) : ItB F μ H (Itl X.K t) ⟨ds, some (i, .lst ds)⟩ := by
  refine ItR.both fun μ₀ H₀ _ _ k3 => ?_
  have h0 := k3 i t h
  refine ⟨fun j d μ S H' e' st sim hw => ?_, fun μ S H' st sim hw => ?_⟩
  · obtain ⟨a, ha, vs, e1, r⟩ := sim.at hw
    have := st.get h0
    rw [ha] at this
    cases this
    obtain ⟨x, hx, rx⟩ := r.get e'
    refine ⟨⟨vs, x, .inl (.inl e1), hx⟩, fun y H2 q => ?_⟩
    obtain ⟨rfl, q⟩ := q
    have := q vs (.inl (.inl e1))
    rw [hx] at this
    cases this
    exact ⟨Step.refl, sim, rx⟩
  · obtain ⟨a, ha, vs, e1, r⟩ := sim.at hw
    have := st.get h0
    rw [ha] at this
    cases this
    exact ⟨vs, .inl (.inl e1), by rw [← r.length]; exact Nat.le_refl _⟩
/-! ### the walked things -/
theorem sndI_rng1 (ok : Ok X F) (hg : Gl X "range") (hm : X.mg "range" = none) (hs : notStar a = true) (ha : PE X a (tE F W f)) :
    PI X tg (.Call (.Name "range" p) [a] [] pos) (tI F W fun ρ S => (f ρ S).bind fun d S1 => Out.opt S1 ((intOf d).bind fun j => if -1000000 < j ∧ j < big then some ⟨rangeI 0 j, none⟩ else none)) := by
  have hA : PA X [a] (tA F W (consS f fun _ S => .ok [] S)) := snd_cons hs ha snd_nil
  refine pi_of fun σ H R μ ρ S z c w => ⟨_, pi_range1 hg hm hA (star_cons hs), ?_⟩
  refine tG.of c ?_
  show Wish F W σ μ H F.RelL ((f ρ S).bind _) _
  have w' := WishI.bind (R := F.Rel) (Q1 := fun v H' => ∃ j : Int, v = .int j ∧ j < big ∧ -1000000 < j ∧ R (L2.Itr 0 (j - 0).toNat) H') w ?_
  · cases o : f ρ S with
    | stuck => rw [o] at w'; exact w'
    | exn k x S1 => rw [o] at w'; exact w'
    | ok d S1 =>
      rw [o] at w'
      intro μ1 H1 vs t1 r1
      obtain ⟨x, rfl, rx⟩ := RelL.one r1
      obtain ⟨j, rfl, h1, h2, q⟩ := w' μ1 H1 x t1 rx
      refine ⟨j, rfl, ?_⟩
      simp only [big] at h1
      refine ⟨by omega, by omega, ?_⟩
      simpa using q
  · intro d S1 μ1 H1 v t1 r1 w1
    obtain ⟨wk, e, w2⟩ := WishI.opt w1
    cases d <;> simp only [intOf, Option.bind_none, Option.bind_some, reduceCtorEq, Option.ite_none_right_eq_some, Option.some.injEq] at e
    obtain ⟨⟨h1, h2⟩, rfl⟩ := e
    cases r1
    exact ⟨_, rfl, h2, h1, w2.here t1.sz t1.sim trivial (by simp only [rangeI, List.length_map, List.length_range]; omega) it_rng⟩
theorem sndI_rng2 (ok : Ok X F) (hg : Gl X "range") (hm : X.mg "range" = none) (hs : notStar a = true) (hs2 : notStar b = true) (ha : PE X a (tE F W f)) (hb : PE X b (tE F W g)) :
    PI X tg (.Call (.Name "range" p) [a, b] [] pos) (tI F W fun ρ S => (f ρ S).bind fun x S1 => (g ρ S1).bind fun y S2 => Out.opt S2 ((intOf x).bind fun i => (intOf y).bind fun j =>
      if rgOk i j then some ⟨rangeI i j, none⟩ else none)) := by
  have hA : PA X [a, b] (tCons (tE F W f) (tCons (tE F W g) tNil)) := pa_cons ha (pa_cons hb pa_nil (star_cons hs2)) (star_cons hs)
  refine pi_of fun σ H R μ ρ S z c w => ⟨_, pi_range2 hg hm hA (by rw [star_cons hs, star_cons hs2]; rfl) (star_cons hs2), ?_⟩
  refine tG.of c (WishI.bind w fun x S1 μ1 H1 vx t1 r1 w1 => ?_)
  refine tG.of (c.to t1) (WishI.bind w1 fun y S2 μ2 H2 vy t2 r2 w2 => ?_)
  obtain ⟨wk, e, w3⟩ := WishI.opt w2
  cases x <;> simp only [intOf, Option.bind_none, Option.bind_some, reduceCtorEq] at e
  cases y <;> simp only [intOf, Option.bind_none, Option.bind_some, reduceCtorEq, Option.ite_none_right_eq_some, Option.some.injEq] at e
  rename_i i j
  obtain ⟨⟨h1, h2, h3, h4, h5⟩, rfl⟩ := e
  cases r1
  cases r2
  exact ⟨i, j, rfl, ⟨by omega, by omega, by omega, by omega⟩, w3.here t2.sz t2.sim trivial (by simp only [rangeI, List.length_map, List.length_range]; omega) it_rng⟩
/-- what is walked by itself: a tuple, a list, a list of the store -/
theorem sndI_it (ok : Ok X F) (ha : PE X a (tE F W f)) : PI X tg a (tI F W fun ρ S => (f ρ S).bind fun d S1 => Out.opt S1 (walkOf S1 d)) := by
  refine pi_of fun σ H R μ ρ S z c w => ?_
  cases o : f ρ S with
  | stuck => rw [o] at w; exact w.elim
  | exn k x S1 =>
    rw [o] at w
    refine ⟨_, pi_list ha, tG.of c ?_⟩
    rw [o]
    exact w
  | ok d S1 =>
    rw [o] at w
    obtain ⟨wk, e, w2⟩ := WishI.opt (show WishI F W σ μ H (Out.opt S1 (walkOf S1 d)) R from w)
    unfold walkOf at e
    split at e
    · cases e
      refine ⟨_, pi_tup ha, tG.of c ?_⟩
      rw [o]
      intro μ1 H1 v t1 r1
      cases r1 with
      | tup n e' r' => exact ⟨_, rfl, ⟨_, .inl (.inl e')⟩, w2 μ1 H1 _ t1 trivial (by rw [r'.length, big_eq]; exact t1.sz.tup _ _ e') (it_tup ok.hK n e' r')⟩
    · cases e
      refine ⟨_, pi_list ha, tG.of c ?_⟩
      rw [o]
      intro μ1 H1 v t1 r1
      cases r1 with
      | lst n e' r' => exact ⟨_, rfl, ⟨_, .inl (.inl e')⟩, w2 μ1 H1 _ t1 trivial (by rw [r'.length, big_eq]; exact t1.sz.lst _ _ e') (it_lst ok.hK n e' r')⟩
    · cases e
    · cases e
    · split at e
      · rename_i i _ xs hi
        cases e
        refine ⟨_, pi_list ha, tG.of c ?_⟩
        rw [o]
        intro μ1 H1 v t1 r1
        cases r1 with
        | ref h =>
          obtain ⟨a', ha', vs, e1, r⟩ := t1.sim.at hi
          rw [h] at ha'
          cases ha'
          exact ⟨_, rfl, ⟨_, .inl (.inl e1)⟩, w2 μ1 H1 _ t1 hi (by rw [r.length, big_eq]; exact t1.sz.lst _ _ e1) (it_ref h)⟩
      · cases e
      · cases e
    · cases e
end
end Pf
end

section 
set_option Elab.async false
set_option linter.all false
set_option maxRecDepth 100000
set_option maxHeartbeats 1000000
/-! PfR: zip; targets; comprehensions. -/
namespace Pf
open PySem PySem.Spec PyProof.Rows L2 RZ

section
variable {X : Cx} {F : Fx} {W : WX} {a b c e tg iter : Expr} {f g h : SemE D} {pos p : Pos}
theorem zip_get {xs ys : List D} {i : Nat} {d : D} (h : (zipD xs ys)[i]? = some d) : ∃ x y, xs[i]? = some x ∧ ys[i]? = some y ∧ d = .tup [x, y] := by
  unfold zipD at h
  rw [List.getElem?_zipWith] at h
  cases h1 : xs[i]? <;> cases h2 : ys[i]? <;> rw [h1, h2] at h <;> simp at h
  exact ⟨_, _, rfl, rfl, h.symm⟩
theorem pair_new {μ : Mu} {S : Sto} {H : Hp} {x y : V} {dx dy : D} {T : Addr} (sim : F.Sim μ S H) (nT : H T = none) (r1 : F.Rel μ H dx x) (r2 : F.Rel μ H dy y) : Step μ H μ (upd H T (.tup [x, y])) ∧ F.Sim μ S (upd H T (.tup [x, y])) ∧ F.Rel μ (upd H T (.tup [x, y])) (.tup [dx, dy]) (.ref T) :=
  ⟨Step.alloc nT, sim.alloc nT, .tup (sim.fresh nT) upd_same (.cons (r1.up nT) (.cons (r2.up nT) .nil))⟩
theorem it_zipT {μ : Mu} {H : Hp} {t u : Addr} {ds es : List D} {vs ws : List V} (n : t ∉ μ) (e : H t = some (.tup vs)) (r : F.RelL μ H ds vs) (n' : u ∉ μ) (e' : H u = some (.tup ws)) (r' : F.RelL μ H es ws) :
    ItB F μ H (ItzT X.K t u) ⟨zipD ds es, none⟩ := by
  refine ItR.both fun μ₀ H₀ k1 k2 _ => ?_
  obtain ⟨n0, e0⟩ := k1 t _ n e
  obtain ⟨n1, e1⟩ := k1 u _ n' e'
  have r0 : F.RelL μ₀ H₀ ds vs := r.imp k2
  have r1 : F.RelL μ₀ H₀ es ws := r'.imp k2
  refine ⟨fun i d μ S H' eg st sim _ => ?_, fun μ S H' st _ _ => ?_⟩
  · have e2 := st.keep t _ (Mu.nin n0) e0
    have e3 := st.keep u _ (Mu.nin n1) e1
    obtain ⟨dx, dy, g1, g2, rfl⟩ := zip_get eg
    obtain ⟨x, hx, rx⟩ := r0.get g1
    obtain ⟨y, hy, ry⟩ := r1.get g2
    refine ⟨⟨vs, ws, x, y, .inl (.inl e2), .inl (.inl e3), hx, hy⟩, fun z H2 q => ?_⟩
    obtain ⟨T, x', y', rfl, nT, rfl, q1, q2⟩ := q
    have h1 := q1 vs (.inl (.inl e2))
    have h2 := q2 ws (.inl (.inl e3))
    rw [hx] at h1
    rw [hy] at h2
    cases h1
    cases h2
    exact pair_new sim nT (rx.mono st) (ry.mono st)
  · have e2 := st.keep t _ (Mu.nin n0) e0
    have e3 := st.keep u _ (Mu.nin n1) e1
    refine ⟨vs, ws, .inl (.inl e2), .inl (.inl e3), ?_⟩
    show vs.length ≤ (zipD ds es).length ∨ ws.length ≤ (zipD ds es).length
    simp only [zipD, List.length_zipWith, r0.length, r1.length]
    omega
theorem it_zipL {μ : Mu} {H : Hp} {t u : Addr} {ds es : List D} {vs ws : List V} (n : t ∉ μ) (e : H t = some (.lst vs)) (r : F.RelL μ H ds vs) (n' : u ∉ μ) (e' : H u = some (.lst ws)) (r' : F.RelL μ H es ws) :
    ItB F μ H (Itz X.K t u) ⟨zipD ds es, none⟩ := by
  refine ItR.both fun μ₀ H₀ k1 k2 _ => ?_
  obtain ⟨n0, e0⟩ := k1 t _ n e
  obtain ⟨n1, e1⟩ := k1 u _ n' e'
  have r0 : F.RelL μ₀ H₀ ds vs := r.imp k2
  have r1 : F.RelL μ₀ H₀ es ws := r'.imp k2
  refine ⟨fun i d μ S H' eg st sim _ => ?_, fun μ S H' st _ _ => ?_⟩
  · have e2 := st.keep t _ (Mu.nin n0) e0
    have e3 := st.keep u _ (Mu.nin n1) e1
    obtain ⟨dx, dy, g1, g2, rfl⟩ := zip_get eg
    obtain ⟨x, hx, rx⟩ := r0.get g1
    obtain ⟨y, hy, ry⟩ := r1.get g2
    refine ⟨⟨vs, ws, x, y, .inl (.inl e2), .inl (.inl e3), hx, hy⟩, fun z H2 q => ?_⟩
    obtain ⟨T, x', y', rfl, nT, rfl, q1, q2⟩ := q
    have h1 := q1 vs (.inl (.inl e2))
    have h2 := q2 ws (.inl (.inl e3))
    rw [hx] at h1
    rw [hy] at h2
    cases h1
    cases h2
    exact pair_new sim nT (rx.mono st) (ry.mono st)
  · have e2 := st.keep t _ (Mu.nin n0) e0
    have e3 := st.keep u _ (Mu.nin n1) e1
    refine ⟨vs, ws, .inl (.inl e2), .inl (.inl e3), ?_⟩
    show vs.length ≤ (zipD ds es).length ∨ ws.length ≤ (zipD ds es).length
    simp only [zipD, List.length_zipWith, r0.length, r1.length]
    omega
/-! ### targets -/
def gsT : List Nat → TGs
  | [] => gNil
  | i :: is => gCons (gName i) (gsT is)
def gT (K : PySem.W.Frag) : Tgt → TG
  | .nm i => gName i
  | .tp is => gTup K is.length (gsT is)
theorem wipe_set {σ : St} {i : Nat} {x : Option V} : ∀ {vs : List Nat}, i ∈ vs → L2.wipe (σ.set i x) vs = L2.wipe σ vs
  | v :: vs, h => by
    show (L2.wipe (σ.set i x) vs).set v none = (L2.wipe σ vs).set v none
    by_cases q : i ∈ vs
    · rw [wipe_set q]
    · have e : i = v := by
        rcases List.mem_cons.mp h with e | e
        · exact e
        · exact absurd e q
      subst e
      have : ∀ ws : List Nat, i ∉ ws → L2.wipe (σ.set i x) ws = (L2.wipe σ ws).set i x := by
        intro ws
        induction ws with
        | nil => intro _; rfl
        | cons w ws ih =>
          intro hn
          show (L2.wipe (σ.set i x) ws).set w none = ((L2.wipe σ ws).set w none).set i x
          rw [ih (fun z => hn (List.mem_cons_of_mem _ z)), List.set_comm]
          exact fun z => hn (by simp [z])
      rw [this vs q, List.set_set]
theorem wipe_idem {σ : St} : ∀ (vs ws : List Nat), (∀ i ∈ vs, i ∈ ws) → L2.wipe (L2.wipe σ vs) ws = L2.wipe σ ws
  | [], ws, _ => rfl
  | v :: vs, ws, h => by
    show L2.wipe ((L2.wipe σ vs).set v none) ws = _
    rw [wipe_set (h v (by simp)), wipe_idem vs ws fun i hi => h i (by simp [hi])]
theorem gsT_ok {μ : Mu} {H : Hp} : ∀ {is : List Nat} {ds : List D} {vs : List V} {ρ ρ' : Env} {σ : St} {Q : St → Hp → Prop}, F.RelL μ H ds vs → SimE F.K F.xs μ H ρ σ → setL is ds ρ = some ρ' →
    (∀ σ', SimE F.K F.xs μ H ρ' σ' → (∀ ws, (∀ i ∈ is, i ∈ ws) → L2.wipe σ' ws = L2.wipe σ ws) → Q σ' H) → gsT is vs σ H Q
  | [], _, _, ρ, ρ', σ, Q, .nil, e, h, q => by
    cases h
    exact ⟨rfl, q σ e fun _ _ => rfl⟩
  | [], _, _, ρ, ρ', σ, Q, .cons _ _, e, h, q => by cases h
  | i :: is, _, _, ρ, ρ', σ, Q, .nil, e, h, q => by cases h
  | i :: is, _, _, ρ, ρ', σ, Q, .cons r rs, e, h, q => by
    refine ⟨_, _, rfl, ?_⟩
    refine gsT_ok (is := is) rs (e.set r) h fun σ' e' hw => q σ' e' fun ws hws => ?_
    rw [hw ws fun j hj => hws j (by simp [hj]), wipe_set (hws i (by simp))]
theorem gT_ok {μ : Mu} {H : Hp} (hK : X.K = F.K) {t : Tgt} {d : D} {v : V} {ρ ρ' : Env} {σ : St} {Q : St → Hp → Prop} (r : F.Rel μ H d v) (e : SimE F.K F.xs μ H ρ σ) (h : t.put d ρ = some ρ')
    (q : ∀ σ', SimE F.K F.xs μ H ρ' σ' → (∀ ws, (∀ i ∈ t.own, i ∈ ws) → L2.wipe σ' ws = L2.wipe σ ws) → Q σ' H) : gT X.K t v σ H Q := by
  cases t with
  | nm i =>
    cases h
    exact q _ (e.set r) fun ws hws => wipe_set (hws i (by simp [Tgt.own]))
  | tp is =>
    simp only [Tgt.put, Option.bind_eq_some_iff] at h
    obtain ⟨ds, h1, h2⟩ := h
    cases d <;> simp only [tupOf, reduceCtorEq, Option.some.injEq] at h1
    subst h1
    cases r with
    | tup n e' r' =>
      have len : ∀ {is : List Nat} {ds : List D} {ρ ρ' : Env}, setL is ds ρ = some ρ' → ds.length = is.length := by
        intro is
        induction is with
        | nil => intro ds ρ ρ' h; cases ds <;> simp_all [setL]
        | cons i is ih =>
          intro ds ρ ρ' h
          cases ds with
          | nil => cases h
          | cons d ds => simp [ih (show setL is ds (ρ.set i (some d)) = some ρ' from h)]
      exact ⟨_, _, rfl, .inl (.inl e'), by rw [← r'.length, len h2], gsT_ok r' e h2 q⟩
end
end Pf
end

section 
set_option Elab.async false
set_option linter.all false
set_option maxRecDepth 100000
set_option maxHeartbeats 1000000
/-! PfS: comprehensions. -/
namespace Pf
open PySem PySem.Spec PyProof.Rows L2

def rmv (H : Hp) (p : Addr) : Hp := fun b => if b = p then none else H b
theorem rmv_same {H : Hp} {p : Addr} : rmv H p p = none := if_pos rfl
theorem rmv_ne {H : Hp} {p a : Addr} (h : a ≠ p) : rmv H p a = H a := if_neg h
theorem upd_rmv {H : Hp} {p : Addr} {o : HO} (h : H p = some o) : upd (rmv H p) p o = H := by
  funext b
  by_cases q : b = p
  · subst q; rw [upd_same, h]
  · rw [upd_ne q, rmv_ne q]
section
variable {K : PySem.W.Frag} {ξ : List (Addr × Nat)} {ic : Nat → Addr} {fn : Nat → List Str} {nm rs : List Addr} {S : Sto} {H : Hp} {p : Addr}
theorem nin_ne {a : Addr} (n : a ∉ (⟨nm, p :: rs⟩ : Mu)) : a ≠ p := fun e => n (Or.inr (by rw [e]; exact List.mem_cons_self))
mutual
theorem Rel.unhold : ∀ {d : D} {v : V}, Rel K ξ ⟨nm, p :: rs⟩ H d v → Rel K ξ ⟨nm, rs⟩ (rmv H p) d v
  | _, _, .non => .non
  | _, _, .bl b => .bl b
  | _, _, .int i => .int i
  | _, _, .str z => .str z
  | _, _, .tup n e r => .tup (free_nin n) ((rmv_ne (nin_ne n)).trans e) (RelL.unhold r)
  | _, _, .lst n e r => .lst (free_nin n) ((rmv_ne (nin_ne n)).trans e) (RelL.unhold r)
  | _, _, .dK n e r => .dK (free_nin n) ((rmv_ne (nin_ne n)).trans e) (RelL.unhold r)
  | _, _, .dT n e r => .dT (free_nin n) ((rmv_ne (nin_ne n)).trans e) (RelL.unhold r)
  | _, _, .ref q => .ref q
  | _, _, .scr n r => .scr (free_nin n) (Rd.keep (fun o e => (rmv_ne (nin_ne n)).trans e) r)
  | _, _, .scrK q => .scrK q
  | _, _, .exc q => .exc q
theorem RelL.unhold : ∀ {ds : List D} {vs : List V}, RelL K ξ ⟨nm, p :: rs⟩ H ds vs → RelL K ξ ⟨nm, rs⟩ (rmv H p) ds vs
  | _, _, .nil => .nil
  | _, _, .cons a r => .cons (Rel.unhold a) (RelL.unhold r)
end
theorem Sim.unhold (s : Sim K ξ ic fn ⟨nm, p :: rs⟩ S H) (np : p ∉ rs) : Sim K ξ ic fn ⟨nm, rs⟩ S (rmv H p) := by
  refine ⟨s.len, s.nd, fun a ha => ?_, fun i a o h1 h2 => ?_⟩
  · obtain ⟨n, u, e⟩ := s.hel a (List.mem_cons_of_mem _ ha)
    exact ⟨n, u, (rmv_ne (fun q => np (by rw [← q]; exact ha))).trans e⟩
  · have r := s.obj i a o h1 h2
    have ne : a ≠ p := fun e => (s.hel p List.mem_cons_self).1 (by rw [← e]; exact List.mem_of_getElem? h1)
    have q : rmv H p a = H a := rmv_ne ne
    cases o with
    | lst ds => obtain ⟨xs, h, r⟩ := r; exact ⟨xs, q.trans h, r.unhold⟩
    | dic t ks vs =>
      cases t with
      | false => obtain ⟨xs, h, q', r⟩ := r; exact ⟨xs, q.trans h, q', r.unhold⟩
      | true => obtain ⟨xs, h, q', r⟩ := r; exact ⟨xs, q.trans h, q', r.unhold⟩
    | ins c fs =>
      obtain ⟨dx, xs, n, hd, h', r⟩ := r
      exact ⟨dx, xs, free_nin n, (rmv_ne (nin_ne n)).trans hd, q.trans h', r.unhold⟩
end
theorem compL_ok {f : D → Sto → Out (Option D)} {w : Wk} : ∀ {ds : List D} {S : Sto}, (∃ ys S', compL f w ds S = .ok ys S') ∨ compL f w ds S = .stuck
  | [], S => by
    unfold compL
    split
    · exact .inl ⟨_, _, rfl⟩
    · exact .inr rfl
  | d :: ds, S => by
    unfold compL
    split
    · cases f d S with
      | ok o S1 =>
        rcases compL_ok (f := f) (w := w) (ds := ds) (S := S1) with ⟨ys, S2, e⟩ | e
        · left; simp only [e, Out.ok_bind]; exact ⟨_, _, rfl⟩
        · right; simp only [e]; rfl
      | exn c x S1 => exact .inr rfl
      | stuck => exact .inr rfl
    · exact .inr rfl
/-- what a comprehension does at an item -/
noncomputable def compB (tg : Tgt) (fc : SemE Bool) (fe : SemE D) (ρ : Env) : D → Sto → Out (Option D) := fun d S => match tg.put d (wipe ρ tg.own) with
      | some ρ' => (fc ρ' S).bind fun t S2 => if t = true then (fe ρ' S2).bind fun y S3 => .ok (some y) S3 else .ok none S2
      | none => .stuck
def noW : WX := fun _ _ _ _ => False
section
variable {X : Cx} {F : Fx} {W : WX} {fw : SemE Wk} {tg : Tgt} {fc : SemE Bool} {fe : SemE D}
theorem comp_read (hK : X.K = F.K) {ρ : Env} {σ : St} {μ1 : Mu} {H1 : Hp} {S1 : Sto} {w : Wk} {J : It} {Q : VK} (hlen : w.xs.length ≤ big) (sim1 : F.Sim μ1 S1 H1) (env1 : SimE F.K F.xs μ1 H1 ρ σ)
    (hi : ItB F μ1 H1 J w)
    (hw : WishN F W σ μ1 H1 ((compL (compB tg fc fe ρ) w w.xs S1).bind fun ds S2 => .ok (.lst ds) S2) Q) :
    ∀ D, H1 D = none → ∃ W : Nat → Nat → Hp → Prop, (∃ m, W 0 m (upd H1 D (.lst []))) ∧ ∀ i m H, W i m H →
  (J.stop i H ∧ (Sz H → Q (.ref D) H)) ∨ (J.go i H ∧ ∃ Nx : Hp → Prop, (∀ H', Nx H' → ∃ m', m' < m ∧ W (i + 1) m' H') ∧ ∀ x H', J.yld i H x H' → gT X.K tg x (L2.wipe σ tg.own) H' fun σ2 H2 => L2.wipe σ2 tg.own = L2.wipe σ tg.own ∧ tT F noW fc σ2 H2 fun b H3 =>
    if b = true then tE F noW fe σ2 H3 fun y H4 => ∃ acc, H4 D = some (.lst acc) ∧ acc.length < sizeLine ∧ Nx (upd H4 D (.lst (acc ++ [y]))) else Nx H3) := by
  intro D nD
  rcases (compL_ok (f := compB tg fc fe ρ) (w := w) (ds := w.xs) (S := S1)).symm with ec | ⟨total, Se, ec⟩
  · rw [ec] at hw; exact hw.elim
  rw [ec] at hw
  have np : D ∉ μ1 := sim1.fresh nD
  -- the state ahead of item i
  let St : Nat → Hp → Prop := fun i H => ∃ nm S done acc rest, Step μ1 H1 ⟨nm, μ1.rs⟩ H ∧ F.Sim ⟨nm, D :: μ1.rs⟩ S H ∧ F.RelL ⟨nm, D :: μ1.rs⟩ H done acc ∧ H D = some (.lst acc) ∧ acc.length ≤ i ∧
    SimE F.K F.xs ⟨nm, D :: μ1.rs⟩ H ρ σ ∧ compL (compB tg fc fe ρ) w (w.xs.drop i) S = .ok rest Se ∧ total = done ++ rest
  refine ⟨fun i m H => m = w.xs.length - i ∧ i ≤ w.xs.length ∧ St i H, ⟨w.xs.length, by simp, Nat.zero_le _, ?_⟩, ?_⟩
  · refine ⟨μ1.nm, S1, [], [], total, ?_, sim1.hold nD, .nil, upd_same, Nat.le_refl _, env1.hold nD, ec, rfl⟩
    exact Step.alloc nD
  rintro i m H ⟨rfl, hil, nm, S, done, acc, rest, st, sim, rl, hD, hal, env, er, et⟩
  have st2 : Step (μ1.hold D) (upd H1 D (.lst acc)) ⟨nm, D :: μ1.rs⟩ H := by
    obtain ⟨ν, e, hν⟩ := st.ext
    refine ⟨⟨ν, ?_, fun a ha => ?_⟩, fun a o n e => ?_⟩
    · injection e with e1 e2
      subst e1
      rfl
    · have nD' : a ≠ D := by
        rintro rfl
        injection e with e1 e2
        exact (sim.hel a List.mem_cons_self).1 (by rw [e1]; exact List.mem_append_right _ ha)
      rw [upd_ne nD']
      exact hν a ha
    · by_cases q : a = D
      · subst q
        rw [upd_same] at e
        cases e
        exact hD
      · rw [upd_ne q] at e
        exact st.keep a o n e
  have itr := hi.2 D (.lst acc) nD
  by_cases hlt : i < w.xs.length
  · right
    have ed : w.xs.drop i = w.xs[i] :: w.xs.drop (i + 1) := List.drop_eq_getElem_cons hlt
    rw [ed] at er
    unfold compL at er
    have hok : w.ok S := Classical.byContradiction fun q => by rw [if_neg q] at er; cases er
    rw [if_pos hok] at er
    obtain ⟨hgo, hyl⟩ := itr.go i w.xs[i] ⟨nm, D :: μ1.rs⟩ S H (List.getElem?_eq_getElem hlt) st2 sim hok
    refine ⟨hgo, St (i + 1), fun H' q => ⟨w.xs.length - (i + 1), by omega, rfl, hlt, q⟩, fun x H' y => ?_⟩
    obtain ⟨st3, sim3, rx⟩ := hyl x H' y
    have env3 : SimE F.K F.xs ⟨nm, D :: μ1.rs⟩ H' (wipe ρ tg.own) (L2.wipe σ tg.own) := (env.mono st3).wipe _
    unfold compB at er
    cases ep : tg.put w.xs[i] (wipe ρ tg.own) with
    | none => simp only [ep] at er; cases er
    | some ρ' =>
      simp only [ep] at er
      refine gT_ok hK rx env3 ep fun σ2 env4 hwipe => ⟨by rw [hwipe _ fun _ h => h]; exact wipe_idem _ _ fun _ h => h, ?_⟩
      refine fun z3 => ⟨⟨nm, D :: μ1.rs⟩, ρ', S, ⟨sim3, env4⟩, ?_⟩
      cases eb : fc ρ' S with
      | stuck => rw [eb] at er; cases er
      | exn k x S2 => rw [eb] at er; cases er
      | ok t S2 =>
        rw [eb] at er
        simp only [Out.ok_bind] at er
        intro μ5 H5 b t5 hb
        subst hb
        obtain ⟨ν5, e5, hν5⟩ := t5.st.ext
        obtain ⟨nm5, rs5⟩ := μ5
        injection e5 with e51 e52
        subst e52
        have D5 : H5 D = some (.lst acc) := t5.st.keep D _ (sim.hel D List.mem_cons_self).1 (st3.keep D _ (sim.hel D List.mem_cons_self).1 hD)
        have out5 : Step μ1 H1 ⟨nm5, μ1.rs⟩ H5 := by
          have s5 : Step ⟨nm, D :: μ1.rs⟩ H ⟨nm5, D :: μ1.rs⟩ H5 := st3.trans t5.st t5.sim.nd
          have s6 : Step ⟨nm, μ1.rs⟩ H ⟨nm5, μ1.rs⟩ H5 := by
            obtain ⟨ν6, e6, hν6⟩ := s5.ext
            injection e6 with e61 e62
            exact ⟨⟨ν6, by rw [e61], hν6⟩, s5.keep⟩
          exact st.trans s6 t5.sim.nd
        cases t with
        | false =>
          simp only [Bool.false_eq_true, if_false] at er
          cases e6 : compL (compB tg fc fe ρ) w (w.xs.drop (i + 1)) S2 with
          | stuck => unfold compB at e6; rw [e6] at er; cases er
          | exn k x S7 => unfold compB at e6; rw [e6] at er; cases er
          | ok ys S7 =>
            have e7 := e6
            unfold compB at e7
            rw [e7] at er
            simp only [Out.ok_bind, Option.toList_none, List.nil_append] at er
            cases er
            exact ⟨nm5, S2, done, acc, rest, out5, t5.sim, (rl.mono st3).mono t5.st, D5, by omega, (env.mono st3).mono t5.st, e6, et⟩
        | true =>
          simp only [if_true] at er
          simp only [if_true]
          refine fun z5 => ⟨⟨nm5, D :: μ1.rs⟩, ρ', S2, ⟨t5.sim, env4.mono t5.st⟩, ?_⟩
          cases ef : fe ρ' S2 with
          | stuck => rw [ef] at er; cases er
          | exn k x S8 => rw [ef] at er; cases er
          | ok y S8 =>
            rw [ef] at er
            simp only [Out.ok_bind] at er
            intro μ9 H9 v t9 rv
            obtain ⟨ν9, e9, hν9⟩ := t9.st.ext
            obtain ⟨nm9, rs9⟩ := μ9
            injection e9 with e91 e92
            subst e92
            have D9 : H9 D = some (.lst acc) := t9.st.keep D _ (t5.sim.hel D List.mem_cons_self).1 D5
            refine ⟨acc, D9, ?_, ?_⟩
            · rw [← big_eq]; omega
            · cases e6 : compL (compB tg fc fe ρ) w (w.xs.drop (i + 1)) S8 with
              | stuck => unfold compB at e6; rw [e6] at er; cases er
              | exn k x S7 => unfold compB at e6; rw [e6] at er; cases er
              | ok ys S7 =>
                have e7 := e6
                unfold compB at e7
                rw [e7] at er
                simp only [Out.ok_bind, Option.toList_some, List.singleton_append] at er
                cases er
                have hp9 : D ∈ (⟨nm9, D :: μ1.rs⟩ : Mu).rs := List.mem_cons_self
                refine ⟨nm9, S8, done ++ [y], acc ++ [v], ys, ?_, t9.sim.fill hp9, RelL.fill hp9 ((((rl.mono st3).mono t5.st).mono t9.st).append (.cons rv .nil)), upd_same, by simp; omega, ?_, e6, by simp [et]⟩
                · have s6 : Step ⟨nm5, μ1.rs⟩ H5 ⟨nm9, μ1.rs⟩ H9 := by
                    obtain ⟨ν6, e6, hν6⟩ := t9.st.ext
                    injection e6 with e61 e62
                    exact ⟨⟨ν6, by rw [e61], hν6⟩, t9.st.keep⟩
                  have s7 := out5.trans s6 t9.sim.nd
                  exact ⟨s7.ext, fun a o n e => by
                    rw [upd_ne (ne_of_none e nD)]
                    exact s7.keep a o n e⟩
                · exact (((env.mono st3).mono t5.st).mono t9.st).fill hp9
  · left
    have ei : i = w.xs.length := by omega
    subst ei
    rw [List.drop_length] at er
    unfold compL at er
    have hok : w.ok S := Classical.byContradiction fun q => by rw [if_neg q] at er; cases er
    rw [if_pos hok] at er
    cases er
    refine ⟨itr.stop ⟨nm, D :: μ1.rs⟩ _ H st2 sim hok, fun zH => ?_⟩
    have et' : total = done := by rw [et, List.append_nil]
    have hq := hw.2 ⟨nm, μ1.rs⟩ (rmv H D) D (.lst acc)
    rw [upd_rmv hD] at hq
    refine hq zH ?_ (Sim.unhold sim (fun q => np (Or.inr q))) rmv_same ?_
    · exact ⟨st.ext, fun a o n e => by
        rw [rmv_ne (ne_of_none e nD)]
        exact st.keep a o n e⟩
    · rw [et']
      exact RelL.unhold rl
end
end Pf
end

section 
set_option Elab.async false
set_option linter.all false
set_option maxRecDepth 100000
set_option maxHeartbeats 1000000
/-! PfT: statements. -/
namespace Pf
open PySem PySem.Spec PyProof.Rows L2

abbrev SemS := Env → Sto → Res
def WishS (F : Fx) (W : WX) (μ : Mu) (H : Hp) (r : Res) (D : Ends) : Prop := match r with
  | .nx ρ S => ∀ μ' H' σ', To F μ H S μ' H' → SimE F.K F.xs μ' H' ρ σ' → D.nx σ' H'
  | .bk ρ S => ∀ μ' H' σ', To F μ H S μ' H' → SimE F.K F.xs μ' H' ρ σ' → D.bk σ' H'
  | .ct ρ S => ∀ μ' H' σ', To F μ H S μ' H' → SimE F.K F.xs μ' H' ρ σ' → D.ct σ' H'
  | .rt d S => ∀ μ' H' v, To F μ H S μ' H' → F.Rel μ' H' d v → D.rt v H'
  | .ex c x ρ S => ∀ μ' H' σ' cls dd, To F μ H S μ' H' → SimE F.K F.xs μ' H' ρ σ' → ExR F μ' H' c x cls dd → W cls dd σ' H'
  | .stuck => False
def tS (F : Fx) (W : WX) (f : SemS) : TS := fun D σ H => Sz H → ∃ μ ρ S, Cfg F μ ρ S σ H ∧ WishS F W μ H (f ρ S) D
def zE (D : Ends) : Ends := ⟨fun σ H => Sz H → D.nx σ H, fun v H => Sz H → D.rt v H, fun σ H => Sz H → D.bk σ H, fun σ H => Sz H → D.ct σ H⟩
theorem WishS.after {F : Fx} {W : WX} {μ μ1 : Mu} {H H1 : Hp} {S1 : Sto} {r : Res} {D : Ends} (t : To F μ H S1 μ1 H1) (h : WishS F W μ H r D) : WishS F W μ1 H1 r D := by
  cases r with
  | nx ρ S => exact fun μ' H' σ' t' e => h μ' H' σ' (t.trans t') e
  | bk ρ S => exact fun μ' H' σ' t' e => h μ' H' σ' (t.trans t') e
  | ct ρ S => exact fun μ' H' σ' t' e => h μ' H' σ' (t.trans t') e
  | rt d S => exact fun μ' H' v t' e => h μ' H' v (t.trans t') e
  | ex c x ρ S => exact fun μ' H' σ' cls dd t' e x => h μ' H' σ' cls dd (t.trans t') e x
  | stuck => exact h
section
variable {X : Cx} {F : Fx} {W : WX} {st : Stmt} {sts : List Stmt} {a b c e o tg iter : Expr} {f g h : SemE D} {fs gs : SemS} {pos p : Pos}
theorem sp_z {pins : List (Addr × Obj)} {D : Ends} {fl : Flow} {s : Shared} (h : SP X pins (zE D) fl s) : SP X pins D fl s := by
  cases fl with
  | next => obtain ⟨σ, H, I, q⟩ := h; exact ⟨σ, H, I, q (sz_of I.hok)⟩
  | brk => obtain ⟨σ, H, I, q⟩ := h; exact ⟨σ, H, I, q (sz_of I.hok)⟩
  | cont => obtain ⟨σ, H, I, q⟩ := h; exact ⟨σ, H, I, q (sz_of I.hok)⟩
  | ret u => obtain ⟨v, σ, H, I, r, q⟩ := h; exact ⟨v, σ, H, I, r, q (sz_of I.hok)⟩
theorem ps_of (h : ∀ σ H D μ ρ S, Sz H → Cfg F μ ρ S σ H → WishS F W μ H (fs ρ S) D → ∃ t, PS X st t ∧ t (zE D) σ H) : PS X st (tS F W fs) := by
  refine ⟨fun pins s σ H D I hq => ?_⟩
  obtain ⟨μ, ρ, S, c, w⟩ := hq (sz_of I.hok)
  obtain ⟨t, ht, q⟩ := h σ H D μ ρ S (sz_of I.hok) c w
  exact thn (ht.run pins s σ H _ I q) fun fl s1 => sp_z
theorem pss_of (h : ∀ σ H D μ ρ S, Sz H → Cfg F μ ρ S σ H → WishS F W μ H (fs ρ S) D → ∃ t, PSs X sts t ∧ t (zE D) σ H) : PSs X sts (tS F W fs) := by
  refine ⟨fun pins s σ H D I hq => ?_⟩
  obtain ⟨μ, ρ, S, c, w⟩ := hq (sz_of I.hok)
  obtain ⟨t, ht, q⟩ := h σ H D μ ρ S (sz_of I.hok) c w
  exact thn (ht.run pins s σ H _ I q) fun fl s1 => sp_z
theorem tS.of {σ : St} {H : Hp} {D : Ends} {μ : Mu} {ρ : Env} {S : Sto} (c : Cfg F μ ρ S σ H) (w : WishS F W μ H (fs ρ S) D) : tS F W fs D σ H := fun _ => ⟨μ, ρ, S, c, w⟩
theorem WishS.imp {μ : Mu} {H : Hp} {r : Res} {D D' : Ends} (h : WishS F W μ H r D) (h1 : ∀ σ H, D.nx σ H → D'.nx σ H) (h2 : ∀ v H, D.rt v H → D'.rt v H) (h3 : ∀ σ H, D.bk σ H → D'.bk σ H) (h4 : ∀ σ H, D.ct σ H → D'.ct σ H) : WishS F W μ H r D' := by
  cases r with
  | nx ρ S => exact fun μ' H' σ' t' e => h1 _ _ (h μ' H' σ' t' e)
  | bk ρ S => exact fun μ' H' σ' t' e => h3 _ _ (h μ' H' σ' t' e)
  | ct ρ S => exact fun μ' H' σ' t' e => h4 _ _ (h μ' H' σ' t' e)
  | rt d S => exact fun μ' H' v t' e => h2 _ _ (h μ' H' v t' e)
  | ex c x ρ S => exact h
  | stuck => exact h
theorem WishS.z {μ : Mu} {H : Hp} {r : Res} {D : Ends} (h : WishS F W μ H r D) : WishS F W μ H r (zE D) := h.imp (fun _ _ q _ => q) (fun _ _ q _ => q) (fun _ _ q _ => q) (fun _ _ q _ => q)
/-- an expression's part of a statement -/
theorem WishS.res {α β : Type} {R : Mu → Hp → α → β → Prop} {oo : Out α} {k : α → Sto → Res} {σ : St} {μ : Mu} {H : Hp} {ρ : Env} {D : Ends} {Q : β → Hp → Prop} (w : WishS F W μ H (oo.res ρ k) D) (env : SimE F.K F.xs μ H ρ σ)
    (i : ∀ a S' μ' H' b, To F μ H S' μ' H' → R μ' H' a b → WishS F W μ' H' (k a S') D → Q b H') : Wish F W σ μ H R oo Q := by
  cases oo with
  | ok a S' => exact fun μ' H' b t r => i a S' μ' H' b t r (WishS.after t w)
  | exn c x S' => exact fun μ' H' cls dd t r => w μ' H' σ cls dd t (env.mono t.st) r
  | stuck => exact w
/-! ### blocks -/
theorem sndB_nil : PSs X [] (tS F W fun ρ S => .nx ρ S) := pss_of fun σ H D μ ρ S z c w => ⟨_, pss_nil, fun z' => w μ H σ ⟨z', Step.refl, c.sim⟩ c.env⟩
theorem sndB_cons (h1 : PS X st (tS F W fs)) (h2 : PSs X sts (tS F W gs)) : PSs X (st :: sts) (tS F W fun ρ S => (fs ρ S).seq gs) := by
  refine pss_of fun σ H D μ ρ S z c w => ⟨_, pss_cons h1 h2, ?_⟩
  refine tS.of c ?_
  have w := w
  cases q : fs ρ S with
  | nx ρ' S' =>
    rw [q] at w
    exact fun μ' H' σ' t e z' => ⟨μ', ρ', S', ⟨t.sim, e⟩, (WishS.after t w).z⟩
  | bk ρ' S' => rw [q] at w; exact fun μ' H' σ' t e z' => w μ' H' σ' t e
  | ct ρ' S' => rw [q] at w; exact fun μ' H' σ' t e z' => w μ' H' σ' t e
  | rt d S' => rw [q] at w; exact fun μ' H' v t e z' => w μ' H' v t e
  | ex k x ρ' S' => rw [q] at w; exact w
  | stuck => rw [q] at w; exact w
/-! ### simple statements -/
theorem sndS_pass : PS X (.Pass pos) (tS F W fun ρ S => .nx ρ S) := ps_of fun σ H D μ ρ S z c w => ⟨_, ps_pass, fun z' => w μ H σ ⟨z', Step.refl, c.sim⟩ c.env⟩
theorem sndS_never : PS X st (tS F W fun _ _ => .stuck) := ps_of fun σ H D μ ρ S z c w => w.elim
theorem sndS_brk : PS X (.Break pos) (tS F W fun ρ S => .bk ρ S) := ps_of fun σ H D μ ρ S z c w => ⟨_, ps_break, fun z' => w μ H σ ⟨z', Step.refl, c.sim⟩ c.env⟩
theorem sndS_cnt : PS X (.Continue pos) (tS F W fun ρ S => .ct ρ S) := ps_of fun σ H D μ ρ S z c w => ⟨_, ps_continue, fun z' => w μ H σ ⟨z', Step.refl, c.sim⟩ c.env⟩
theorem sndS_retN : PS X (.Return none pos) (tS F W fun _ S => .rt .non S) := ps_of fun σ H D μ ρ S z c w => ⟨_, ps_retN, fun z' => w μ H _ ⟨z', Step.refl, c.sim⟩ .non⟩
theorem sndS_ret (he : PE X e (tE F W f)) : PS X (.Return (some e) pos) (tS F W fun ρ S => (f ρ S).res ρ fun d S1 => .rt d S1) := by
  refine ps_of fun σ H D μ ρ S z c w => ⟨_, ps_ret he, ?_⟩
  exact tG.of c (WishS.res w c.env fun d S1 μ1 H1 v t1 r1 w1 z' => w1 μ1 H1 v ⟨t1.sz, Step.refl, t1.sim⟩ r1)
/-- no comprehension -/
def noLc : Expr → Bool
  | .ListComp _ _ _ _ => false
  | .SetComp _ _ _ _ => false
  | .DictComp _ _ _ _ _ => false
  | .Tuple _ _ _ => false
  | .Set _ _ _ => false
  | _ => true
theorem swaps_no {t : Option Expr} {l : Nat} {env : PySem.Env} (h : noLc e = true) : swapsWith e t l env = pure false := by
  cases e <;> first
    | rfl
    | cases h
theorem swaps_sole {t : Expr} {l : Nat} {env : PySem.Env} (h : noLc e = true) : swapsWithSole [t] e l env = pure false := by
  cases e <;> first
    | rfl
    | cases h
def noLcT : Expr → Bool
  | .ListComp _ _ _ _ => false
  | .SetComp _ _ _ _ => false
  | .DictComp _ _ _ _ _ => false
  | _ => true
theorem swaps_noT {t : Option Expr} {l : Nat} {env : PySem.Env} (h : noLcT e = true) : swapsWith e t l env = pure false := by
  cases e <;> first
    | rfl
    | cases h
theorem folded_no {env : PySem.Env} (h : ∀ es k p, e ≠ .Set es k p) : ∀ x, foldedSetIterable e env x = pure x := by
  intro x
  cases e <;> first
    | rfl
    | exact absurd rfl (h _ _ _)
theorem sndS_expr (hn : noLcT e = true) (he : PE X e (tE F W f)) : PS X (.Expr e pos) (tS F W fun ρ S => (f ρ S).res ρ fun _ S1 => .nx ρ S1) := by
  refine ps_of fun σ H D μ ρ S z c w => ⟨_, ps_expr he (swaps_noT hn), ?_⟩
  exact tG.of c (WishS.res w c.env fun d S1 μ1 H1 v t1 r1 w1 z' => w1 μ1 H1 σ ⟨t1.sz, Step.refl, t1.sim⟩ (c.env.mono t1.st))
theorem sndS_asg {i : Nat} {x : Str} {pos' : Pos} (hN : X.N.Nodup) (hi : X.N[i]? = some x) (hx : Loc X.env.scope x) (hf : X.fn x = true ∨ X.env.scope.names.lookup x = some .local) (hn : noLcT e = true) (he : PE X e (tE F W f)) :
    PS X (.Assign [.Name x pos'] e pos) (tS F W fun ρ S => (f ρ S).res ρ fun d S1 => .nx (ρ.set i (some d)) S1) := by
  refine ps_of fun σ H D μ ρ S z c w => ⟨_, ps_set hN hi hx he (swaps_noT hn) hf, ?_⟩
  exact tG.of c (WishS.res w c.env fun d S1 μ1 H1 v t1 r1 w1 z' => w1 μ1 H1 _ ⟨t1.sz, Step.refl, t1.sim⟩ ((c.env.mono t1.st).set r1))
theorem sndS_asgT {t : Tgt} {es : List Expr} {k : Nat} {tp : Pos} (ok : Ok X F) (hg : PG X (.Tuple es k tp) (gT X.K t)) (hn : noLc e = true) (he : PE X e (tE F W f)) :
    PS X (.Assign [.Tuple es k tp] e pos) (tS F W fun ρ S => (f ρ S).res ρ fun d S1 => match t.put d ρ with
      | some ρ' => .nx ρ' S1
      | none => .stuck) := by
  have hw : swappedStores [.Tuple es k tp] e X.env = pure none := by
    cases e <;> first
      | rfl
      | cases hn
  refine ps_of fun σ H D μ ρ S z c w => ⟨_, ps_asg he hg (swaps_sole hn) hw rfl, ?_⟩
  refine tG.of c (WishS.res w c.env fun d S1 μ1 H1 v t1 r1 w1 => ?_)
  cases q : t.put d ρ with
  | none => rw [q] at w1; exact w1.elim
  | some ρ' =>
    rw [q] at w1
    exact gT_ok ok.hK r1 (c.env.mono t1.st) q fun σ' e' _ z' => w1 μ1 H1 σ' ⟨z', Step.refl, t1.sim⟩ e'
theorem sndS_ite {A B : List Stmt} (hc : PT X c (tT F W (tst f))) (ha : PSs X A (tS F W fs)) (hb : PSs X B (tS F W gs)) :
    PS X (.If c A B pos) (tS F W fun ρ S => (f ρ S).res ρ fun x S1 => match truth S1 x with
    | some true => fs ρ S1
    | some false => gs ρ S1
    | none => .stuck) := by
  refine ps_of fun σ H D μ ρ S z c w => ⟨_, ps_if hc ha hb, ?_⟩
  refine tG.of c ?_
  unfold tst
  cases q : f ρ S with
  | stuck => rw [q] at w; exact w
  | exn k x S1 => rw [q] at w; exact fun μ' H' cls dd t r => w μ' H' σ cls dd t (c.env.mono t.st) r
  | ok d S1 =>
    rw [q] at w
    simp only [Out.res_ok] at w
    simp only [Out.ok_bind]
    cases qt : truth S1 d with
    | none => rw [qt] at w; exact w.elim
    | some t =>
      rw [qt] at w
      intro μ1 H1 b t1 hb'
      subst hb'
      cases t with
      | true => exact tS.of (c.to t1) (WishS.after t1 w).z
      | false => exact tS.of (c.to t1) (WishS.after t1 w).z
end
end Pf
end

section 
set_option Elab.async false
set_option linter.all false
set_option maxRecDepth 100000
set_option maxHeartbeats 1000000
/-! PfU: loops, stores, comprehensions as values and in a name. -/
namespace Pf
open PySem PySem.Spec PyProof.Rows L2

section
variable {X : Cx} {F : Fx} {W : WX} {st : Stmt} {sts body : List Stmt} {a b c e o tg iter : Expr} {f g h : SemE D} {fs gs : SemS} {fw : SemE Wk} {pos p : Pos}
theorem sndS_wh (hp : PassesOwn (model X.prog X.w) X.A X.env X.xe) (hc : PT X c (tT F W (tst f))) (hb : PSs X body (tS F W fs)) :
    PS X (.While c body [] pos) (tS F W fun ρ S => whileL (tst f) fs ρ S) := by
  refine ps_of fun σ H D μ ρ S z c w => ⟨_, ps_while hp hc hb, ?_⟩
  unfold whileL at w
  split at w
  · rename_i hex
    have hsp := hex.choose_spec.choose_spec
    generalize hex.choose_spec.choose = r at w hsp
    generalize hex.choose = n at hsp
    refine ⟨fun m σ H => ∃ μ ρ S, Cfg F μ ρ S σ H ∧ ∃ r, whileN (tst f) fs m ρ S = some r ∧ WishS F W μ H r (zE D), ⟨n, μ, ρ, S, c, r, hsp, w.z⟩, ?_⟩
    rintro m σ H ⟨μ, ρ, S, c, r, hr, w⟩
    refine tG.of c ?_
    cases m with
    | zero => cases hr
    | succ m =>
      unfold whileN at hr
      cases q : tst f ρ S with
      | stuck => rw [q] at hr; cases hr; exact w.elim
      | exn k x S1 =>
        rw [q] at hr
        cases hr
        exact fun μ' H' cls dd t rr => w μ' H' σ cls dd t (c.env.mono t.st) rr
      | ok t S1 =>
        rw [q] at hr
        intro μ1 H1 b t1 hb'
        subst hb'
        cases t with
        | false =>
          cases hr
          exact w μ1 H1 σ t1 (c.env.mono t1.st)
        | true =>
          refine ⟨fun σ H => ∃ μ ρ S, Cfg F μ ρ S σ H ∧ ∃ r, whileN (tst f) fs m ρ S = some r ∧ WishS F W μ H r (zE D), fun σ' H' q => ⟨m, Nat.lt_succ_self _, q⟩, ?_⟩
          refine tS.of (c.to t1) ?_
          simp only at hr
          cases qb : fs ρ S1 with
          | nx ρ' S' =>
            rw [qb] at hr
            exact fun μ' H' σ' t e => ⟨μ', ρ', S', ⟨t.sim, e⟩, r, hr, WishS.after t (WishS.after t1 w)⟩
          | ct ρ' S' =>
            rw [qb] at hr
            exact fun μ' H' σ' t e => ⟨μ', ρ', S', ⟨t.sim, e⟩, r, hr, WishS.after t (WishS.after t1 w)⟩
          | bk ρ' S' => rw [qb] at hr; cases hr; exact WishS.after t1 w
          | rt d S' => rw [qb] at hr; cases hr; exact WishS.after t1 w
          | ex k x ρ' S' => rw [qb] at hr; cases hr; exact WishS.after t1 w
          | stuck => rw [qb] at hr; cases hr; exact w
  · exact w.elim
noncomputable def forB (t : Tgt) (fs : SemS) : D → Env → Sto → Res := fun d ρ S => match t.put d ρ with
      | some ρ' => fs ρ' S
      | none => .stuck
theorem sndS_for {t : Tgt} (ok : OkC X F) (hp : PassesOwn (model X.prog X.w) X.A X.env X.xe) (hi : PI X tg iter (tI F W fw)) (hg : PG X tg (gT X.K t)) (hb : PSs X body (tS F W fs)) (hs : ∀ es k p, iter ≠ .Set es k p) :
    PS X (.For tg iter body [] pos) (tS F W fun ρ S => (fw ρ S).res ρ fun w S1 => forL (forB t fs) w w.xs ρ S1) := by
  refine ps_of fun σ H D μ ρ S z c w => ⟨_, ps_for hp ok.calm hi hg hb (folded_no hs), ?_⟩
  refine fun z' => ⟨μ, ρ, S, c, ?_⟩
  cases q : fw ρ S with
  | stuck => rw [q] at w; exact w
  | exn k x S1 => rw [q] at w; exact fun μ' H' cls dd t r => w μ' H' σ cls dd t (c.env.mono t.st) r
  | ok wk S1 =>
    rw [q] at w
    simp only [Out.res_ok] at w
    intro μ1 H1 J t1 hok hlen hit
    refine ⟨fun i m σ H => m = wk.xs.length - i ∧ i ≤ wk.xs.length ∧ ∃ μ ρ S, Step μ1 H1 μ H ∧ Cfg F μ ρ S σ H ∧ WishS F W μ H (forL (forB t fs) wk (wk.xs.drop i) ρ S) (zE D), ⟨wk.xs.length, by simp, Nat.zero_le _, μ1, ρ, S1, Step.refl, c.to t1, (WishS.after t1 w).z⟩, ?_⟩
    rintro i m σ H ⟨rfl, hil, μ, ρ, S, st, c, w⟩
    have itr : ItR F μ1 H1 J wk := hit.1
    by_cases hlt : i < wk.xs.length
    · right
      have ed : wk.xs.drop i = wk.xs[i] :: wk.xs.drop (i + 1) := List.drop_eq_getElem_cons hlt
      rw [ed] at w
      unfold forL at w
      have hk : wk.ok S := Classical.byContradiction fun q => by rw [if_neg q] at w; exact w
      rw [if_pos hk] at w
      obtain ⟨hgo, hyl⟩ := itr.go i wk.xs[i] μ S H (List.getElem?_eq_getElem hlt) st c.sim hk
      refine ⟨hgo, fun σ H => i + 1 ≤ wk.xs.length ∧ ∃ μ ρ S, Step μ1 H1 μ H ∧ Cfg F μ ρ S σ H ∧ WishS F W μ H (forL (forB t fs) wk (wk.xs.drop (i + 1)) ρ S) (zE D), fun σ' H' q => ⟨wk.xs.length - (i + 1), by omega, rfl, q⟩, fun x H' y => ?_⟩
      obtain ⟨st3, sim3, rx⟩ := hyl x H' y
      unfold forB at w
      cases ep : t.put wk.xs[i] ρ with
      | none => simp only [ep] at w; exact w.elim
      | some ρ' =>
        simp only [ep] at w
        refine gT_ok ok.hK rx (c.env.mono st3) ep fun σ2 env2 _ => ?_
        intro z2
        have to3 : To F μ H S μ H' := ⟨z2, st3, sim3⟩
        refine ⟨μ, ρ', S, ⟨sim3, env2⟩, ?_⟩
        cases qb : fs ρ' S with
        | nx ρ2 S2 =>
          rw [qb] at w
          exact fun μ' H2 σ' t2 e => ⟨hlt, μ', ρ2, S2, (st.trans st3 c.sim.nd).trans t2.st t2.sim.nd, ⟨t2.sim, e⟩, WishS.after t2 (WishS.after to3 w)⟩
        | ct ρ2 S2 =>
          rw [qb] at w
          exact fun μ' H2 σ' t2 e => ⟨hlt, μ', ρ2, S2, (st.trans st3 c.sim.nd).trans t2.st t2.sim.nd, ⟨t2.sim, e⟩, WishS.after t2 (WishS.after to3 w)⟩
        | bk ρ2 S2 => rw [qb] at w; exact WishS.after to3 w
        | rt d S2 => rw [qb] at w; exact WishS.after to3 w
        | ex k x ρ2 S2 => rw [qb] at w; exact WishS.after to3 w
        | stuck => rw [qb] at w; exact w
    · left
      have ei : i = wk.xs.length := by omega
      subst ei
      rw [List.drop_length] at w
      unfold forL at w
      have hk : wk.ok S := Classical.byContradiction fun q => by rw [if_neg q] at w; exact w
      rw [if_pos hk] at w
      exact ⟨itr.stop μ S H st c.sim hk, fun zH => w μ H σ ⟨zH, Step.refl, c.sim⟩ c.env zH⟩
end
end Pf
end

section 
set_option Elab.async false
set_option linter.all false
set_option maxRecDepth 100000
set_option maxHeartbeats 1000000
/-! PfV: comprehensions as values and in a name; stores at a place. -/
namespace Pf
open PySem PySem.Spec PyProof.Rows L2

noncomputable def compS (fw : SemE Wk) (tg : Tgt) (fc : SemE Bool) (fe : SemE D) : SemE D := fun ρ S => (fw ρ S).bind fun w S1 => (compL (compB tg fc fe ρ) w w.xs S1).bind fun ds S2 => .ok (.lst ds) S2
section
variable {X : Cx} {F : Fx} {W : WX} {st : Stmt} {sts body : List Stmt} {a b c e o tg iter elt : Expr} {ifs : List Expr} {scope : Scope} {own : List (Str × Nat)} {f g h fe : SemE D} {fs gs : SemS} {fw : SemE Wk} {fc : SemE Bool} {pos p spos : Pos} {t : Tgt}
theorem pts_none : PTs X [] (tT F W fun _ S => .ok true S) := by
  refine ⟨fun pins s σ H Q I hq => ?_⟩
  obtain ⟨μ, ρ, S, c, w⟩ := hq (sz_of I.hok)
  exact pts_nil.run pins s σ H Q I (w μ H true ⟨sz_of I.hok, Step.refl, c.sim⟩ rfl)
/-- the walk's iterator behind a comprehension's iterable, and the list filled -/
theorem comp_tLc (hK : X.K = F.K) {σ : St} {H : Hp} {μ : Mu} {ρ : Env} {S : Sto} {Q : VK} (c : Cfg F μ ρ S σ H) (w : WishN F W σ μ H (compS fw t fc fe ρ S) Q) :
    tLc (tI F W fw) (gT X.K t) (tT F noW fc) (tE F noW fe) t.own σ H fun v H' => Sz H' → Q v H' := by
  refine fun z => ⟨μ, ρ, S, c, ?_⟩
  unfold compS at w
  cases q : fw ρ S with
  | stuck => rw [q] at w; exact w
  | exn k x S1 => rw [q] at w; exact w
  | ok wk S1 =>
    rw [q] at w
    simp only [Out.ok_bind] at w
    intro μ1 H1 J t1 hok hlen hit
    refine comp_read hK hlen t1.sim (c.env.mono t1.st) hit (Q := Q) (W := W) ?_
    cases q2 : (compL (compB t fc fe ρ) wk wk.xs S1).bind (fun ds S2 => Out.ok (D.lst ds) S2) with
    | stuck => rw [q2] at w; exact w
    | exn k x S2 => rw [q2] at w; exact fun μ2 H2 cls dd t2 r2 => w μ2 H2 cls dd (t1.trans t2) r2
    | ok d S2 => rw [q2] at w; exact ⟨w.1, fun μ2 H2 p ho z1 st sim np n => w.2 μ2 H2 p ho z1 (t1.st.trans st sim.nd) sim np n⟩
theorem snd_comp (ok : OkC X F) (hN : X.N.Nodup) (hi : PI X tg iter (tI F W fw)) (bo : BlkOk X.N X.env.scope scope own) (ho : own.map (·.2) = t.own)
    (hg : ∀ (s : Shared) (H : Hp) (C : Addr) (cl : List (Str × Addr)) (fp : List Addr), PG (X.blk s H scope (compEnvC scope cl C X.env) fp) tg (gT X.K t))
    (ht : ∀ (s : Shared) (H : Hp) (C : Addr) (cl : List (Str × Addr)) (fp : List Addr), PTs (X.blk s H scope (compEnvC scope cl C X.env) fp) ifs (tT F noW fc))
    (he : ∀ (s : Shared) (H : Hp) (C : Addr) (cl : List (Str × Addr)) (fp : List Addr), PE (X.blk s H scope (compEnvC scope cl C X.env) fp) elt (tE F noW fe)) (hs : ∀ es k p, iter ≠ .Set es k p) :
    PE X (.ListComp elt [⟨tg, iter, ifs, 0⟩] scope pos) (tN F W (compS fw t fc fe)) := by
  refine pn_of fun σ H Q μ ρ S z c w => ⟨_, pe_lc ok.calm hN hi bo hg ht he (folded_no hs), ?_⟩
  rw [ho]
  exact comp_tLc ok.hK c w
theorem compS_new : ∀ ρ S d S', compS fw t fc fe ρ S = .ok d S' → isNew d = true := by
  intro ρ S d S' h
  unfold compS at h
  cases q : fw ρ S with
  | stuck => rw [q] at h; cases h
  | exn k x S1 => rw [q] at h; cases h
  | ok wk S1 =>
    rw [q] at h
    simp only [Out.ok_bind] at h
    cases q2 : compL (compB t fc fe ρ) wk wk.xs S1 with
    | stuck => rw [q2] at h; cases h
    | exn k x S2 => rw [q2] at h; cases h
    | ok ds S2 => rw [q2] at h; cases h; rfl
/-- name = [..], the list as it is -/
theorem sndS_setLc (ok : OkC X F) {i : Nat} {y : Str} {py : Pos} (hN : X.N.Nodup) (hy : X.N[i]? = some y) (hyl : X.env.scope.names.lookup y = some .local) (hsw : swapsWith (.ListComp elt [⟨tg, iter, ifs, 0⟩] scope pos) (some (.Name y py)) spos.line X.env = pure true)
    (hi : PI X tg iter (tI F W fw)) (bo : BlkOk X.N X.env.scope scope own) (ho : own.map (·.2) = t.own)
    (hg : ∀ (s : Shared) (H : Hp) (C : Addr) (cl : List (Str × Addr)) (fp : List Addr), PG (X.blk s H scope (compEnvC scope cl C X.env) fp) tg (gT X.K t))
    (ht : ∀ (s : Shared) (H : Hp) (C : Addr) (cl : List (Str × Addr)) (fp : List Addr), PTs (X.blk s H scope (compEnvC scope cl C X.env) fp) ifs (tT F noW fc))
    (he : ∀ (s : Shared) (H : Hp) (C : Addr) (cl : List (Str × Addr)) (fp : List Addr), PE (X.blk s H scope (compEnvC scope cl C X.env) fp) elt (tE F noW fe)) (hs : ∀ es k p, iter ≠ .Set es k p) :
    PS X (.Assign [.Name y py] (.ListComp elt [⟨tg, iter, ifs, 0⟩] scope pos) spos) (tS F W fun ρ S => (compS fw t fc fe ρ S).res ρ fun d S1 => .nx (ρ.set i (some d)) S1) := by
  refine ps_of fun σ H D μ ρ S z c w => ⟨_, ps_setLc ok.calm hN hy hyl hsw hi bo hg ht he (folded_no hs), ?_⟩
  rw [ho]
  refine comp_tLc (Q := fun v H' => D.nx (σ.set i (some v)) H') ok.hK c ?_
  cases q : compS fw t fc fe ρ S with
  | stuck => rw [q] at w; exact w
  | exn k x S1 => rw [q] at w; exact fun μ' H' cls dd t r => w μ' H' σ cls dd t (c.env.mono t.st) r
  | ok d S1 =>
    rw [q] at w
    refine ⟨compS_new ρ S d S1 q, fun μ' H1 p ho z1 st sim np n => ?_⟩
    have to : To F μ H S1 μ' (upd H1 p ho) := ⟨z1, st.trans (Step.alloc np) sim.nd, sim.alloc np⟩
    exact w μ' _ _ to ((c.env.mono to.st).set (new_rel sim np n))
/-- name = [..], the list as a name of the store -/
theorem sndS_setLcM (ok : OkC X F) {i : Nat} {y : Str} {py : Pos} (hN : X.N.Nodup) (hy : X.N[i]? = some y) (hyl : X.env.scope.names.lookup y = some .local) (hsw : swapsWith (.ListComp elt [⟨tg, iter, ifs, 0⟩] scope pos) (some (.Name y py)) spos.line X.env = pure true)
    (hi : PI X tg iter (tI F W fw)) (bo : BlkOk X.N X.env.scope scope own) (ho : own.map (·.2) = t.own)
    (hg : ∀ (s : Shared) (H : Hp) (C : Addr) (cl : List (Str × Addr)) (fp : List Addr), PG (X.blk s H scope (compEnvC scope cl C X.env) fp) tg (gT X.K t))
    (ht : ∀ (s : Shared) (H : Hp) (C : Addr) (cl : List (Str × Addr)) (fp : List Addr), PTs (X.blk s H scope (compEnvC scope cl C X.env) fp) ifs (tT F noW fc))
    (he : ∀ (s : Shared) (H : Hp) (C : Addr) (cl : List (Str × Addr)) (fp : List Addr), PE (X.blk s H scope (compEnvC scope cl C X.env) fp) elt (tE F noW fe)) (hs : ∀ es k p, iter ≠ .Set es k p) :
    PS X (.Assign [.Name y py] (.ListComp elt [⟨tg, iter, ifs, 0⟩] scope pos) spos) (tS F W fun ρ S => (mutS (compS fw t fc fe) ρ S).res ρ fun d S1 => .nx (ρ.set i (some d)) S1) := by
  refine ps_of fun σ H D μ ρ S z c w => ⟨_, ps_setLc ok.calm hN hy hyl hsw hi bo hg ht he (folded_no hs), ?_⟩
  rw [ho]
  refine comp_tLc (Q := fun v H' => D.nx (σ.set i (some v)) H') ok.hK c ?_
  unfold mutS at w
  cases q : compS fw t fc fe ρ S with
  | stuck => rw [q] at w; exact w
  | exn k x S1 => rw [q] at w; exact fun μ' H' cls dd t r => w μ' H' σ cls dd t (c.env.mono t.st) r
  | ok d S1 =>
    have hn := compS_new ρ S d S1 q
    rw [q] at w
    refine ⟨hn, fun μ' H1 p ho z1 st sim np n => ?_⟩
    cases d with
    | lst ds =>
      cases ho with
      | lst xs =>
        have hs : F.Sim (μ'.push p) (S1 ++ [.lst ds]) (upd H1 p (.lst xs)) := sim.push np ⟨xs, upd_same, RelL.mono (Step.push np) n⟩
        have to : To F μ H (S1 ++ [.lst ds]) (μ'.push p) (upd H1 p (.lst xs)) := ⟨z1, st.trans (Step.push np) hs.nd, hs⟩
        refine w (μ'.push p) _ _ to ((c.env.mono to.st).set (.ref ?_))
        show (_ ++ [_])[_]? = _
        rw [← sim.len, List.getElem?_append_right (Nat.le_refl _)]
        simp
      | _ => exact n.elim
    | dic t ks vs =>
      unfold compS at q
      cases q1 : fw ρ S with
      | stuck => rw [q1] at q; cases q
      | exn k x S1 => rw [q1] at q; cases q
      | ok wk S1 =>
        rw [q1] at q
        simp only [Out.ok_bind] at q
        cases q2 : compL (compB ‹Tgt› fc fe ρ) wk wk.xs S1 with
        | stuck => rw [q2] at q; cases q
        | exn k x S2 => rw [q2] at q; cases q
        | ok ds S2 => rw [q2] at q; cases q
    | _ => cases hn
/-! ### o[k] = v -/
def noSlE : Expr → Bool
  | .Slice _ _ _ _ => false
  | _ => true
theorem sub_store {v : Value} (h : noSlE b = true) : assign (.Subscript a b pos) X.env v = (do
      let ov ← holding [v] (eval a X.env)
      let iv ← holding [v, ov] (eval b X.env)
      standAt pos
      holding [v, ov, iv] (setItem ov iv v)
      release [v, ov, iv] []) := by
  cases b <;> first
    | rfl
    | cases h
end
end Pf
end

section 
set_option Elab.async false
set_option linter.all false
set_option maxRecDepth 100000
set_option maxHeartbeats 1000000
/-! PfW: stores at a place. -/
namespace Pf
open PySem PySem.Spec PyProof.Rows L2

section
variable {X : Cx} {F : Fx} {W : WX} {a b c e o k a' b' e' : Expr} {f g h f' g' h' : SemE D} {pos p pos' : Pos}
theorem swaps_soleT {t : Expr} {l : Nat} {env : PySem.Env} (h : noLcT e = true) : swapsWithSole [t] e l env = pure false := by
  cases e <;> first
    | rfl
    | cases h
theorem stores_sub {env : PySem.Env} : swappedStores [.Subscript a b pos] e env = pure none := by
  cases e <;> rfl
theorem stores_subs {env : PySem.Env} {kt k2 : Nat} {p1 p2 p3 p4 : Pos} : swappedStores [.Tuple [.Subscript a b p1, .Subscript a' b' p2] kt p3] (.Tuple [e, e'] k2 p4) env = pure none := by
  unfold swappedStores
  simp only [List.length_cons, List.length_nil, List.filterMap_cons, List.filterMap_nil]
  split
  · rfl
  · split
    · rfl
    · rfl
/-- a store by the own rule, at a list of the store -/
theorem put_list {μ : Mu} {S S' : Sto} {H : Hp} {dx dy dv : D} {x y v : V} {i : Nat} {xs : List D} {Q : Hp → Prop} (sim : F.Sim μ S H) (e : dx = .ref i) (hi : S[i]? = some (.lst xs)) (r1 : F.Rel μ H dx x) (r2 : F.Rel μ H dy y) (r3 : F.Rel μ H dv v) (hp : putOp S dx dy dv = some S')
    (q : ∀ H', Step μ H μ H' → F.Sim μ S' H' → Q H') : rSetL x y v H Q := by
  subst e
  obtain ⟨pp, vs, rfl, hμ, hp', rl⟩ := ref_lst sim r1 hi
  unfold putOp at hp
  simp only [hi] at hp
  cases dy <;> simp only [reduceCtorEq] at hp
  rename_i j
  obtain ⟨n, e1, rfl⟩ := Option.map_eq_some_iff.mp hp
  cases r2
  rw [ixOf_eq, rl.length] at e1
  refine ⟨pp, vs, j, n, rfl, rfl, hp', e1, q _ (Step.write (List.mem_of_getElem? hμ)) ?_⟩
  have hs : Step μ H μ (upd H pp (.lst (vs.set n v))) := Step.write (List.mem_of_getElem? hμ)
  exact sim.put hμ ⟨_, upd_same, (rl.set r3 n).mono hs⟩
theorem put_dict {μ : Mu} {S S' : Sto} {H : Hp} {dx dy dv : D} {x y v : V} {i : Nat} {t : Bool} {ks vs : List D} (sim : F.Sim μ S H) (e : dx = .ref i) (hi : S[i]? = some (.dic t ks vs)) (r1 : F.Rel μ H dx x) (r2 : F.Rel μ H dy y) (r3 : F.Rel μ H dv v) (hp : putOp S dx dy dv = some S') :
    ∃ a H4, x = .ref a ∧ DPut H a y v H4 ∧ Step μ H μ H4 ∧ F.Sim μ S' H4 := by
  subst e
  unfold putOp at hp
  simp only [hi, Option.ite_none_right_eq_some, Bool.and_eq_true, decide_eq_true_eq, Option.some.injEq] at hp
  obtain ⟨⟨hk, hl⟩, rfl⟩ := hp
  cases r1 with
  | ref h =>
    obtain ⟨a', h', ob⟩ := sim.at hi
    rw [h] at h'; cases h'
    cases t with
    | false =>
      obtain ⟨kvs, h1, rfl, rl⟩ := ob
      obtain ⟨key, rfl, rfl⟩ := key0_rel hk r2
      have hl2 : kvs.length < sizeLine := by rw [List.length_map] at hl; rw [sizeLine_eq]; omega
      have hs : ∀ ho, Step μ H μ (upd H _ ho) := fun ho => Step.write (List.mem_of_getElem? h)
      obtain ⟨e1, e2⟩ := keyPut_rel kD_inj key r3 rl
      exact ⟨_, _, rfl, DPut.k h1 hl2, hs _, sim.put h ⟨_, upd_same, e1, e2.mono (hs _)⟩⟩
    | true =>
      obtain ⟨kvs, h1, rfl, rl⟩ := ob
      obtain ⟨key, bb, rfl, rfl, eb⟩ := keyT_rel hk r2
      have hl2 : kvs.length < sizeLine := by rw [List.length_map] at hl; rw [sizeLine_eq]; omega
      have hs : ∀ ho, Step μ H μ (upd H _ ho) := fun ho => Step.write (List.mem_of_getElem? h)
      obtain ⟨e1, e2⟩ := keyPut_rel (enc := kT) kT_inj key r3 rl
      exact ⟨_, _, rfl, DPut.t h1 eb hl2, hs _, sim.put h ⟨_, upd_same, e1, e2.mono (hs _)⟩⟩
theorem put_lst_of {S S' : Sto} {x y v : D} (q : putOp S x y v = some S') (hd : ∀ i t ks vs, x = .ref i → S[i]? ≠ some (.dic t ks vs)) : ∃ i xs, x = .ref i ∧ S[i]? = some (.lst xs) := by
  cases x with
  | ref i =>
    cases hi : S[i]? with
    | none => unfold putOp at q; simp [hi] at q
    | some ob =>
      cases ob with
      | lst xs => exact ⟨i, xs, rfl, hi⟩
      | dic t ks vs => exact (hd i t ks vs rfl hi).elim
      | ins c fs => unfold putOp at q; simp [hi] at q
  | _ => simp [putOp] at q
theorem sndS_asgSub (ok : Ok X F) (hn : noLcT e = true) (hb : noSlE b = true) (he : PE X e (tE F W f)) (ha : PE X a (tE F W g)) (hk : PE X b (tE F W h)) :
    PS X (.Assign [.Subscript a b pos'] e pos) (tS F W fun ρ S => (f ρ S).res ρ fun v S1 => (g ρ S1).res ρ fun x S2 => (h ρ S2).res ρ fun y S3 => match putOp S3 x y v with
    | some S4 => .nx ρ S4
    | none => .stuck) := by
  refine ps_of fun σ H D μ ρ S z c w => ?_
  have L : PS X (.Assign [.Subscript a b pos'] e pos) (tAsg (tE F W f) (gSub (tE F W g) (tE F W h) rSetL)) := ps_asg he (pg_sub ha hk set_list fun v => sub_store hb) (swaps_soleT hn) stores_sub rfl
  by_cases hd : ∃ v S1 x S2 y S3 i t ks vs, f ρ S = .ok v S1 ∧ g ρ S1 = .ok x S2 ∧ h ρ S2 = .ok y S3 ∧ x = .ref i ∧ S3[i]? = some (.dic t ks vs)
  · obtain ⟨v, S1, x, S2, y, S3, i, t, ks, vs, e1, e2, e3, e4, e5⟩ := hd
    refine ⟨_, ps_dput (by have := ok.hu; omega) ha hk he (swaps_noT hn), ?_⟩
    simp only [e1, e2, e3, Out.res_ok] at w
    refine tG.of c ?_
    rw [e1]
    intro μ1 H1 uv t1 r1
    refine tG.of (c.to t1) ?_
    rw [e2]
    intro μ2 H2 ux t2 r2
    refine tG.of ((c.to t1).to t2) ?_
    rw [e3]
    intro μ3 H3 uy t3 r3
    cases q : putOp S3 x y v with
    | none => rw [q] at w; exact w.elim
    | some S4 =>
      rw [q] at w
      obtain ⟨aa, H4, ea, dp, st, sm⟩ := put_dict t3.sim e4 e5 (r2.mono t3.st) r3 ((r1.mono t2.st).mono t3.st) q
      have to := ((t1.trans t2).trans t3)
      exact ⟨aa, H4, ea, dp, fun z4 => w μ3 H4 σ (to.trans ⟨z4, st, sm⟩) (c.env.mono (to.st.trans st sm.nd))⟩
  · refine ⟨_, L, ?_⟩
    refine tG.of c ?_
    cases e1 : f ρ S with
    | stuck => rw [e1] at w; exact w
    | exn k x S1 => rw [e1] at w; exact fun μ' H' cls dd t r => w μ' H' σ cls dd t (c.env.mono t.st) r
    | ok v S1 =>
      rw [e1, Out.res_ok] at w
      intro μ1 H1 uv t1 r1
      refine tG.of (c.to t1) ?_
      have w := WishS.after t1 w
      cases e2 : g ρ S1 with
      | stuck => rw [e2] at w; exact w
      | exn k x S2 => rw [e2] at w; exact fun μ' H' cls dd t r => w μ' H' σ cls dd t ((c.to t1).env.mono t.st) r
      | ok x S2 =>
        rw [e2, Out.res_ok] at w
        intro μ2 H2 ux t2 r2
        refine tG.of ((c.to t1).to t2) ?_
        have w := WishS.after t2 w
        cases e3 : h ρ S2 with
        | stuck => rw [e3] at w; exact w
        | exn k x S2 => rw [e3] at w; exact fun μ' H' cls dd t r => w μ' H' σ cls dd t (((c.to t1).to t2).env.mono t.st) r
        | ok y S3 =>
          rw [e3, Out.res_ok] at w
          intro μ3 H3 uy t3 r3
          have w3 := WishS.after t3 w
          have hd' : ∀ i t ks vs, x = .ref i → S3[i]? ≠ some (.dic t ks vs) := fun i t ks vs ex hi => hd ⟨v, S1, x, S2, y, S3, i, t, ks, vs, e1, e2, e3, ex, hi⟩
          cases q : putOp S3 x y v with
          | none => rw [q] at w3; exact w3.elim
          | some S4 =>
            rw [q] at w3
            have fin := put_lst_of q hd'
            obtain ⟨i, xs, ex, hi⟩ := fin
            exact put_list t3.sim ex hi (r2.mono t3.st) r3 ((r1.mono t2.st).mono t3.st) q fun H4 st sm z4 => w3 μ3 H4 σ ⟨z4, st, sm⟩ ((((c.to t1).to t2).to t3).env.mono st)
theorem put_listL {μ : Mu} {S S' : Sto} {H : Hp} {dx dy dv : D} {x y v : V} {Q : Hp → Prop} (sim : F.Sim μ S H) (r1 : F.Rel μ H dx x) (r2 : F.Rel μ H dy y) (r3 : F.Rel μ H dv v) (hp : putL S dx dy dv = some S')
    (q : ∀ H', Step μ H μ H' → F.Sim μ S' H' → Q H') : rSetL x y v H Q := by
  unfold putL at hp
  split at hp
  · rename_i i
    split at hp
    · rename_i xs j hi
      refine put_list (S' := S') sim rfl hi r1 r2 r3 ?_ q
      unfold putOp
      simp only [hi]
      exact hp
    · cases hp
  · cases hp
/-- two items of lists change places -/
theorem sndS_swp (ok : OkC X F) {kt k2 : Nat} {p1 p2 p3 p4 : Pos} (hs1 : notStar e = true) (hs2 : notStar e' = true) (hb : noSlE b = true) (hb' : noSlE b' = true) (he : PE X e (tE F W f)) (he' : PE X e' (tE F W f')) (ha : PE X a (tE F W g)) (hk : PE X b (tE F W h)) (ha' : PE X a' (tE F W g')) (hk' : PE X b' (tE F W h')) :
    PS X (.Assign [.Tuple [.Subscript a b p1, .Subscript a' b' p2] kt p3] (.Tuple [e, e'] k2 p4) pos) (tS F W fun ρ S => (f ρ S).res ρ fun v S1 => (f' ρ S1).res ρ fun v' S2 => (g ρ S2).res ρ fun x S3 => (h ρ S3).res ρ fun y S4 => match putL S4 x y v with
    | some S5 => (g' ρ S5).res ρ fun x' S6 => (h' ρ S6).res ρ fun y' S7 => match putL S7 x' y' v' with
      | some S8 => .nx ρ S8
      | none => .stuck
    | none => .stuck) := by
  have hA : PA X [e, e'] (tCons (tE F W f) (tCons (tE F W f') tNil)) := pa_cons he (pa_cons he' pa_nil (star_cons hs2)) (star_cons hs1)
  have hG : PG X (.Tuple [.Subscript a b p1, .Subscript a' b' p2] kt p3) (gTup X.K 2 (gCons (gSub (tE F W g) (tE F W h) rSetL) (gCons (gSub (tE F W g') (tE F W h') rSetL) gNil))) :=
    pg_tup ok.calm (pgs_cons (pg_sub ha hk set_list fun v => sub_store hb) (pgs_cons (pg_sub ha' hk' set_list fun v => sub_store hb') pgs_nil))
  refine ps_of fun σ H D μ ρ S z c w => ⟨_, ps_asg (pe_tup hA) hG rfl stores_subs rfl, ?_⟩
  refine tG.of c (WishS.res w c.env fun v S1 μ1 H1 uv t1 r1 w1 => ?_)
  refine tG.of (c.to t1) (WishS.res w1 (c.to t1).env fun v' S2 μ2 H2 uv' t2 r2 w2 => ?_)
  refine ⟨by rw [sizeLine_eq]; simp, fun T nT => ⟨T, _, rfl, .inl (.inl upd_same), rfl, _, _, rfl, ?_⟩⟩
  have c2 := (c.to t1).to t2
  intro zT
  have tT : To F μ2 H2 S2 μ2 (upd H2 T (.tup [uv, uv'])) := ⟨zT, Step.alloc nT, t2.sim.alloc nT⟩
  have r1' := (r1.mono t2.st).mono tT.st
  have r2' := r2.mono tT.st
  have cT := c2.to tT
  refine tG.of cT (WishS.res (WishS.after tT w2) cT.env fun x S3 μ3 H3 ux t3 r3 w3 => ?_) zT
  refine tG.of (cT.to t3) (WishS.res w3 (cT.to t3).env fun y S4 μ4 H4 uy t4 r4 w4 => ?_)
  have c4 := (cT.to t3).to t4
  cases q : putL S4 x y v with
  | none => rw [q] at w4; exact w4.elim
  | some S5 =>
    rw [q] at w4
    refine put_listL t4.sim (r3.mono t4.st) r4 ((r1'.mono t3.st).mono t4.st) q fun H5 st5 sim5 => ?_
    refine ⟨_, _, rfl, ?_⟩
    intro z5
    have t5 : To F μ4 H4 S5 μ4 H5 := ⟨z5, st5, sim5⟩
    have c5 := c4.to t5
    refine tG.of c5 (WishS.res (WishS.after t5 w4) c5.env fun x' S6 μ6 H6 ux' t6 r6 w6 => ?_) z5
    refine tG.of (c5.to t6) (WishS.res w6 (c5.to t6).env fun y' S7 μ7 H7 uy' t7 r7 w7 => ?_)
    have c7 := (c5.to t6).to t7
    cases q2 : putL S7 x' y' v' with
    | none => rw [q2] at w7; exact w7.elim
    | some S8 =>
      rw [q2] at w7
      refine put_listL t7.sim (r6.mono t7.st) r7 (((((r2'.mono t3.st).mono t4.st).mono t5.st).mono t6.st).mono t7.st) q2 fun H8 st8 sim8 => ?_
      exact ⟨rfl, fun z8 => w7 μ7 H8 σ ⟨z8, st8, sim8⟩ (c7.env.mono st8)⟩
end
end Pf
end

section 
set_option Elab.async false
set_option linter.all false
set_option maxRecDepth 100000
set_option maxHeartbeats 1000000
/-! PfX: repr; more built-in functions. -/
namespace Pf
open PySem PySem.Spec PyProof.Rows L2

theorem listText_le : ∀ ts : List Str, (listText ts).length ≤ piled ts + 2
  | [] => by decide +kernel
  | t :: r => by
    have h := textFrom_length_pos r 1 (("[" : Str) ++ (if (0 : Nat) > 0 then ", " else "" : String) ++ t) (Nat.succ_pos 0)
    unfold listText
    rw [strLen_append]
    show (textFrom 1 _ r).length + _ ≤ _
    rw [h, strLen_append, strLen_append, piled_cons]
    have e1 : ((("[" : String) : Str)).length = 1 := rfl
    have e2 : ((("]" : String) : Str)).length = 1 := rfl
    have e3 : (((if (0 : Nat) > 0 then ", " else "" : String) : Str)).length = 0 := rfl
    rw [e1, e2, e3]
    omega
mutual
theorem shown_len : ∀ (d : D) (n : Nat), d.plain n = true → d.wt ≤ 16000000 → (toPy d).showable = true ∧ (toPy d).shown.length ≤ d.wt
  | .non, _, _, _ => by
    simp only [toPy, PyData.showable, PyData.shown, D.wt]
    exact ⟨trivial, by decide +kernel⟩
  | .bl b, _, _, _ => by
    simp only [toPy, PyData.showable, PyData.shown, D.wt]
    exact ⟨trivial, by cases b <;> decide +kernel⟩
  | .int i, _, _, h => by
    simp only [toPy, PyData.showable, PyData.shown, D.wt] at h ⊢
    by_cases q : i.natAbs.log2 < 1900
    · rw [if_pos q]
      refine ⟨decide_eq_true (by omega), ?_⟩
      have := int_text_length_le (a := i) (k := 1900) (by decide) q
      show (Str.ofString (toString i)).length ≤ 1950
      rw [PySem.ofString_length]
      omega
    · rw [if_neg q] at h; omega
  | .str z, n, hp, h => by
    simp only [toPy, PyData.showable, PyData.shown, D.wt] at h ⊢
    refine ⟨trivial, ?_⟩
    have hz : ∀ c ∈ z, c < 1114112 := by
      cases n with
      | zero => simp [D.plain] at hp
      | succ n => simpa [D.plain] using hp
    have := StrLaws.reprText_len (toS z) (fun c hc => by
      have := hz c (by simpa using hc)
      have e : (16 : Nat) ^ 8 = 4294967296 := by decide
      omega)
    have e : (toS z).length = z.length := by simp [Str.length]
    rw [e] at this
    omega
  | .tup xs, n, hp, h => by
    simp only [toPy, PyData.showable, PyData.shown, D.wt] at h ⊢
    cases n with
    | zero => simp [D.plain] at hp
    | succ n =>
      simp only [D.plain] at hp
      obtain ⟨h1, h2⟩ := shown_lenL xs n hp (by omega)
      have := fmt_text (PyData.shownAll (toPyL xs))
      exact ⟨h1, by omega⟩
  | .lst xs, n, hp, h => by
    simp only [toPy, PyData.showable, PyData.shown, D.wt] at h ⊢
    cases n with
    | zero => simp [D.plain] at hp
    | succ n =>
      simp only [D.plain] at hp
      obtain ⟨h1, h2⟩ := shown_lenL xs n hp (by omega)
      have := listText_le (PyData.shownAll (toPyL xs))
      exact ⟨h1, by omega⟩
  | .dic _ _ _, n, hp, _ => by cases n <;> simp [D.plain] at hp
  | .ref _, n, hp, _ => by cases n <;> simp [D.plain] at hp
  | .scr _, n, hp, _ => by cases n <;> simp [D.plain] at hp
  | .exc _ _, n, hp, _ => by cases n <;> simp [D.plain] at hp
theorem shown_lenL : ∀ (xs : List D) (n : Nat), xs.all (D.plain n) = true → D.wtL xs ≤ 16000000 → PyData.showableAll (toPyL xs) = true ∧ piled (PyData.shownAll (toPyL xs)) ≤ D.wtL xs
  | [], _, _, _ => by simp [toPyL, PyData.showableAll, PyData.shownAll, piled, D.wtL]
  | x :: xs, n, hp, h => by
    simp only [toPyL, PyData.showableAll, PyData.shownAll, D.wtL, List.all_cons, Bool.and_eq_true, piled_cons] at hp h ⊢
    obtain ⟨h1, h2⟩ := shown_len x n hp.1 (by omega)
    obtain ⟨h3, h4⟩ := shown_lenL xs n hp.2 (by omega)
    exact ⟨⟨h1, h3⟩, by omega⟩
end
section
variable {X : Cx} {F : Fx}
theorem call_reprD (hg : X.A.guards = some []) (hu : X.A.units + 200 < cLine) : CallR X (.builtin "repr") (fun xs H Q => ∃ v d, xs = [v] ∧ Dp X.K H v d ∧ d.showable = true ∧ d.hasDict = false ∧ d.depth ≤ 100 ∧ d.shown.length ≤ sizeLine ∧ Q (.str d.shown) H) := by
  intro pins s σ H xs us Q I r h
  obtain ⟨v, d, rfl, dp, hs, hd, hdp, hz, q⟩ := h
  cases r with
  | cons r rr =>
    cases rr
    rename_i u
    obtain ⟨as, rd⟩ := Dp.reads I d v u dp r
    cases rd with
    | none =>
      refine PySem.P.repr_of_none ?_
      exact ⟨.str _, H, I.tok _, ⟨_, rfl⟩, by simpa [PyData.shown] using q⟩
    | bool b =>
      refine PySem.P.repr_of_bool ?_
      exact ⟨.str _, H, I.tok _, ⟨_, rfl⟩, by simpa [PyData.shown] using q⟩
    | int i t =>
      refine PySem.P.repr_of_int (by simpa [PyData.showable] using hs) ?_
      exact ⟨.str _, H, I.tok _, ⟨_, rfl⟩, by simpa [PyData.shown] using q⟩
    | str x t =>
      refine PySem.P.repr_of_str ?_ (by simpa [PyData.shown] using hz)
      exact ⟨.str _, H, I.tok _, ⟨_, rfl⟩, by simpa [PyData.shown] using q⟩
    | list h1 h2 h3 h4 =>
      refine repr_of_reads' (.list h1 h2 h3 h4) hs (PyData.noDict_hsm hd) hg (by omega) (fun _ _ e => e) (fun h' t tk hk => ?_) hz
      exact ⟨.str _, H, I.kept (t' := tk) hk, ⟨_, rfl⟩, q⟩
    | tuple h1 h2 h3 h4 =>
      refine repr_of_reads' (.tuple h1 h2 h3 h4) hs (PyData.noDict_hsm hd) hg (by omega) (fun _ _ e => e) (fun h' t tk hk => ?_) hz
      exact ⟨.str _, H, I.kept (t' := tk) hk, ⟨_, rfl⟩, q⟩
    | dict h1 h2 h3 h4 h5 => simp [PyData.hasDict] at hd
theorem c_repr (ok : Ok X F) : CallR X (.builtin "repr") (rC F fun S ds => biOp S .repr ds) := by
  refine callr_of fun xs H Q μ S ds d z sim r e w => ?_
  unfold biOp at e
  split at e <;> try contradiction
  rename_i d0 _
  simp only [reprOk, Option.ite_none_right_eq_some, Bool.and_eq_true, decide_eq_true_eq, Option.some.injEq] at e
  obtain ⟨⟨hp, hw⟩, rfl⟩ := e
  obtain ⟨x, rfl, rx⟩ := RelL.one r
  obtain ⟨h1, h2⟩ := shown_len _ _ hp hw
  obtain ⟨h3, h4⟩ := plain_py hp
  refine ⟨_, call_reprD ok.gd ok.hu, x, _, rfl, by rw [ok.hK]; exact dres_dp sim rx hp, h1, PyData.hasDict_of_canLay _ h3, by omega, by rw [sizeLine_eq]; omega, ?_⟩
  have e : (toPy (dres S d0)).shown = toS (shownD (dres S d0)) := by simp [shownD]
  rw [e]
  exact Then.same w sim (.str _)
end
end Pf
end

section 
set_option Elab.async false
set_option linter.all false
set_option maxRecDepth 100000
set_option maxHeartbeats 4000000
/-! PfXa: a set out of a list of whole numbers. -/
namespace Pf
open PySem PySem.Spec PyProof.Rows L2
def eObj (w : World) : Obj := { cls := .type "set", dict := none, data := .set #[] 0 (.fresh 0 0 (!w.params.followText "set-order")) }
section
variable {P : Program} {w : World} {A : Around} {E : Value → Shared → Prop} {s : Shared}
def Done (w : World) (ns : List Int) (s t : Shared) : Prop := ∃ (g : Heap) (tk c : Nat), t = { s with heap := g, toks := tk } ∧ SetR w g s.heap.objs.size (fun j => decide (j ∈ ns)) c ∧ c ≤ ns.length ∧ ∀ b o, s.heap.get? b = some o → g.get? b = some o
theorem set_of_ints {l : Addr} {us : Array Value} (ns : List Int) {Q : Value → Shared → Prop} (hh : A.handled = none) (hl : s.heap.IsList l us) (hu : IntsAre us.toList ns) (hb : ns.length + 1 < scanBound)
    (q : ∀ (g : Heap) (tk c : Nat), SetR w g s.heap.objs.size (fun j => decide (j ∈ ns)) c → c ≤ ns.length → (∀ b o, s.heap.get? b = some o → g.get? b = some o) → Q (.ref s.heap.objs.size) { s with heap := g, toks := tk }) :
    wpAny (model P w) A (call (.type "set") [.ref l]) Q E s := by
  have len : us.size = ns.length := by rw [← Array.length_toList]; exact IntsAre.length hu
  obtain ⟨_, _, mro⟩ := F.called_set.mro
  have made := F.called_set.made
  have sub := F.called_set.sub
  refine wpAny_call (codeAny_of_tree (wpAny_pure ⟨Code.quiet_builtin _ (by decide +kernel), codeAny_builtin F.entry_type_call ?_⟩))
  rw [Around.under_plain (weight_type_call_type "set" [.ref l] []) rfl]
  have nt := F.called_set.notType
  have cc := F.called_set.canCreate
  have ct := F.typeCall_set_1 (.ref l)
  repeat (any_goals (first | assumption | wp_step))
  refine codeAny_mono (code_set_led1 (.ref l) (E := E) (Q₁ := fun v t => v = .ref s.heap.objs.size ∧ t = { s with heap := s.heap.push (eObj w) }) ⟨rfl, rfl⟩) fun r t ht => ?_
  match r, ht with
  | .error _, ht => exact ht
  | .ok (.ret v), ht =>
    obtain ⟨rfl, rfl⟩ := ht
    have at0 : (s.heap.push (eObj w)).get? s.heap.objs.size = some (eObj w) := Heap.get?_push_size _ rfl
    have isS : Shared.TypeIs { s with heap := s.heap.push (eObj w) } (.ref s.heap.objs.size) "set" := ⟨_, at0, rfl⟩
    have il := F.called_set.init.lookup
    have ib := F.called_set.init.bind (.ref s.heap.objs.size)
    repeat (any_goals (first | assumption | wp_step))
    refine codeAny_mono (codeAny_call_builtin (R := wants (fun r t => r = .none ∧ Done w ns s t) E) F.called_set.init.plain F.entry_set_init (check_set_init_1 isS ?_)) fun r2 t2 h2 => ?_
    · obtain ⟨⟨c0, d0, a0, z0⟩, ho, hc, m, hd⟩ := hl
      simp only at hc hd
      subst hc
      subst hd
      have lt : l < s.heap.objs.size := Heap.lt_size ho
      have sz : (s.heap.push (eObj w)).objs.size = s.heap.objs.size + 1 := Heap.size_push ..
      have nS := F.sub_list_set
      have nF := F.sub_list_frozenset
      have nD : (Value.type "list" == Value.type "dict") = false := by decide
      have ho1 : (s.heap.push (eObj w)).get? l = some { cls := .type "list", dict := d0, data := .seq us m, slots := z0 } := Heap.get?_push_of_some _ ho
      have isL : (s.heap.push (eObj w)).IsList l us := ⟨_, ho1, rfl, m, rfl⟩
      unfold Builtin.«set.__init__» noKeywords Builtin.Frozenset.updateFrom
      generalize hp : pyIter = pI
      wp_walk
      subst hp
      refine wpAny_pyIter_list isL (wpAny_bind (wpAny_runValue ?_))
      have h3 : A.in1.in1.in1.handled = none := by simp [hh]
      have l1 : l ≠ (s.heap.push (eObj w)).objs.size := by rw [sz]; exact Nat.ne_of_lt (Nat.lt_succ_of_lt lt)
      have f1 : s.heap.objs.size ∉ [(s.heap.push (eObj w)).objs.size, l] := by
        rw [sz]
        simp only [List.mem_cons, List.not_mem_nil, or_false]
        exact fun h => h.elim (fun e => Nat.ne_of_lt (Nat.lt_succ_self _) e) fun e => Nat.ne_of_gt lt e
      have vals : ∀ (i : Nat) (v : Value), us[i]? = some v → ∃ k t, ns[i]? = some k ∧ v = .int k t := by
        intro i v hv
        have hi : i < ns.length := by rw [← len]; exact (Array.getElem?_eq_some_iff.mp hv).1
        obtain ⟨t, e⟩ := IntsAre.int_at hu i v (by rw [Array.getElem?_toList]; exact hv)
        exact ⟨ns[i], t, List.getElem?_eq_getElem hi, by rw [e, List.getD_eq_getElem?_getD, List.getElem?_eq_getElem hi]; rfl⟩
      refine set_update_ints ((Walks.list h3 _ l l1 us).toS) s.heap.objs.size f1 ns len hb vals us.size 0 _ rfl (Nat.zero_le _) ⟨⟨_, Heap.get?_push_size _ rfl, rfl, rfl⟩, isL.push _⟩ ⟨0, Nat.le_refl 0, setR_new_at (Heap.get?_push_of_some _ at0)⟩ ?_
      rintro ⟨g, g2, d2, tk, os⟩ c mv lc R
      obtain rfl : g2 = s.gens := mv.gens
      obtain rfl : d2 = s.drawn := mv.drawn
      obtain rfl : os = s.os := mv.os
      refine wpAny_pure (wpAny_pure ⟨rfl, g, tk, c, rfl, R, by rw [← len]; exact lc, fun b o e => ?_⟩)
      have b0 : b < s.heap.objs.size := Heap.lt_size e
      refine mv.heap b o ?_ (Heap.get?_push_of_some _ (Heap.get?_push_of_some _ e))
      simp only [List.mem_cons, List.not_mem_nil, or_false]
      exact fun h => h.elim (fun e => Nat.ne_of_lt b0 e) fun e => Nat.ne_of_lt (Nat.lt_succ_of_lt b0) (e.trans sz)
    · match r2, h2 with
      | .error _, h2 => exact h2
      | .ok (.ret v), h2 =>
        obtain ⟨rfl, g, tk, c, rfl, R, lc, kp⟩ := h2
        repeat (any_goals (first | assumption | wp_step))
        exact q g tk c R lc kp
      | .ok (.next), h2 => exact h2.elim
  | .ok (.next), ht => exact ht.elim
end
end Pf
end

section 
set_option Elab.async false
set_option linter.all false
set_option maxRecDepth 100000
set_option maxHeartbeats 4000000
/-! PfXb: set(a list of whole numbers), as a rule of calls. -/
namespace Pf
open PySem PySem.Spec PyProof.Rows L2
section
variable {X : Cx}
def rSetLI (K : PySem.W.Frag) (w : World) : List V → Hp → VK → Prop := fun xs H Q => ∃ (a : Addr) (ns : List Int), xs = [V.ref a] ∧ SqL K H a (ns.map V.int) ∧ ns.length ≤ 1000 ∧
  ∀ (p : Addr) (c : Nat), c ≤ ns.length → H p = none → Q (.ref p) (upd H p (SetO w p (fun j => decide (j ∈ ns)) c))
theorem cr_setLI (hc : X.calm = true) : CallR X (.type "set") (rSetLI X.K X.w) := by
  intro pins s σ H xs us Q I r h
  obtain ⟨a, ns, rfl, hq, hl, q⟩ := h
  rw [Vals.ref1 r]
  obtain ⟨its, rv, ⟨o, n, e, e1, e2, e3⟩, hz⟩ := I.list hq
  refine set_of_ints ns (I.ok.hd hc) (us := its.toArray) ⟨o, e, e1, n, e3⟩ (ints_of_vals rv) (by unfold scanBound; omega) fun g tk c R lc kp => ?_
  exact ⟨.ref _, upd H s.heap.objs.size (SetO X.w s.heap.objs.size (fun j => decide (j ∈ ns)) c), I.laid (t' := tk) kp (Nat.le_refl _) (setO_new R), rfl, q _ c lc (I.hok.fresh (Nat.le_refl _))⟩
end
end Pf
end

section 
set_option Elab.async false
set_option linter.all false
set_option maxRecDepth 100000
set_option maxHeartbeats 4000000
/-! PfXbT: set(a tuple of whole numbers). -/
namespace Pf
open PySem PySem.Spec PyProof.Rows L2
theorem subT_set : isSubtype (.type "tuple") (.type "set") = pure false := by rw [isSubtype_type]; kernel_rfl
theorem subT_fro : isSubtype (.type "tuple") (.type "frozenset") = pure false := by rw [isSubtype_type]; kernel_rfl
section
variable {P : Program} {w : World} {A : Around} {E : Value → Shared → Prop} {s : Shared}
theorem set_of_intsT {l : Addr} {us : Array Value} (ns : List Int) {Q : Value → Shared → Prop} (hh : A.handled = none) (hl : s.heap.IsTuple l us) (hu : IntsAre us.toList ns) (hb : ns.length + 1 < scanBound)
    (q : ∀ (g : Heap) (tk c : Nat), SetR w g s.heap.objs.size (fun j => decide (j ∈ ns)) c → c ≤ ns.length → (∀ b o, s.heap.get? b = some o → g.get? b = some o) → Q (.ref s.heap.objs.size) { s with heap := g, toks := tk }) :
    wpAny (model P w) A (call (.type "set") [.ref l]) Q E s := by
  have len : us.size = ns.length := by rw [← Array.length_toList]; exact IntsAre.length hu
  obtain ⟨_, _, mro⟩ := F.called_set.mro
  have made := F.called_set.made
  have sub := F.called_set.sub
  refine wpAny_call (codeAny_of_tree (wpAny_pure ⟨Code.quiet_builtin _ (by decide +kernel), codeAny_builtin F.entry_type_call ?_⟩))
  rw [Around.under_plain (weight_type_call_type "set" [.ref l] []) rfl]
  have nt := F.called_set.notType
  have cc := F.called_set.canCreate
  have ct := F.typeCall_set_1 (.ref l)
  repeat (any_goals (first | assumption | wp_step))
  refine codeAny_mono (code_set_led1 (.ref l) (E := E) (Q₁ := fun v t => v = .ref s.heap.objs.size ∧ t = { s with heap := s.heap.push (eObj w) }) ⟨rfl, rfl⟩) fun r t ht => ?_
  match r, ht with
  | .error _, ht => exact ht
  | .ok (.ret v), ht =>
    obtain ⟨rfl, rfl⟩ := ht
    have at0 : (s.heap.push (eObj w)).get? s.heap.objs.size = some (eObj w) := Heap.get?_push_size _ rfl
    have isS : Shared.TypeIs { s with heap := s.heap.push (eObj w) } (.ref s.heap.objs.size) "set" := ⟨_, at0, rfl⟩
    have il := F.called_set.init.lookup
    have ib := F.called_set.init.bind (.ref s.heap.objs.size)
    repeat (any_goals (first | assumption | wp_step))
    refine codeAny_mono (codeAny_call_builtin (R := wants (fun r t => r = .none ∧ Done w ns s t) E) F.called_set.init.plain F.entry_set_init (check_set_init_1 isS ?_)) fun r2 t2 h2 => ?_
    · obtain ⟨⟨c0, d0, a0, z0⟩, ho, hc, m, hd⟩ := hl
      simp only at hc hd
      subst hc
      subst hd
      have lt : l < s.heap.objs.size := Heap.lt_size ho
      have sz : (s.heap.push (eObj w)).objs.size = s.heap.objs.size + 1 := Heap.size_push ..
      have nS := subT_set
      have nF := subT_fro
      have nD : (Value.type "tuple" == Value.type "dict") = false := by decide
      have ho1 : (s.heap.push (eObj w)).get? l = some { cls := .type "tuple", dict := d0, data := .seq us m, slots := z0 } := Heap.get?_push_of_some _ ho
      have isL : (s.heap.push (eObj w)).IsTuple l us := ⟨_, ho1, rfl, m, rfl⟩
      unfold Builtin.«set.__init__» noKeywords Builtin.Frozenset.updateFrom
      generalize hp : pyIter = pI
      wp_walk
      subst hp
      refine wpAny_pyIter_tuple isL (wpAny_bind (wpAny_runValue ?_))
      have h3 : A.in1.in1.in1.handled = none := by simp [hh]
      have l1 : l ≠ (s.heap.push (eObj w)).objs.size := by rw [sz]; exact Nat.ne_of_lt (Nat.lt_succ_of_lt lt)
      have f1 : s.heap.objs.size ∉ [(s.heap.push (eObj w)).objs.size, l] := by
        rw [sz]
        simp only [List.mem_cons, List.not_mem_nil, or_false]
        exact fun h => h.elim (fun e => Nat.ne_of_lt (Nat.lt_succ_self _) e) fun e => Nat.ne_of_gt lt e
      have vals : ∀ (i : Nat) (v : Value), us[i]? = some v → ∃ k t, ns[i]? = some k ∧ v = .int k t := by
        intro i v hv
        have hi : i < ns.length := by rw [← len]; exact (Array.getElem?_eq_some_iff.mp hv).1
        obtain ⟨t, e⟩ := IntsAre.int_at hu i v (by rw [Array.getElem?_toList]; exact hv)
        exact ⟨ns[i], t, List.getElem?_eq_getElem hi, by rw [e, List.getD_eq_getElem?_getD, List.getElem?_eq_getElem hi]; rfl⟩
      refine set_update_ints ((Walks.tuple h3 _ l l1 us).toS) s.heap.objs.size f1 ns len hb vals us.size 0 _ rfl (Nat.zero_le _) ⟨⟨_, Heap.get?_push_size _ rfl, rfl, rfl⟩, isL.push _⟩ ⟨0, Nat.le_refl 0, setR_new_at (Heap.get?_push_of_some _ at0)⟩ ?_
      rintro ⟨g, g2, d2, tk, os⟩ c mv lc R
      obtain rfl : g2 = s.gens := mv.gens
      obtain rfl : d2 = s.drawn := mv.drawn
      obtain rfl : os = s.os := mv.os
      refine wpAny_pure (wpAny_pure ⟨rfl, g, tk, c, rfl, R, by rw [← len]; exact lc, fun b o e => ?_⟩)
      have b0 : b < s.heap.objs.size := Heap.lt_size e
      refine mv.heap b o ?_ (Heap.get?_push_of_some _ (Heap.get?_push_of_some _ e))
      simp only [List.mem_cons, List.not_mem_nil, or_false]
      exact fun h => h.elim (fun e => Nat.ne_of_lt b0 e) fun e => Nat.ne_of_lt (Nat.lt_succ_of_lt b0) (e.trans sz)
    · match r2, h2 with
      | .error _, h2 => exact h2
      | .ok (.ret v), h2 =>
        obtain ⟨rfl, g, tk, c, rfl, R, lc, kp⟩ := h2
        repeat (any_goals (first | assumption | wp_step))
        exact q g tk c R lc kp
      | .ok (.next), h2 => exact h2.elim
  | .ok (.next), ht => exact ht.elim
end
section
variable {X : Cx}
def rSetTI (K : PySem.W.Frag) (w : World) : List V → Hp → VK → Prop := fun xs H Q => ∃ (a : Addr) (ns : List Int), xs = [V.ref a] ∧ SqT K H a (ns.map V.int) ∧ ns.length ≤ 1000 ∧
  ∀ (p : Addr) (c : Nat), c ≤ ns.length → H p = none → Q (.ref p) (upd H p (SetO w p (fun j => decide (j ∈ ns)) c))
theorem cr_setTI (hc : X.calm = true) : CallR X (.type "set") (rSetTI X.K X.w) := by
  intro pins s σ H xs us Q I r h
  obtain ⟨a, ns, rfl, hq, hl, q⟩ := h
  rw [Vals.ref1 r]
  obtain ⟨its, rv, pt, hz⟩ := I.tuple hq
  refine set_of_intsT ns (I.ok.hd hc) (us := its.toArray) pt (ints_of_vals rv) (by unfold scanBound; omega) fun g tk c R lc kp => ?_
  exact ⟨.ref _, upd H s.heap.objs.size (SetO X.w s.heap.objs.size (fun j => decide (j ∈ ns)) c), I.laid (t' := tk) kp (Nat.le_refl _) (setO_new R), rfl, q _ c lc (I.hok.fresh (Nat.le_refl _))⟩
end
end Pf
end

section 
set_option Elab.async false
set_option linter.all false
set_option maxRecDepth 100000
set_option maxHeartbeats 4000000
namespace Pf
open PySem PySem.Spec PyProof.Rows L2
theorem dedup_mem : ∀ (ns : List Int) (k : Int), k ∈ dedupI ns ↔ k ∈ ns
  | [], k => by simp [dedupI]
  | n :: ns, k => by
    simp only [dedupI, List.mem_cons, List.mem_filter, dedup_mem ns k]
    by_cases h : k = n
    · simp [h]
    · have : n ≠ k := fun e => h e.symm
      simp [h, this]
theorem dedup_nodup : ∀ ns : List Int, (dedupI ns).Nodup
  | [] => by simp [dedupI]
  | n :: ns => by
    simp only [dedupI, List.nodup_cons, List.mem_filter]
    exact ⟨by simp, (dedup_nodup ns).filter _⟩
theorem rising_dedup {ns ms : List Int} (h : ms.Pairwise (· < ·)) (hm : ∀ k, k ∈ ms ↔ k ∈ ns) : ms = sortI (dedupI ns) := by
  refine sortI_uniq ?_ (h.imp fun {a b} x => by omega)
  refine (List.perm_ext_iff_of_nodup (h.imp fun {a b} x => by omega) (dedup_nodup ns)).mpr fun k => ?_
  rw [hm, dedup_mem]
theorem dedupP_mem : ∀ (ns : List (Int × Int)) (k : Int × Int), k ∈ dedupP ns ↔ k ∈ ns
  | [], k => by simp [dedupP]
  | n :: ns, k => by
    simp only [dedupP, List.mem_cons, List.mem_filter, dedupP_mem ns k]
    by_cases h : k = n
    · simp [h]
    · have : n ≠ k := fun e => h e.symm
      simp [h, this]
theorem dedupP_nodup : ∀ ns : List (Int × Int), (dedupP ns).Nodup
  | [] => by simp [dedupP]
  | n :: ns => by
    simp only [dedupP, List.nodup_cons, List.mem_filter]
    exact ⟨by simp, (dedupP_nodup ns).filter _⟩
theorem rising_dedupP {ns ms : List (Int × Int)} (h : ms.Pairwise (fun a b => pairLe a b = true)) (nd : ms.Nodup) (hm : ∀ k, k ∈ ms ↔ k ∈ ns) : ms = sortP (dedupP ns) := by
  refine sortP_uniq ?_ h
  refine (List.perm_ext_iff_of_nodup nd (dedupP_nodup ns)).mpr fun k => ?_
  rw [hm, dedupP_mem]
theorem code_le {a b : Int × Int} (h : TS.code 64 [a.1, a.2] ≤ TS.code 64 [b.1, b.2]) (b1 : 0 ≤ a.1 ∧ a.1 < 64) (b2 : 0 ≤ a.2 ∧ a.2 < 64) (b3 : 0 ≤ b.1 ∧ b.1 < 64) (b4 : 0 ≤ b.2 ∧ b.2 < 64) : pairLe a b = true := by
  by_cases e : a = b
  · subst e; simp [pairLe]
  · have ne : ([a.1, a.2] : List Int) ≠ [b.1, b.2] := fun z => by
      simp only [List.cons.injEq, and_true] at z
      exact e (Prod.ext z.1 z.2)
    rcases pair_lt h ne b1 b2 b3 b4 with q | ⟨q, q2⟩
    · simp [pairLe, q]
    · simp only [pairLe, Bool.or_eq_true, Bool.and_eq_true, decide_eq_true_eq]; right; exact ⟨q, by omega⟩
/-- sorted(set(xs)), xs a list of whole numbers, or of pairs -/
noncomputable def sSet (S : Sto) (ds : List D) : Option D := biOp S .sortedSet ds
section
variable {X : Cx} {F : Fx} {W : WX} {e : Expr} {p pos : Pos} {f : SemE D}
def adr : V → Addr
  | .ref a => a
  | _ => 0
theorem snd_sortedSet (ok : OkC X F) {q pr : Pos} {e' : Expr} (hg : Gl X "sorted") (hm : X.mg "sorted" = none) (hg2 : Gl X "set") (hm2 : X.mg "set" = none) (hs : notStar e' = true) (ha : PE X e' (tE F W f)) :
    PE X (.Call (.Name "sorted" p) [.Call (.Name "set" q) [e'] [] pr] [] pos) (tE F W fun ρ S => (consS f (fun _ S => .ok [] S) ρ S).bind fun ds S1 => Out.opt S1 (sSet S1 ds)) := by
  have hA : PA X [e'] (tA F W (consS f fun _ S => .ok [] S)) := snd_cons hs ha snd_nil
  have hI := pe_callTy (x := "set") (p := q) (pos := pr) (cr_setLI ok.calm) hg2 hm2 PyProof.Rows.boot_set hA (by decide) (by decide) (star_cons hs) rfl
  have hT := pe_callTy (x := "set") (p := q) (pos := pr) (cr_setOfT ok.calm (by have := ok.hu; omega)) hg2 hm2 PyProof.Rows.boot_set hA (by decide) (by decide) (star_cons hs) rfl
  refine pe_of fun σ H Q μ ρ S z c w => ?_
  cases ho : consS f (fun _ S => .ok [] S) ρ S with
  | stuck => rw [ho] at w; exact w.elim
  | exn k x S1 =>
    rw [ho] at w
    refine ⟨_, pe_callB (cr_sortedSet ok.calm) hg hm (by decide +kernel) (pa_cons hI pa_nil), ?_⟩
    refine tG.of c ?_
    rw [ho]
    exact w
  | ok ds S1 =>
    rw [ho] at w
    obtain ⟨d, e, w0⟩ := Wish.opt w
    have tupCase : ∀ (x : D) (zs : List D) (ns : List Int), ds = [x] → x = .tup zs → allOf intOf zs = some ns → ns.length < 64 → d = .lst ((sortI (dedupI ns)).map .int) → ∃ t, PE X (.Call (.Name "sorted" p) [.Call (.Name "set" q) [e'] [] pr] [] pos) t ∧ t σ H fun v H' => Sz H' → Q v H' := by
      rintro x zs ns rfl rfl e3 h64 rfl
      have hTT := pe_callTy (x := "set") (p := q) (pos := pr) (cr_setTI ok.calm) hg2 hm2 PyProof.Rows.boot_set hA (by decide) (by decide) (star_cons hs) rfl
      refine ⟨_, pe_callB (cr_sortedSet ok.calm) hg hm (by decide +kernel) (pa_cons hTT pa_nil), ?_⟩
      refine tG.of c ?_
      rw [ho]
      intro μ1 H1 vs t1 r1
      have w2 := Wish.after t1 w0
      obtain ⟨x, rfl, rx⟩ := RelL.one r1
      cases rx with
      | tup n1 h1 q1 =>
        obtain ⟨_, rfl⟩ := q1.of_ints e3
        refine ⟨_, ns, rfl, .inl (.inl h1), by omega, fun p c lc np => ?_⟩
        refine ⟨p, _, c, rfl, upd_same, by omega, fun ms p2 hs hm hl np2 => ?_⟩
        have em := rising_dedup hs (ns := ns) (fun k => by rw [hm]; simp)
        rw [← em] at w2
        exact fun z => w2 μ1 _ _ ⟨z, (Step.alloc np).trans (Step.alloc np2) t1.sim.nd, (t1.sim.alloc np).alloc np2⟩ (.lst ((t1.sim.alloc np).fresh np2) upd_same (RelL.ints ms))
    unfold sSet biOp at e
    split at e <;> try contradiction
    unfold setOp at e
    split at e
    · rename_i zs
      obtain ⟨ns, e3, e4⟩ := Option.bind_eq_some_iff.mp e
      simp only [Option.ite_none_right_eq_some, Option.some.injEq] at e4
      exact tupCase _ zs ns rfl rfl e3 e4.1 e4.2.symm
    obtain ⟨zs, e0, rfl⟩ := Option.map_eq_some_iff.mp e
    obtain ⟨ys, e1, e2⟩ := Option.bind_eq_some_iff.mp e0
    unfold sortSetOp at e2
    cases e3 : allOf intOf ys with
    | some ns =>
      rw [e3] at e2
      simp only [Option.ite_none_right_eq_some, Option.some.injEq] at e2
      obtain ⟨h64, rfl⟩ := e2
      refine ⟨_, pe_callB (cr_sortedSet ok.calm) hg hm (by decide +kernel) (pa_cons hI pa_nil), ?_⟩
      refine tG.of c ?_
      rw [ho]
      intro μ1 H1 vs t1 r1
      have w2 := Wish.after t1 w0
      obtain ⟨x, rfl, rx⟩ := RelL.one r1
      obtain ⟨a, vs, rfl, h1, q1⟩ := lstOf_rel t1.sim rx e1
      obtain ⟨_, rfl⟩ := q1.of_ints e3
      refine ⟨a, ns, rfl, .inl (.inl h1), by omega, fun p c lc np => ?_⟩
      refine ⟨p, _, c, rfl, upd_same, by omega, fun ms p2 hs hm hl np2 => ?_⟩
      have em := rising_dedup hs (ns := ns) (fun k => by rw [hm]; simp)
      rw [← em] at w2
      exact fun z => w2 μ1 _ _ ⟨z, (Step.alloc np).trans (Step.alloc np2) t1.sim.nd, (t1.sim.alloc np).alloc np2⟩ (.lst ((t1.sim.alloc np).fresh np2) upd_same (RelL.ints ms))
    | none =>
      rw [e3] at e2
      obtain ⟨ps, e4, e5⟩ := Option.bind_eq_some_iff.mp e2
      simp only [Option.ite_none_right_eq_some, Option.some.injEq] at e5
      obtain ⟨⟨h64, hB⟩, rfl⟩ := e5
      have hB : ∀ p ∈ ps, (0 ≤ p.1 ∧ p.1 < 64) ∧ 0 ≤ p.2 ∧ p.2 < 64 := by
        intro p hp
        have := List.all_eq_true.mp hB p hp
        simp only [Bool.and_eq_true, decide_eq_true_eq] at this
        omega
      refine ⟨_, pe_callB (cr_sortedT ok.calm) hg hm (by decide +kernel) (pa_cons hT pa_nil), ?_⟩
      refine tG.of c ?_
      rw [ho]
      intro μ1 H1 vs t1 r1
      have w2 := Wish.after t1 w0
      obtain ⟨x, rfl, rx⟩ := RelL.one r1
      obtain ⟨a, vs, rfl, h1, q1⟩ := lstOf_rel t1.sim rx e1
      obtain ⟨h2, h3⟩ := pairs_rel q1 e4
      let ks : List (Addr × List Int) := vs.map fun x => (adr x, [(two H1 x).1, (two H1 x).2])
      have hv : vs = ks.map fun p => V.ref p.1 := by
        simp only [ks, List.map_map]
        refine (List.map_id vs).symm.trans (List.map_congr_left fun x hx => ?_)
        obtain ⟨t, rfl, _⟩ := h3 x hx
        rfl
      have hk : ∀ p ∈ ks, ∃ x ∈ vs, p = (adr x, [(two H1 x).1, (two H1 x).2]) := fun p hp => by
        obtain ⟨x, hx, rfl⟩ := List.mem_map.mp hp
        exact ⟨x, hx, rfl⟩
      have hsq : ∀ p ∈ ks, H1 p.1 = some (.tup (p.2.map V.int)) ∧ p.1 ∉ μ1 := fun p hp => by
        obtain ⟨x, hx, rfl⟩ := hk p hp
        obtain ⟨t, rfl, n, g⟩ := h3 x hx
        exact ⟨g, n⟩
      have hlen : ks.length = ps.length := by rw [← h2]; simp [ks]
      have hin : ∀ p ∈ ks, p.2.length = 2 ∧ TS.Bd 64 p.2 := fun p hp => by
        obtain ⟨x, hx, rfl⟩ := hk p hp
        have := hB (two H1 x) (by rw [← h2]; exact List.mem_map_of_mem hx)
        refine ⟨rfl, fun m hm => ?_⟩
        simp only [List.mem_cons, List.not_mem_nil, or_false] at hm
        rcases hm with rfl | rfl
        · exact this.1
        · exact this.2
      refine ⟨a, ks, rfl, .inl (.inl (by rw [← hv]; exact h1)), fun p hp => .inl (.inl (hsq p hp).1), by omega, fun b L nb sub all => ?_⟩
      refine ⟨b, L, 2, 64, rfl, upd_same, fun p hp => .inl (.inl ((upd_ne (ne_of_none (hsq p (sub p hp)).1 nb)).trans (hsq p (sub p hp)).1)), by omega, fun p hp => hin p (sub p hp), fun L' p2 pm nd hl pw np2 => ?_⟩
      have sub' : ∀ p ∈ L', p ∈ ks := fun p hp => sub p (pm.mem_iff.mp hp)
      let ms : List (Int × Int) := L'.map fun p => (p.2.getD 0 0, p.2.getD 1 0)
      have two_of : ∀ p ∈ ks, p.2 = [(p.2.getD 0 0), (p.2.getD 1 0)] := fun p hp => by
        obtain ⟨x, hx, rfl⟩ := hk p hp
        rfl
      have nd2 : ms.Nodup := by
        have : L'.map (·.2) = ms.map fun q => [q.1, q.2] := by
          simp only [ms, List.map_map]
          exact List.map_congr_left fun p hp => two_of p (sub' p hp)
        rw [this] at nd
        exact List.Pairwise.of_map _ (fun a b h e => h (by rw [e])) nd
      have em : ms = sortP (dedupP ps) := by
        refine rising_dedupP ?_ nd2 fun k => ?_
        · refine List.pairwise_map.mpr (pw.imp_of_mem fun {u v} hu hv h => ?_)
          have bu := hin u (sub' u hu)
          have bv := hin v (sub' v hv)
          rw [two_of u (sub' u hu), two_of v (sub' v hv)] at h
          have b1 : ∀ m ∈ [(u.2.getD 0 0), (u.2.getD 1 0)], 0 ≤ m ∧ m < 64 := by rw [← two_of u (sub' u hu)]; exact bu.2
          have b2 : ∀ m ∈ [(v.2.getD 0 0), (v.2.getD 1 0)], 0 ≤ m ∧ m < 64 := by rw [← two_of v (sub' v hv)]; exact bv.2
          exact code_le (a := (u.2.getD 0 0, u.2.getD 1 0)) (b := (v.2.getD 0 0, v.2.getD 1 0)) h (b1 _ (by simp)) (b1 _ (by simp)) (b2 _ (by simp)) (b2 _ (by simp))
        · constructor
          · intro hk2
            obtain ⟨p, hp, rfl⟩ := List.mem_map.mp hk2
            obtain ⟨x, hx, rfl⟩ := hk p (sub' p hp)
            rw [← h2]
            exact List.mem_map.mpr ⟨x, hx, rfl⟩
          · intro hk2
            rw [← h2] at hk2
            obtain ⟨x, hx, rfl⟩ := List.mem_map.mp hk2
            have hx2 : (adr x, [(two H1 x).1, (two H1 x).2]) ∈ ks := List.mem_map.mpr ⟨x, hx, rfl⟩
            obtain ⟨p, hp, e⟩ := List.mem_map.mp (all _ hx2)
            refine List.mem_map.mpr ⟨p, pm.mem_iff.mpr hp, ?_⟩
            rw [e]
            rfl
      rw [← em] at w2
      refine fun z => w2 μ1 _ _ ⟨z, (Step.alloc nb).trans (Step.alloc np2) t1.sim.nd, (t1.sim.alloc nb).alloc np2⟩ (.lst ((t1.sim.alloc nb).fresh np2) upd_same ?_)
      have rl : ∀ l : List (Addr × List Int), (∀ p ∈ l, p ∈ ks) → F.RelL μ1 H1 ((l.map fun p => (p.2.getD 0 0, p.2.getD 1 0)).map pairD) (l.map fun q => V.ref q.1) := by
        intro l
        induction l with
        | nil => intro _; exact .nil
        | cons p l ih =>
          intro h
          refine .cons ?_ (ih fun q hq => h q (by simp [hq]))
          have g := hsq p (h p (by simp))
          rw [two_of p (h p (by simp))] at g
          exact .tup g.2 g.1 (.cons (.int _) (.cons (.int _) .nil))
      exact ((rl L' sub').up nb).up np2
end
end Pf
end

section 
set_option Elab.async false
set_option linter.all false
set_option maxRecDepth 100000
set_option maxHeartbeats 1000000
/-! PfRz: zip of a tuple and a list: the two walks as things of which only their steps are known. -/
namespace Pf
open PySem PySem.Spec PyProof.Rows
/-- a walker `it` over `l`: where it stands, what its steps do -/
structure Wkr (P : Program) (w : World) (it l : Addr) (I : Nat → Heap → Prop) (L : Heap → Prop) (xs : Array Value) : Prop where
  kI : ∀ i h h', I i h → (∀ o, h.get? it = some o → h'.get? it = some o) → I i h'
  kL : ∀ h h', L h → (∀ o, h.get? l = some o → h'.get? l = some o) → L h'
  item : ∀ {A : Around} {E : Value → Shared → Prop} {s : Shared} {i : Nat} {x : Value} {Q : Value → Shared → Prop}, I i s.heap → L s.heap → xs[i]? = some x → (∀ h', I (i + 1) h' → Heap.SameBut it s.heap h' → Q x { s with heap := h' }) →
    wpAny (model P w) A (Builtin.SmallTypes.nextOf (.ref it)) Q E s
  done : ∀ {A : Around} {E : Value → Shared → Prop} {s : Shared} {i : Nat} {Q : Value → Shared → Prop}, A.handled = none → I i s.heap → L s.heap → xs[i]? = none →
    (∀ h' e, Heap.ExtBut it s.heap h' → (∃ o, h'.get? e = some o ∧ o.cls = .type "StopIteration") → E (.ref e) { s with heap := h' }) → wpAny (model P w) A (Builtin.SmallTypes.nextOf (.ref it)) Q E s
section
variable {P : Program} {w : World}
theorem wkT {it l : Addr} {xs : Array Value} : Wkr P w it l (fun i h => h.IsTupleIter it l i) (fun h => h.IsTuple l xs) xs where
  kI := fun i h h' a b => a.at b
  kL := fun h h' ⟨o, a, c⟩ b => ⟨o, b o a, c⟩
  item := fun a b c d => RZ.nextOf_tuple_item a b c d
  done := fun hh a b c d => RZ.nextOf_tuple_end hh a b c d
theorem wkL {it l : Addr} {xs : Array Value} : Wkr P w it l (fun i h => h.IsListIter it l i) (fun h => h.IsList l xs) xs where
  kI := fun i h h' a b => a.at b
  kL := fun h h' ⟨o, a, c⟩ b => ⟨o, b o a, c⟩
  item := fun a b c d => wpAny_nextOf_list_item a b c d
  done := fun hh a b c d => wpAny_nextOf_list_end hh a b c d
variable {A : Around} {E : Value → Shared → Prop} {s : Shared} {z TI TO i1 i2 l1 l2 : Addr} {k1 k2 : Nat} {xs ys : Array Value} {a b : Value} {I1 I2 : Nat → Heap → Prop} {L1 L2 : Heap → Prop}
/-- the zip's own objects, untouched -/
abbrev Off (z TO i1 i2 : Addr) (h h' : Heap) : Prop := ∀ c o, c ≠ z → c ≠ TO → c ≠ i1 → c ≠ i2 → h.get? c = some o → h'.get? c = some o
theorem zipG_item {x y : Value} {Q : Value → Shared → Prop} (w1 : Wkr P w i1 l1 I1 L1 xs) (w2 : Wkr P w i2 l2 I2 L2 ys) (D : ZipApart z TI TO i1 i2 l1 l2)
    (hz : IsZip s.heap z TI TO .none) (hTI : IsPair s.heap TI (.ref i1) (.ref i2)) (hTO : IsPair s.heap TO a b) (g1 : I1 k1 s.heap) (g2 : I2 k2 s.heap) (hl1 : L1 s.heap) (hl2 : L2 s.heap) (hx : xs[k1]? = some x) (hy : ys[k2]? = some y)
    (hQ : ∀ h', IsZip h' z TI TO (rawInt s.heap.objs.size) → IsPair h' TO x y → I1 (k1 + 1) h' → I2 (k2 + 1) h' → IsPair h' s.heap.objs.size x y → Off z TO i1 i2 s.heap h' → Q (.ref s.heap.objs.size) { s with heap := h' }) :
    wpAny (model P w) A (Builtin.«zip.__next__» ⟨[.ref z], []⟩) (fun fin s' => ∃ v, fin = .done (.ret v) ∧ Q v s') E s := by
  show wpAny _ _ (field (.ref z) 2 >>= _) _ _ _
  refine wpAny_bind (wpAny_field hz rfl (x := .bool false) rfl ?_)
  show wpAny _ _ (field (.ref z) 3 >>= _) _ _ _
  refine wpAny_bind (wpAny_field hz rfl (x := .ref TI) rfl (wpAny_bind (wpAny_seqItems hTI rfl ?_)))
  show wpAny _ _ (Builtin.SmallTypes.ownedTupleIsFree (.ref z) >>= _) _ _ _
  refine wpAny_bind ?_
  unfold Builtin.SmallTypes.ownedTupleIsFree
  refine wpAny_bind (wpAny_field hz rfl (x := .none) rfl (wpAny_pure ?_))
  simp only [if_true]
  refine wpAny_bind (wpAny_rule (wpAny_bind (wpAny_field hz rfl (x := .ref TO) rfl (wpAny_bind (wpAny_setField_rec hz (by simp) fun p1 q1 r1 => ?_)))))
  have e1 := r1.extBut
  refine wpAny_bind ?_
  simp only [List.zipIdx_cons, List.zipIdx_nil, List.forIn_cons, List.forIn_nil]
  refine wpAny_bind (wpAny_bind (wpAny_onRaise ?_))
  show wpAny _ _ (Builtin.SmallTypes.nextOf (.ref i1) >>= _) _ _ _
  refine wpAny_bind (w1.item (w1.kI _ _ _ g1 fun o => e1 _ o D.i1z) (w1.kL _ _ hl1 fun o => e1 _ o D.l1z) hx fun p2 j1 r2 => wpAny_pure ?_)
  have e2 := r2.extBut
  have t2 : IsPair p2 TO a b := e2 _ _ D.TOi1 (e1 _ _ D.TOz hTO)
  refine wpAny_bind (wpAny_seqItems t2 rfl (wpAny_bind (wpAny_updateSeq_pair t2 fun p3 t3 r3 => wpAny_bind (wpAny_letGo (wpAny_pure ?_)))))
  have e3 := r3.extBut
  replace t3 : IsPair p3 TO x b := t3
  refine wpAny_bind (wpAny_bind (wpAny_onRaise ?_))
  show wpAny _ _ (Builtin.SmallTypes.nextOf (.ref i2) >>= _) _ _ _
  refine wpAny_bind (w2.item (w2.kI _ _ _ g2 fun o q => e3 _ o D.TOi2.symm (e2 _ o D.i12.symm (e1 _ o D.i2z q))) (w2.kL _ _ hl2 fun o q => e3 _ o D.l2TO (e2 _ o D.l2i1 (e1 _ o D.l2z q))) hy fun p4 j2 r4 => wpAny_pure ?_)
  have e4 := r4.extBut
  have t4 : IsPair p4 TO x b := e4 _ _ D.TOi2 t3
  refine wpAny_bind (wpAny_seqItems t4 rfl (wpAny_bind (wpAny_updateSeq_pair t4 fun p5 t5 r5 => wpAny_bind (wpAny_letGo (wpAny_pure (wpAny_pure ?_))))))
  have e5 := r5.extBut
  replace t5 : IsPair p5 TO x y := t5
  refine wpAny_bind (wpAny_seqItems t5 rfl (wpAny_bind (wpAny_newTuple ?_)))
  have sz : p5.objs.size = s.heap.objs.size := by rw [r5.1, r4.1, r3.1, r2.1, r1.1]
  have z5 : IsZip p5 z TI TO .ellipsis := e5 _ _ D.TOz.symm (e4 _ _ D.i2z.symm (e3 _ _ D.TOz.symm (e2 _ _ D.i1z.symm q1)))
  have off : Off z TO i1 i2 s.heap p5 := fun c o c1 c2 c3 c4 e => e5 _ _ c2 (e4 _ _ c4 (e3 _ _ c2 (e2 _ _ c3 (e1 _ _ c1 e))))
  have y1 : I1 (k1 + 1) p5 := w1.kI _ _ _ j1 fun o q => e5 _ o D.TOi1.symm (e4 _ o D.i12 (e3 _ o D.TOi1.symm q))
  have y2 : I2 (k2 + 1) p5 := w2.kI _ _ _ j2 fun o q => e5 _ o D.TOi2.symm q
  have zl : z < p5.objs.size := Heap.lt_size z5
  show wpAny _ _ (Builtin.SmallTypes.ownedTupleHandOut (.ref z) (.ref p5.objs.size) >>= _) _ _ _
  refine wpAny_bind ?_
  unfold Builtin.SmallTypes.ownedTupleHandOut
  refine wpAny_bind (wpAny_setField_rec (show IsZip (p5.push { cls := .type "tuple", data := .seq #[x, y] }) z TI TO .ellipsis from Heap.get?_push_of_some _ z5) (by simp) fun p7 z7 r7 => ?_)
  replace z7 : IsZip p7 z TI TO (rawInt p5.objs.size) := z7
  refine wpAny_setField_rec z7 (by simp) fun p8 z8 r8 => ?_
  replace z8 : IsZip p8 z TI TO (rawInt p5.objs.size) := z8
  have up : ∀ c o, c ≠ z → p5.get? c = some o → p8.get? c = some o := fun c o c1 e => r8.extBut _ _ c1 (r7.extBut _ _ c1 (Heap.get?_push_of_some _ e))
  have new : IsPair p8 p5.objs.size x y := r8.extBut _ _ (Nat.ne_of_gt zl) (r7.extBut _ _ (Nat.ne_of_gt zl) (Heap.get?_push_size _ rfl))
  rw [sz] at z8 new
  refine wpAny_pure ⟨_, rfl, ?_⟩
  show Q (.ref p5.objs.size) _
  rw [sz]
  exact hQ p8 z8 (up _ _ D.TOz t5) (w1.kI _ _ _ y1 fun o => up _ o D.i1z) (w2.kI _ _ _ y2 fun o => up _ o D.i2z) new fun c o c1 c2 c3 c4 e => up c o c1 (off c o c1 c2 c3 c4 e)
theorem zipG_done {Q : Fin → Shared → Prop} (w1 : Wkr P w i1 l1 I1 L1 xs) (w2 : Wkr P w i2 l2 I2 L2 ys) (hh : A.handled = none) (D : ZipApart z TI TO i1 i2 l1 l2)
    (hz : IsZip s.heap z TI TO .none) (hTI : IsPair s.heap TI (.ref i1) (.ref i2)) (hTO : IsPair s.heap TO a b) (g1 : I1 k1 s.heap) (g2 : I2 k2 s.heap) (hl1 : L1 s.heap) (hl2 : L2 s.heap) (hend : xs[k1]? = none ∨ ys[k2]? = none)
    (hE : ∀ h' e, Off z TO i1 i2 s.heap h' → (∃ o, h'.get? e = some o ∧ o.cls = .type "StopIteration") → E (.ref e) { s with heap := h' }) :
    wpAny (model P w) A (Builtin.«zip.__next__» ⟨[.ref z], []⟩) Q E s := by
  have no : ∀ {h : Heap} {e : Addr} {o : Obj}, IsZip h z TI TO .ellipsis → h.get? e = some o → o.cls = .type "StopIteration" → e ≠ z := fun q g c x => by subst x; rw [q] at g; cases g; simp at c
  show wpAny _ _ (field (.ref z) 2 >>= _) _ _ _
  refine wpAny_bind (wpAny_field hz rfl (x := .bool false) rfl ?_)
  show wpAny _ _ (field (.ref z) 3 >>= _) _ _ _
  refine wpAny_bind (wpAny_field hz rfl (x := .ref TI) rfl (wpAny_bind (wpAny_seqItems hTI rfl ?_)))
  show wpAny _ _ (Builtin.SmallTypes.ownedTupleIsFree (.ref z) >>= _) _ _ _
  refine wpAny_bind ?_
  unfold Builtin.SmallTypes.ownedTupleIsFree
  refine wpAny_bind (wpAny_field hz rfl (x := .none) rfl (wpAny_pure ?_))
  simp only [if_true]
  refine wpAny_bind (wpAny_rule (wpAny_bind (wpAny_field hz rfl (x := .ref TO) rfl (wpAny_bind (wpAny_setField_rec hz (by simp) fun p1 q1 r1 => ?_)))))
  have e1 := r1.extBut
  replace q1 : IsZip p1 z TI TO .ellipsis := q1
  refine wpAny_bind ?_
  simp only [List.zipIdx_cons, List.zipIdx_nil, List.forIn_cons, List.forIn_nil]
  refine wpAny_bind (wpAny_bind (wpAny_onRaise ?_))
  show wpAny _ _ (Builtin.SmallTypes.nextOf (.ref i1) >>= _) _ _ _
  have g1' := w1.kI _ _ _ g1 fun o => e1 i1 o D.i1z
  have hl1' := w1.kL _ _ hl1 fun o => e1 l1 o D.l1z
  cases hx : xs[k1]? with
  | none =>
    refine wpAny_bind (w1.done hh g1' hl1' hx fun p2 e e2 he => ?_)
    obtain ⟨o, ho, hc⟩ := he
    have z2 : IsZip p2 z TI TO .ellipsis := e2 _ _ D.i1z.symm q1
    refine wpAny_setField_rec z2 (by simp) fun p3 _ r3 => hE p3 e (fun c o c1 _ c3 _ q => r3.extBut _ _ c1 (e2 _ _ c3 (e1 _ _ c1 q))) ⟨o, r3.extBut _ _ (no z2 ho hc) ho, hc⟩
  | some x =>
    have hy : ys[k2]? = none := by
      rcases hend with h | h
      · rw [hx] at h; cases h
      · exact h
    refine wpAny_bind (w1.item g1' hl1' hx fun p2 j1 r2 => wpAny_pure ?_)
    have e2 := r2.extBut
    have t2 : IsPair p2 TO a b := e2 _ _ D.TOi1 (e1 _ _ D.TOz hTO)
    refine wpAny_bind (wpAny_seqItems t2 rfl (wpAny_bind (wpAny_updateSeq_pair t2 fun p3 t3 r3 => wpAny_bind (wpAny_letGo (wpAny_pure ?_)))))
    have e3 := r3.extBut
    refine wpAny_bind (wpAny_bind (wpAny_onRaise ?_))
    show wpAny _ _ (Builtin.SmallTypes.nextOf (.ref i2) >>= _) _ _ _
    refine wpAny_bind (w2.done hh (w2.kI _ _ _ g2 fun o q => e3 _ o D.TOi2.symm (e2 _ o D.i12.symm (e1 _ o D.i2z q))) (w2.kL _ _ hl2 fun o q => e3 _ o D.l2TO (e2 _ o D.l2i1 (e1 _ o D.l2z q))) hy fun p4 e e4 he => ?_)
    obtain ⟨o, ho, hc⟩ := he
    have z4 : IsZip p4 z TI TO .ellipsis := e4 _ _ D.i2z.symm (e3 _ _ D.TOz.symm (e2 _ _ D.i1z.symm q1))
    refine wpAny_setField_rec z4 (by simp) fun p5 _ r5 => hE p5 e (fun c o c1 c2 c3 c4 q => r5.extBut _ _ c1 (e4 _ _ c4 (e3 _ _ c2 (e2 _ _ c3 (e1 _ _ c1 q))))) ⟨o, r5.extBut _ _ (no z4 ho hc) ho, hc⟩
theorem nextG_item {x y : Value} {Q : Option Value → Shared → Prop} (w1 : Wkr P w i1 l1 I1 L1 xs) (w2 : Wkr P w i2 l2 I2 L2 ys) (D : ZipApart z TI TO i1 i2 l1 l2)
    (hz : IsZip s.heap z TI TO .none) (hTI : IsPair s.heap TI (.ref i1) (.ref i2)) (hTO : IsPair s.heap TO a b) (g1 : I1 k1 s.heap) (g2 : I2 k2 s.heap) (hl1 : L1 s.heap) (hl2 : L2 s.heap) (hx : xs[k1]? = some x) (hy : ys[k2]? = some y)
    (hQ : ∀ h', IsZip h' z TI TO (rawInt s.heap.objs.size) → IsPair h' TO x y → I1 (k1 + 1) h' → I2 (k2 + 1) h' → IsPair h' s.heap.objs.size x y → Off z TO i1 i2 s.heap h' → Q (some (.ref s.heap.objs.size)) { s with heap := h' }) :
    wpAny (model P w) A (pyNext (.ref z)) Q E s := by
  have hT : s.TypeIs (.ref z) "zip" := ⟨_, hz, rfl⟩
  unfold pyNext
  exact wpAny_bind (wpAny_attempt (wpAny_callSpecial?_slot (name := Str.ofString "__next__") hT F.slot_zip_next
    (wpAny_call_entry F.slot_zip_next hT F.entry_zip_next (zipG_item w1 w2 D hz hTI hTO g1 g2 hl1 hl2 hx hy fun h' a1 a2 a3 a4 a5 a6 => wpAny_pure (hQ h' a1 a2 a3 a4 a5 a6)) (F.args_zip_next_1 _))))
theorem nextG_done {Q : Option Value → Shared → Prop} (w1 : Wkr P w i1 l1 I1 L1 xs) (w2 : Wkr P w i2 l2 I2 L2 ys) (hh : A.handled = none) (D : ZipApart z TI TO i1 i2 l1 l2)
    (hz : IsZip s.heap z TI TO .none) (hTI : IsPair s.heap TI (.ref i1) (.ref i2)) (hTO : IsPair s.heap TO a b) (g1 : I1 k1 s.heap) (g2 : I2 k2 s.heap) (hl1 : L1 s.heap) (hl2 : L2 s.heap) (hend : xs[k1]? = none ∨ ys[k2]? = none)
    (hQ : ∀ h', Off z TO i1 i2 s.heap h' → Q none { s with heap := h' }) : wpAny (model P w) A (pyNext (.ref z)) Q E s := by
  have hT : s.TypeIs (.ref z) "zip" := ⟨_, hz, rfl⟩
  unfold pyNext
  refine wpAny_bind (wpAny_attempt (wpAny_callSpecial?_slot (name := Str.ofString "__next__") hT F.slot_zip_next
    (wpAny_call_entry F.slot_zip_next hT F.entry_zip_next (zipG_done w1 w2 hh D hz hTI hTO g1 g2 hl1 hl2 hend fun h' e hk he => ?_) (F.args_zip_next_1 _))))
  obtain ⟨o, ho, hc⟩ := he
  exact wpAny_bind (wpAny_isInstance (T := "StopIteration") (b := true) ⟨o, ho, hc⟩ isSubtype_stop (wpAny_pure (hQ _ hk)))
end
/-! ### zip(a tuple, a list) made -/
abbrev zm1 (h : Heap) (l1 : Addr) : Heap := h.push { cls := .type "tuple_iterator", data := .fields #[.ref l1, .int 0 0] }
abbrev zm2 (h : Heap) (l1 l2 : Addr) : Heap := (zm1 h l1).push { cls := .type "list_iterator", data := .fields #[.ref l2, .int 0 0] }
abbrev zm3 (h : Heap) (l1 l2 : Addr) : Heap := (zm2 h l1 l2).push { cls := .type "tuple", data := .seq #[.ref h.objs.size, .ref (zm1 h l1).objs.size] }
abbrev zm4 (h : Heap) (l1 l2 : Addr) : Heap := (zm3 h l1 l2).push { cls := .type "tuple", data := .seq #[.none, .none] }
abbrev zm5 (h : Heap) (l1 l2 : Addr) : Heap := (zm4 h l1 l2).push { cls := .type "zip", data := .fields #[.none, .bool false, .bool false, .ref (zm2 h l1 l2).objs.size, .ref (zm3 h l1 l2).objs.size] }
theorem meets_zipM (l1 l2 : Addr) (xs ys : Array Value) :
    Meets (Builtin.«zip.__new__» ⟨[.type "zip", .ref l1, .ref l2], []⟩) (fun _ R s => s.heap.IsTuple l1 xs ∧ s.heap.IsList l2 ys ∧ R (.ok (.ret (.ref (zm4 s.heap l1 l2).objs.size))) { s with heap := zm5 s.heap l1 l2 }) :=
  .of_wp fun prog w A R s h => by
    obtain ⟨hp, g, d, tk, os⟩ := s; obtain ⟨hl1, hl2, h⟩ := h
    have hsub := PySem.sub_zip
    have hL1 : Heap.IsTuple (Shared.heap ⟨hp, g, d, tk, os⟩) l1 xs := hl1
    have hL2 : Heap.IsList (Shared.heap ⟨hp.push { cls := .type "tuple_iterator", data := .fields #[.ref l1, .int 0 0] }, g, d, tk, os⟩) l2 ys := Heap.IsList.push hl2 _
    wp_walk using wpAny_pyIter_tuple hL1, wpAny_pyIter_list hL2
    exact ⟨_, rfl, h⟩
section
variable {prog : Program} {w : World} {A : Around} {E : Value → Shared → Prop} {s : Shared}
theorem call_zipM {l1 l2 : Addr} {xs ys : Array Value} {Q : Value → Shared → Prop} (hl1 : s.heap.IsTuple l1 xs) (hl2 : s.heap.IsList l2 ys)
    (h : ∀ h', IsZip h' (s.heap.objs.size + 4) (s.heap.objs.size + 2) (s.heap.objs.size + 3) .none → IsPair h' (s.heap.objs.size + 2) (.ref s.heap.objs.size) (.ref (s.heap.objs.size + 1)) →
      IsPair h' (s.heap.objs.size + 3) .none .none → h'.IsTupleIter s.heap.objs.size l1 0 → h'.IsListIter (s.heap.objs.size + 1) l2 0 → (∀ c o, s.heap.get? c = some o → h'.get? c = some o) → Q (.ref (s.heap.objs.size + 4)) { s with heap := h' }) :
    wpAny (model prog w) A (call (.type "zip") [.ref l1, .ref l2]) Q E s := by
  refine callType_new F.called_zip (by decide) (F.typeCall_zip_2 _ _) (F.newCall_zip_2 _ _) (fun obj => F.args_object_init_3 obj _ _) F.entry_zip_new (meets_zipM l1 l2 xs ys) ⟨hl1, hl2, ?_⟩
  have old : ∀ (g : Heap) (o : Obj) c p, g.get? c = some p → (g.push o).get? c = some p := fun g o c p q => Heap.get?_push_of_some _ q
  have s1 : (zm1 s.heap l1).objs.size = s.heap.objs.size + 1 := Heap.size_push ..
  have s2 : (zm2 s.heap l1 l2).objs.size = s.heap.objs.size + 2 := by rw [Heap.size_push, s1]
  have s3 : (zm3 s.heap l1 l2).objs.size = s.heap.objs.size + 3 := by rw [Heap.size_push, s2]
  have s4 : (zm4 s.heap l1 l2).objs.size = s.heap.objs.size + 4 := by rw [Heap.size_push, s3]
  have g5 : (zm5 s.heap l1 l2).get? (zm4 s.heap l1 l2).objs.size = some _ := Heap.get?_push_size _ rfl
  have g4 : (zm5 s.heap l1 l2).get? (zm3 s.heap l1 l2).objs.size = some _ := old _ _ _ _ (Heap.get?_push_size _ rfl)
  have g3 : (zm5 s.heap l1 l2).get? (zm2 s.heap l1 l2).objs.size = some _ := old _ _ _ _ (old _ _ _ _ (Heap.get?_push_size _ rfl))
  have g2 : (zm5 s.heap l1 l2).get? (zm1 s.heap l1).objs.size = some _ := old _ _ _ _ (old _ _ _ _ (old _ _ _ _ (Heap.get?_push_size _ rfl)))
  have g1 : (zm5 s.heap l1 l2).get? s.heap.objs.size = some _ := old _ _ _ _ (old _ _ _ _ (old _ _ _ _ (old _ _ _ _ (Heap.get?_push_size _ rfl))))
  show _ ∧ _
  rw [s2, s3, s4] at g5
  rw [s1, s2] at g3
  rw [s3] at g4
  rw [s1] at g2
  rw [s4]
  exact ⟨⟨_, g5, rfl⟩, h _ g5 g3 g4 ⟨_, g1, rfl, rfl⟩ ⟨_, g2, rfl, rfl⟩ fun c o x => old _ _ _ _ (old _ _ _ _ (old _ _ _ _ (old _ _ _ _ (old _ _ _ _ x))))⟩
end
/-! ### the walk -/
open L2
def ItzM (K : PySem.W.Frag) (a b : Addr) : It :=
  ⟨fun i H => ∃ (xs ys : List V) (x y : V), SqT K H a xs ∧ SqL K H b ys ∧ xs[i]? = some x ∧ ys[i]? = some y,
    fun i H v H' => ∃ T x y, v = .ref T ∧ H T = none ∧ H' = upd H T (.tup [x, y]) ∧ (∀ xs, SqT K H a xs → xs[i]? = some x) ∧ ∀ ys, SqL K H b ys → ys[i]? = some y,
    fun i H => ∃ xs ys : List V, SqT K H a xs ∧ SqL K H b ys ∧ (xs.length ≤ i ∨ ys.length ≤ i)⟩
theorem turn_zipM {P : Program} {w : World} {K : PySem.W.Frag} {elts : List Expr} {kk : Nat} {tpos : Pos} {a b z TI TO i1 i2 : Addr} (D : ZipApart z TI TO i1 i2 a b) :
    Turn P w K (.Tuple elts kk tpos) (ItzM K a b) [z, TI, TO, i1, i2] z (fun i h => IsZip h z TI TO .none ∧ IsPair h TI (.ref i1) (.ref i2) ∧ (∃ x y, IsPair h TO x y) ∧ h.IsTupleIter i1 a i ∧ h.IsListIter i2 b i) where
  mem := by simp
  obj := fun i h st c hc => by
    obtain ⟨hz, hTI, ⟨x, y, hTO⟩, ⟨o1, e1, _, d1⟩, ⟨o2, e2, _, d2⟩⟩ := st
    simp only [List.mem_cons, List.not_mem_nil, or_false] at hc
    rcases hc with rfl | rfl | rfl | rfl | rfl
    · exact ⟨_, hz, fun v q => nomatch q⟩
    · exact ⟨_, hTI, fun v q => nomatch q⟩
    · exact ⟨_, hTO, fun v q => nomatch q⟩
    · exact ⟨o1, e1, fun v q => by rw [d1] at q; cases q⟩
    · exact ⟨o2, e2, fun v q => by rw [d2] at q; cases q⟩
  keep := fun i h h' ⟨hz, hTI, ⟨x, y, hTO⟩, h1, h2⟩ k => ⟨k z (by simp) _ hz, k TI (by simp) _ hTI, ⟨x, y, k TO (by simp) _ hTO⟩, h1.at fun o q => k i1 (by simp) o q, h2.at fun o q => k i2 (by simp) o q⟩
  item := by
    intro X hP hw hK hc i pins s σ H E I hf st hg
    subst hP hw hK
    obtain ⟨hz, hTI, ⟨x0, y0, hTO⟩, h1, h2⟩ := st
    obtain ⟨xs, ys, x, y, hqx, hqy, hx, hy⟩ := hg
    obtain ⟨its, rv, p, _⟩ := I.tuple hqx
    obtain ⟨its2, rv2, p2, _⟩ := I.list hqy
    obtain ⟨u, hu, ru⟩ := rv.get hx
    obtain ⟨u2, hu2, ru2⟩ := rv2.get hy
    have hzl : z < s.heap.objs.size := Heap.lt_size hz
    refine nextG_item (wkT (xs := its.toArray)) (wkL (xs := its2.toArray)) D hz hTI hTO h1 h2 p p2.isList (x := u) (y := u2) (by simpa using hu) (by simpa using hu2) fun h' z' TO' h1' h2' hT hk => ?_
    refine ⟨_, rfl, wpAny_letOwnedTupleGo_zip (s := { s with heap := h' }) z' fun h'' z'' sb => ?_⟩
    have up : ∀ c o, c ≠ z → h'.get? c = some o → h''.get? c = some o := fun c o q g => (sb.2 c q).trans g
    have hT2 : h''.get? s.heap.objs.size = some { cls := .type "tuple", data := .seq #[u, u2] } := up _ _ (Nat.ne_of_gt hzl) hT
    have new : ObjOk X.prog X.w (upd H s.heap.objs.size (.tup [x, y])) h'' s.heap.objs.size (.tup [x, y]) := ⟨by show 2 ≤ sizeLine; decide, [u, u2], .cons ru (.cons ru2 .nil), ⟨_, hT2, rfl, _, rfl⟩⟩
    have I1 : Inv X pins σ (upd H s.heap.objs.size (.tup [x, y])) { s with heap := h'' } :=
      I.turnedNew (t' := s.toks) (ch := [z, TI, TO, i1, i2]) (fun c o hb q => up c o (fun q' => hb (by simp [q'])) (hk c o (fun q' => hb (by simp [q'])) (fun q' => hb (by simp [q'])) (fun q' => hb (by simp [q'])) (fun q' => hb (by simp [q'])) q)) hf (Nat.le_refl _) new
    refine ⟨.ref s.heap.objs.size, _, I1, rfl, ⟨_, x, y, rfl, I.hok.fresh (Nat.le_refl _), rfl, fun l hl => by rw [I.tuple_inj hl hqx]; exact hx, fun l hl => by rw [I.list_inj hl hqy]; exact hy⟩, ⟨z'', up _ _ D.TIz (hk _ _ D.TIz D.TITO D.TIi1 D.TIi2 hTI), ⟨u, u2, up _ _ D.TOz TO'⟩, h1'.at fun o => up _ o D.i1z, h2'.at fun o => up _ o D.i2z⟩, fun c hcm => ?_⟩
    have hlt : c < s.heap.objs.size := by
      have hcm := hcm
      simp only [List.mem_cons, List.not_mem_nil, or_false] at hcm
      rcases hcm with rfl | rfl | rfl | rfl | rfl
      · exact hzl
      · exact Heap.lt_size hTI
      · exact Heap.lt_size hTO
      · obtain ⟨_, e1, _⟩ := h1; exact Heap.lt_size e1
      · obtain ⟨_, e2, _⟩ := h2; exact Heap.lt_size e2
    rw [upd_ne (Nat.ne_of_lt hlt)]
    exact (hf c hcm).1
  done := by
    intro X hP hw hK hc i pins s σ H E I hf st hg
    subst hP hw hK
    obtain ⟨hz, hTI, ⟨x0, y0, hTO⟩, h1, h2⟩ := st
    obtain ⟨xs, ys, hqx, hqy, hend⟩ := hg
    obtain ⟨its, rv, p, _⟩ := I.tuple hqx
    obtain ⟨its2, rv2, p2, _⟩ := I.list hqy
    have l1 := rv.length
    have l2 := rv2.length
    have he : its.toArray[i]? = none ∨ its2.toArray[i]? = none := by
      rcases hend with q | q
      · exact .inl (by simp; omega)
      · exact .inr (by simp; omega)
    exact nextG_done (wkT (xs := its.toArray)) (wkL (xs := its2.toArray)) (I.ok.hd hc) D hz hTI hTO h1 h2 p p2.isList he fun h' hk => ⟨rfl, I.turnedL (t' := s.toks) (ch := [z, TI, TO, i1, i2]) (fun c o hb q =>
      hk c o (fun q' => hb (by simp [q'])) (fun q' => hb (by simp [q'])) (fun q' => hb (by simp [q'])) (fun q' => hb (by simp [q'])) q) hf⟩
  self := fun A i s Q E st h => wpAny_pyIter_zip st.1 h
def iZipM (K : PySem.W.Frag) (ta : TA) : TI := fun σ H R => ta σ H fun vs H1 => ∃ a b xs ys, vs = [.ref a, .ref b] ∧ SqT K H1 a xs ∧ SqL K H1 b ys ∧ R (ItzM K a b) H1
theorem pi_zipM {X : Cx} {e e2 : Expr} {ta : TA} {p pos tpos : Pos} {elts : List Expr} {kk : Nat} (hg : Gl X "zip") (hm : X.mg "zip" = none) (ha : PA X [e, e2] ta)
    (hs : starEach [e, e2] X.env = (false, eval e X.env) :: starEach [e2] X.env := by rfl) (hpl : (backTo pos (starEach [e2] X.env)).any (·.1) = false := by rfl) :
    PI X (.Tuple elts kk tpos) (.Call (.Name "zip" p) [e, e2] [] pos) (iZipM X.K ta) := by
  refine ⟨fun pins s σ H R I h => ?_⟩
  refine Call_ (ld_blt I hg hm PyProof.Rows.boot_zip (PyProof.Rows.callWith_type1 (thn (ha.run pos pins s σ H _ I h) fun us s1 ⟨vs, H1, I1, r1, q1⟩ => ?_) hs hpl))
  obtain ⟨a, b, xs, ys, rfl, hqx, hqy, q⟩ := q1
  obtain ⟨u1, u2, rfl, rfl, rfl⟩ := vals2 r1
  have fr : ∀ c, c ∈ [s1.heap.objs.size + 4, s1.heap.objs.size + 2, s1.heap.objs.size + 3, s1.heap.objs.size, s1.heap.objs.size + 1] → FpOk X pins H1 c := fun c hcm => by
    have hle : s1.heap.objs.size ≤ c := by
      simp only [List.mem_cons, List.not_mem_nil, or_false] at hcm
      rcases hcm with z | z | z | z | z
      · rw [z]; exact Nat.le_add_right _ _
      · rw [z]; exact Nat.le_add_right _ _
      · rw [z]; exact Nat.le_add_right _ _
      · rw [z]; exact Nat.le_refl _
      · rw [z]; exact Nat.le_add_right _ _
    exact I1.fpOk hle (I1.hok.fresh hle)
  obtain ⟨its, rv, p1, _⟩ := I1.tuple hqx
  obtain ⟨its2, rv2, p2, _⟩ := I1.list hqy
  obtain ⟨o1, ho1, _⟩ := id p1
  refine call_zipM (show s1.heap.IsTuple a its.toArray from p1) p2.isList fun h' hz hTI hTO h1 h2 hk => wpAny_pyIter_zip hz ?_
  have I2 : Inv X pins σ H1 { s1 with heap := h' } := I1.kept (t' := s1.toks) hk
  exact ⟨s1.heap.objs.size + 4, [s1.heap.objs.size + 4, s1.heap.objs.size + 2, s1.heap.objs.size + 3, s1.heap.objs.size, s1.heap.objs.size + 1], _, _, H1, rfl, I2, turn_zipM (PySem.W.ktu_apart s1.heap.objs.size a b (Heap.lt_size ho1) p2.lt), ⟨hz, hTI, ⟨_, _, hTO⟩, h1, h2⟩, fr, q⟩
/-! ### over own data -/
open RZ
theorem WishI.bindE {F : Fx} {W : WX} {α β : Type} {R : Mu → Hp → α → β → Prop} {o : Out α} {k : α → Sto → Out Wk} {Q : It → Hp → Prop} {Q1 : β → Hp → Prop} {σ : St} {μ : Mu} {H : Hp} (h : WishI F W σ μ H (o.bind k) Q)
    (i : ∀ a S' μ' H' b, o = .ok a S' → To F μ H S' μ' H' → R μ' H' a b → WishI F W σ μ' H' (k a S') Q → Q1 b H') : Wish F W σ μ H R o Q1 := by
  cases o with
  | ok a S' =>
    intro μ' H' b t r
    refine i a S' μ' H' b rfl t r ?_
    simp only [Out.ok_bind] at h
    cases q : k a S' with
    | ok d S2 => rw [q] at h; exact fun μ2 H2 J t2 hw hl hi => h μ2 H2 J (t.trans t2) hw hl hi
    | exn c x S2 => rw [q] at h; exact fun μ2 H2 cls dd t2 r2 => h μ2 H2 cls dd (t.trans t2) r2
    | stuck => rw [q] at h; exact h
  | exn c x S' => exact h
  | stuck => exact h
section
variable {X : Cx} {F : Fx} {W : WX} {a b c e tg iter : Expr} {f g h : SemE D} {pos p : Pos}
theorem it_zipM {μ : Mu} {H : Hp} {t u : Addr} {ds es : List D} {vs ws : List V} (n : t ∉ μ) (e : H t = some (.tup vs)) (r : F.RelL μ H ds vs) (n' : u ∉ μ) (e' : H u = some (.lst ws)) (r' : F.RelL μ H es ws) :
    ItB F μ H (ItzM X.K t u) ⟨zipD ds es, none⟩ := by
  refine ItR.both fun μ₀ H₀ k1 k2 _ => ?_
  obtain ⟨n0, e0⟩ := k1 t _ n e
  obtain ⟨n1, e1⟩ := k1 u _ n' e'
  have r0 : F.RelL μ₀ H₀ ds vs := r.imp k2
  have r1 : F.RelL μ₀ H₀ es ws := r'.imp k2
  refine ⟨fun i d μ S H' eg st sim _ => ?_, fun μ S H' st _ _ => ?_⟩
  · have e2 := st.keep t _ (Mu.nin n0) e0
    have e3 := st.keep u _ (Mu.nin n1) e1
    obtain ⟨dx, dy, g1, g2, rfl⟩ := zip_get eg
    obtain ⟨x, hx, rx⟩ := r0.get g1
    obtain ⟨y, hy, ry⟩ := r1.get g2
    refine ⟨⟨vs, ws, x, y, .inl (.inl e2), .inl (.inl e3), hx, hy⟩, fun z H2 q => ?_⟩
    obtain ⟨T, x', y', rfl, nT, rfl, q1, q2⟩ := q
    have h1 := q1 vs (.inl (.inl e2))
    have h2 := q2 ws (.inl (.inl e3))
    rw [hx] at h1
    rw [hy] at h2
    cases h1
    cases h2
    exact pair_new sim nT (rx.mono st) (ry.mono st)
  · have e2 := st.keep t _ (Mu.nin n0) e0
    have e3 := st.keep u _ (Mu.nin n1) e1
    refine ⟨vs, ws, .inl (.inl e2), .inl (.inl e3), ?_⟩
    show vs.length ≤ (zipD ds es).length ∨ ws.length ≤ (zipD ds es).length
    simp only [zipD, List.length_zipWith, r0.length, r1.length]
    omega
theorem sndI_zip (ok : Ok X F) {elts : List Expr} {kk : Nat} {tpos : Pos} (hg : Gl X "zip") (hm : X.mg "zip" = none) (hs : notStar a = true) (hs2 : notStar b = true) (ha : PE X a (tE F W f)) (hb : PE X b (tE F W g)) :
    PI X (.Tuple elts kk tpos) (.Call (.Name "zip" p) [a, b] [] pos) (tI F W fun ρ S => (f ρ S).bind fun x S1 => (g ρ S1).bind fun y S2 => Out.opt S2 (walkZip S2 x y)) := by
  have hA : PA X [a, b] (tCons (tE F W f) (tCons (tE F W g) tNil)) := pa_cons ha (pa_cons hb pa_nil (star_cons hs2)) (star_cons hs)
  refine pi_of fun σ H R μ ρ S z c w => ?_
  by_cases mix : ∃ xs ys S1 S2, f ρ S = .ok (.tup xs) S1 ∧ g ρ S1 = .ok (.lst ys) S2
  · obtain ⟨xs, ys, S1', S2', m1, m2⟩ := mix
    refine ⟨_, pi_zipM hg hm hA (star_cons hs) (star_none (by simp [hs2])), ?_⟩
    refine tG.of c (WishI.bindE w fun x S1 μ1 H1 vx q1 t1 r1 w1 => ?_)
    rw [m1] at q1
    cases q1
    refine tG.of (c.to t1) (WishI.bindE w1 fun y S2 μ2 H2 vy q2 t2 r2 w2 => ?_)
    rw [m2] at q2
    cases q2
    obtain ⟨wk, e, w3⟩ := WishI.opt w2
    have r1' := r1.mono t2.st
    cases e
    cases r1' with
    | tup n e' r' =>
      cases r2 with
      | lst n2 e2 r2 => exact ⟨_, _, _, _, rfl, .inl (.inl e'), .inl (.inl e2), w3.here t2.sz t2.sim trivial (by have := t2.sz.tup _ _ e'; rw [← big_eq, ← r'.length] at this; simp only [zipD, List.length_zipWith]; omega) (it_zipM n e' r' n2 e2 r2)⟩
  refine ⟨_, pi_zipA hg hm hA (star_cons hs) (star_none (by simp [hs2])), ?_⟩
  refine tG.of c (WishI.bindE w fun x S1 μ1 H1 vx q1 t1 r1 w1 => ?_)
  refine tG.of (c.to t1) (WishI.bindE w1 fun y S2 μ2 H2 vy q2 t2 r2 w2 => ?_)
  obtain ⟨wk, e, w3⟩ := WishI.opt w2
  have r1' := r1.mono t2.st
  unfold walkZip at e
  split at e
  · cases e
    cases r1' with
    | tup n e' r' =>
      cases r2 with
      | tup n2 e2 r2 => exact ⟨_, _, _, _, rfl, .inr ⟨.inl (.inl e'), .inl (.inl e2), w3.here t2.sz t2.sim trivial (by have := t2.sz.tup _ _ e'; rw [← big_eq, ← r'.length] at this; simp only [zipD, List.length_zipWith]; omega) (it_zipT n e' r' n2 e2 r2)⟩⟩
  · cases e
    cases r1' with
    | lst n e' r' =>
      cases r2 with
      | lst n2 e2 r2 => exact ⟨_, _, _, _, rfl, .inl ⟨.inl (.inl e'), .inl (.inl e2), w3.here t2.sz t2.sim trivial (by have := t2.sz.lst _ _ e'; rw [← big_eq, ← r'.length] at this; simp only [zipD, List.length_zipWith]; omega) (it_zipL n e' r' n2 e2 r2)⟩⟩
  · exact absurd ⟨_, _, _, _, q1, q2⟩ mix
  · cases e
end
end Pf
end

section 
set_option Elab.async false
set_option linter.all false
set_option maxRecDepth 100000
set_option maxHeartbeats 1000000
/-! PfRa: enumerate, over lists and over tuples. -/
namespace Pf
open PySem PySem.Spec PyProof.Rows L2 RZ
def eCell (n : Addr) : Obj := { cls := .type "enumerate", data := .fields #[.none, .bool false, .ref n, rawInt 0, .none, .none] }
/-- enumerate(v): what is made -/
theorem enum_made {v : Value} {ob : Obj} {Hh : Heap → Prop} (B : Begins v ob Hh) :
    Meets (Builtin.«enumerate.__new__» ⟨[.type "enumerate", v], []⟩) (fun _ R s => Hh s.heap ∧
      R (.ok (.ret (.ref (s.heap.push ob).objs.size))) { s with heap := (s.heap.push ob).push (eCell s.heap.objs.size) }) :=
  .of_wp fun prog w A R st hyp => by
    obtain ⟨hp, g, d, tk, os⟩ := st
    obtain ⟨hy1, hy2⟩ := hyp
    have sb := sub_enumerate
    have it1 : ∀ {A' : Around} {E : Value → Shared → Prop} {Q : Value → Shared → Prop}, Q (.ref hp.objs.size) ⟨hp.push ob, g, d, tk, os⟩ → wpAny (model prog w) A' (pyIter v) Q E ⟨hp, g, d, tk, os⟩ :=
      fun qq => B.iter prog w _ _ ⟨hp, g, d, tk, os⟩ _ hy1 qq
    wp_walk using it1
    refine wpAny_stack_any fun stk => wpAny_pure ?_
    split
    · rename_i cc _ _ _ _ _
      cases (cc == Value.type "enumerate")
      · wp_walk using it1
        exact ⟨_, rfl, hy2⟩
      · wp_walk using it1
        exact ⟨_, rfl, hy2⟩
    · wp_walk using it1
      exact ⟨_, rfl, hy2⟩
theorem enum_call {prog : Program} {w : World} {A : Around} {E : Value → Shared → Prop} {s : Shared} {v : Value} {ob : Obj} {Hh : Heap → Prop} {Q : Value → Shared → Prop} (B : Begins v ob Hh) (h1 : Hh s.heap)
    (h : ∀ h', IsEnum h' (s.heap.objs.size + 1) s.heap.objs.size 0 .none → h'.get? s.heap.objs.size = some ob → (∀ b o, s.heap.get? b = some o → h'.get? b = some o) → Q (.ref (s.heap.objs.size + 1)) { s with heap := h' }) :
    wpAny (model prog w) A (call (.type "enumerate") [v]) Q E s := by
  refine callType_new F.called_enumerate (by decide) (F.typeCall_enumerate_1 _) (F.newCall_enumerate_1 _) (fun obj => F.args_object_init_2 obj _) F.entry_enumerate_new (enum_made B) ⟨h1, ?_⟩
  have sz : (s.heap.push ob).objs.size = s.heap.objs.size + 1 := Heap.size_push ..
  show _ ∧ _
  rw [sz]
  have en : IsEnum ((s.heap.push ob).push (eCell s.heap.objs.size)) (s.heap.objs.size + 1) s.heap.objs.size 0 .none := by
    have q := Heap.get?_push_size (s.heap.push ob) (o := eCell s.heap.objs.size) rfl
    rw [sz] at q
    exact q
  exact ⟨⟨_, en, rfl⟩, h _ en (Heap.get?_push_of_some _ (Heap.get?_push_size _ B.free)) fun b o x => Heap.get?_push_of_some _ (Heap.get?_push_of_some _ x)⟩
/-- the tuple at a, each item in a new pair -/
def IteT (K : PySem.W.Frag) (a : Addr) : It :=
  ⟨fun i H => ∃ (xs : List V) (x : V), SqT K H a xs ∧ xs[i]? = some x, fun i H v H' => ∃ T x, v = .ref T ∧ H T = none ∧ H' = upd H T (.tup [.int (i : Nat), x]) ∧ ∀ xs, SqT K H a xs → xs[i]? = some x, fun i H => ∃ xs : List V, SqT K H a xs ∧ xs.length = i⟩
theorem turn_enT {Pm : Program} {w : World} {K : PySem.W.Frag} {els : List Expr} {kk : Nat} {tp : Pos} (a e it : Addr) (ai : a ≠ it) (ea : e ≠ a) :
    Turn Pm w K (.Tuple els kk tp) (IteT K a) [e, it] e (fun i h => (∃ old, IsEnum h e it ((i : Nat) : Int) old) ∧ h.IsTupleIter it a i ∧ e ≠ it) where
  mem := by simp
  obj := fun i h st b hb => by
    obtain ⟨⟨old, hen⟩, ⟨o, ho, hc, hd⟩, _⟩ := st
    have cs : b = e ∨ b = it := by simpa using hb
    rcases cs with z | z
    · rw [z]; exact ⟨_, hen, fun v q => nomatch q⟩
    · rw [z]; exact ⟨o, ho, fun v q => by rw [hd] at q; cases q⟩
  keep := fun i h h' st k => let ⟨⟨old, hen⟩, hi, hne⟩ := st; ⟨⟨old, k e (by simp) _ hen⟩, hi.at fun o q => k it (by simp) o q, hne⟩
  item := by
    intro X hP hw hK hc i pins s σ H E I hf st hg
    subst hP hw hK
    obtain ⟨⟨old, hen⟩, hit, hne⟩ := st
    obtain ⟨xs, x, hq, hx⟩ := hg
    obtain ⟨its, rv, pt, hz⟩ := I.tuple hq
    obtain ⟨u, hu, ru⟩ := rv.get hx
    have le1 : e < s.heap.objs.size := Heap.lt_size hen
    have le2 : it < s.heap.objs.size := by obtain ⟨_, q, _⟩ := hit; exact Heap.lt_size q
    have hh : X.A.in1.handled = none := by have := I.ok.hd hc; simpa using this
    have isT : s.heap.IsTuple a its.toArray := pt
    refine wpAny_pyNext_enum_itemD (Draws.tuple (prog := X.prog) (w := X.w) hh it a ai its.toArray) hen ⟨hit, isT⟩ (by have := (List.getElem?_eq_some_iff.mp hu).1; simpa using this) hne (by simp [hne, ea]) fun y h' tk hP ho st' hT hsz hk => ?_
    have ey : y = u := by
      have hP : its.toArray[i]? = some y := hP
      rw [show its.toArray[i]? = some u by simpa using hu] at hP
      exact (Option.some.inj hP).symm
    subst ey
    refine ⟨_, rfl, wpAny_letOwnedTupleGo_enum (s := { s with heap := h', toks := tk + 1 }) ho fun h'' en2 sb => ?_⟩
    have hT2 : h''.get? s.heap.objs.size = some { cls := .type "tuple", data := .seq #[.int i tk, y] } := (sb.2 _ (Nat.ne_of_gt le1)).trans hT
    have nw : ObjOk X.prog X.w (upd H s.heap.objs.size (.tup [.int (i : Nat), x])) h'' s.heap.objs.size (.tup [.int (i : Nat), x]) :=
      ⟨by show 2 ≤ sizeLine; decide, [.int i tk, y], .cons ⟨_, rfl⟩ (.cons ru .nil), ⟨_, hT2, rfl, _, rfl⟩⟩
    have J : Inv X pins σ (upd H s.heap.objs.size (.tup [.int (i : Nat), x])) { s with heap := h'', toks := tk + 1 } :=
      I.turnedNew (ch := [e, it]) (fun b ob hb q => (sb.2 b (fun z => hb (by simp [z]))).trans (hk b ob (fun z => hb (by simp [z])) (fun z => hb (by simp [z])) q)) hf (Nat.le_refl _) nw
    refine ⟨.ref s.heap.objs.size, _, J, rfl, ⟨_, x, rfl, I.hok.fresh (Nat.le_refl _), rfl, fun ys hy => by rw [I.tuple_inj hy hq]; exact hx⟩, ⟨⟨y, ?_⟩, st'.1.at fun o q => (sb.2 it (Ne.symm hne)).trans q, hne⟩, fun b hb => ?_⟩
    · rw [show ((i + 1 : Nat) : Int) = (i : Int) + 1 by omega]; exact en2
    · have lb : b < s.heap.objs.size := by
        have cs : b = e ∨ b = it := by simpa using hb
        rcases cs with z | z
        · rw [z]; exact le1
        · rw [z]; exact le2
      rw [upd_ne (Nat.ne_of_lt lb)]
      exact (hf b hb).1
  done := by
    intro X hP hw hK hc i pins s σ H E I hf st hg
    subst hP hw hK
    obtain ⟨⟨old, hen⟩, hit, hne⟩ := st
    obtain ⟨xs, hq, hx⟩ := hg
    obtain ⟨its, rv, pt, hz⟩ := I.tuple hq
    obtain ⟨f0, f1, f2, f3, f4, f5⟩ := hf it (by simp)
    have hl := rv.length
    have hh : X.A.in1.handled = none := by have := I.ok.hd hc; simpa using this
    have isT : s.heap.IsTuple a its.toArray := pt
    refine wpAny_pyNext_enum_endD (Draws.tuple (prog := X.prog) (w := X.w) hh it a ai its.toArray) hen ⟨by rw [show its.toArray.size = i by simp; omega]; exact hit, isT⟩ fun h' eb => ⟨rfl, I.turned (t' := s.toks) (fun b o hb q => eb b o hb q) f0 f1 f3 f4 f5⟩
  self := fun A i s Q E st h => let ⟨⟨_, hen⟩, _⟩ := st; wpAny_pyIter_enum hen h
def iEnT (K : PySem.W.Frag) (ta : TA) : TI := fun σ H R => ta σ H fun vs H1 => ∃ a xs, vs = [.ref a] ∧ SqT K H1 a xs ∧ R (IteT K a) H1
theorem pi_enT {X : Cx} {e : Expr} {ta : TA} {p pos tp : Pos} {els : List Expr} {kk : Nat} (hg : Gl X "enumerate") (hm : X.mg "enumerate" = none) (ha : PA X [e] ta) (hs : starEach [e] X.env = [(false, eval e X.env)] := by rfl) :
    PI X (.Tuple els kk tp) (.Call (.Name "enumerate" p) [e] [] pos) (iEnT X.K ta) := by
  refine ⟨fun pins s σ H R I h => ?_⟩
  refine Call_ (ld_blt I hg hm boot_enumerate (PyProof.Rows.callWith_type1 (thn (ha.run pos pins s σ H _ I h) fun us s1 ⟨vs, H1, I1, r1, q1⟩ => ?_) hs rfl))
  obtain ⟨a, xs, rfl, hq, q⟩ := q1
  cases r1 with
  | cons r rr =>
    cases rr
    cases r
    obtain ⟨its, rv, pt, hz⟩ := I1.tuple hq
    have isT : s1.heap.IsTuple a its.toArray := pt
    have la : a < s1.heap.objs.size := by obtain ⟨_, q, _⟩ := pt; exact Heap.lt_size q
    refine enum_call (begins_tuple a its.toArray) isT fun h' en hit hk => wpAny_pyIter_enum en ?_
    have I2 : Inv X pins σ H1 { s1 with heap := h' } := I1.kept (t' := s1.toks) hk
    refine ⟨s1.heap.objs.size + 1, [s1.heap.objs.size + 1, s1.heap.objs.size], _, _, H1, rfl, I2, turn_enT a (s1.heap.objs.size + 1) s1.heap.objs.size (Nat.ne_of_lt la) (Nat.ne_of_gt (Nat.lt_succ_of_lt la)), ⟨⟨.none, en⟩, ⟨_, hit, rfl, rfl⟩, Nat.succ_ne_self _⟩, fun b hb => ?_, q⟩
    have le : s1.heap.objs.size ≤ b := by
      have cs : b = s1.heap.objs.size + 1 ∨ b = s1.heap.objs.size := by simpa using hb
      rcases cs with z | z
      · rw [z]; exact Nat.le_add_right _ _
      · rw [z]; exact Nat.le_refl _
    exact I1.fpOk le (I1.hok.fresh le)
/-! ### the own reading -/
theorem enumL_get : ∀ (n : Nat) (xs : List D) (i : Nat), (enumL n xs)[i]? = xs[i]?.map fun x => .tup [.int ((n + i : Nat) : Int), x]
  | n, [], i => by simp [enumL]
  | n, x :: xs, 0 => by simp [enumL]
  | n, x :: xs, i + 1 => by
    simp only [enumL, List.getElem?_cons_succ, enumL_get (n + 1) xs i]
    rw [show n + 1 + i = n + (i + 1) by omega]
theorem enumL_len : ∀ (n : Nat) (xs : List D), (enumL n xs).length = xs.length
  | _, [] => rfl
  | n, x :: xs => by simp [enumL, enumL_len (n + 1) xs]
section
variable {X : Cx} {F : Fx} {W : WX} {a b c e tg iter : Expr} {f g h : SemE D} {pos p : Pos}
theorem it_enT {μ : Mu} {H : Hp} {t : Addr} {ds : List D} {vs : List V} (n : t ∉ μ) (e : H t = some (.tup vs)) (r : F.RelL μ H ds vs) : ItB F μ H (IteT X.K t) ⟨enumL 0 ds, none⟩ := by
  refine ItR.both fun μ₀ H₀ k1 k2 _ => ?_
  obtain ⟨n0, e0⟩ := k1 t _ n e
  have r0 : F.RelL μ₀ H₀ ds vs := r.imp k2
  refine ⟨fun i d μ S H' eg st sim _ => ?_, fun μ S H' st _ _ => ?_⟩
  · have e2 := st.keep t _ (Mu.nin n0) e0
    have eg : (enumL 0 ds)[i]? = some d := eg
    rw [enumL_get] at eg
    obtain ⟨dx, g1, rfl⟩ := Option.map_eq_some_iff.mp eg
    obtain ⟨x, hx, rx⟩ := r0.get g1
    refine ⟨⟨vs, x, .inl (.inl e2), hx⟩, fun z H2 q => ?_⟩
    obtain ⟨T, x', rfl, nT, rfl, q1⟩ := q
    have h1 := q1 vs (.inl (.inl e2))
    rw [hx] at h1
    cases h1
    rw [Nat.zero_add]
    exact pair_new sim nT (.int _) (rx.mono st)
  · have e2 := st.keep t _ (Mu.nin n0) e0
    exact ⟨vs, .inl (.inl e2), by show vs.length = (enumL 0 ds).length; rw [enumL_len, r0.length]⟩
theorem it_enL {μ : Mu} {H : Hp} {t : Addr} {ds : List D} {vs : List V} (n : t ∉ μ) (e : H t = some (.lst vs)) (r : F.RelL μ H ds vs) : ItB F μ H (Ite X.K t) ⟨enumL 0 ds, none⟩ := by
  refine ItR.both fun μ₀ H₀ k1 k2 _ => ?_
  obtain ⟨n0, e0⟩ := k1 t _ n e
  have r0 : F.RelL μ₀ H₀ ds vs := r.imp k2
  refine ⟨fun i d μ S H' eg st sim _ => ?_, fun μ S H' st _ _ => ?_⟩
  · have e2 := st.keep t _ (Mu.nin n0) e0
    have eg : (enumL 0 ds)[i]? = some d := eg
    rw [enumL_get] at eg
    obtain ⟨dx, g1, rfl⟩ := Option.map_eq_some_iff.mp eg
    obtain ⟨x, hx, rx⟩ := r0.get g1
    refine ⟨⟨vs, x, .inl (.inl e2), hx⟩, fun z H2 q => ?_⟩
    obtain ⟨T, x', rfl, nT, rfl, q1⟩ := q
    have h1 := q1 vs (.inl (.inl e2))
    rw [hx] at h1
    cases h1
    rw [Nat.zero_add]
    exact pair_new sim nT (.int _) (rx.mono st)
  · have e2 := st.keep t _ (Mu.nin n0) e0
    exact ⟨vs, .inl (.inl e2), by show vs.length ≤ (enumL 0 ds).length; rw [enumL_len, r0.length]; exact Nat.le_refl _⟩
theorem it_enR {μ : Mu} {H : Hp} {t : Addr} {i : Nat} {ds : List D} (h : μ.nm[i]? = some t) : ItB F μ H (Ite X.K t) ⟨enumL 0 ds, some (i, .lst ds)⟩ := by
  refine ItR.both fun μ₀ H₀ _ _ k3 => ?_
  have h0 := k3 i t h
  refine ⟨fun j d μ S H' eg st sim hw => ?_, fun μ S H' st sim hw => ?_⟩
  · obtain ⟨a, ha, vs, e1, r⟩ := sim.at hw
    have gg := st.get h0
    rw [ha] at gg
    cases gg
    have eg : (enumL 0 ds)[j]? = some d := eg
    rw [enumL_get] at eg
    obtain ⟨dx, g1, rfl⟩ := Option.map_eq_some_iff.mp eg
    obtain ⟨x, hx, rx⟩ := r.get g1
    refine ⟨⟨vs, x, .inl (.inl e1), hx⟩, fun z H2 q => ?_⟩
    obtain ⟨T, x', rfl, nT, rfl, q1⟩ := q
    have h1 := q1 vs (.inl (.inl e1))
    rw [hx] at h1
    cases h1
    rw [Nat.zero_add]
    exact pair_new sim nT (.int _) rx
  · obtain ⟨a, ha, vs, e1, r⟩ := sim.at hw
    have gg := st.get h0
    rw [ha] at gg
    cases gg
    exact ⟨vs, .inl (.inl e1), by show vs.length ≤ (enumL 0 ds).length; rw [enumL_len, r.length]; exact Nat.le_refl _⟩
theorem sndI_enum (ok : Ok X F) {elts : List Expr} {kk : Nat} {tpos : Pos} (hg : Gl X "enumerate") (hm : X.mg "enumerate" = none) (hs : notStar a = true) (ha : PE X a (tE F W f)) :
    PI X (.Tuple elts kk tpos) (.Call (.Name "enumerate" p) [a] [] pos) (tI F W fun ρ S => (f ρ S).bind fun d S1 => Out.opt S1 (walkEnum S1 d)) := by
  have hA : PA X [a] (tCons (tE F W f) tNil) := pa_cons ha pa_nil (star_cons hs)
  have hst : starEach [a] X.env = [(false, eval a X.env)] := by rw [star_cons hs]; rfl
  refine pi_of fun σ H R μ ρ S z c w => ?_
  cases o : f ρ S with
  | stuck => rw [o] at w; exact w.elim
  | exn k x S1 =>
    rw [o] at w
    refine ⟨_, pi_enum hg hm hA hst, tG.of c ?_⟩
    rw [o]
    exact w
  | ok d S1 =>
    rw [o] at w
    obtain ⟨wk, e, w2⟩ := WishI.opt (show WishI F W σ μ H (Out.opt S1 (walkEnum S1 d)) R from w)
    unfold walkEnum at e
    split at e
    · cases e
      refine ⟨_, pi_enT hg hm hA hst, tG.of c ?_⟩
      rw [o]
      intro μ1 H1 v t1 r1
      cases r1 with
      | tup n e' r' => exact ⟨_, _, rfl, .inl (.inl e'), w2 μ1 H1 _ t1 trivial (by show (enumL 0 _).length ≤ _; rw [enumL_len, r'.length, big_eq]; exact t1.sz.tup _ _ e') (it_enT n e' r')⟩
    · cases e
      refine ⟨_, pi_enum hg hm hA hst, tG.of c ?_⟩
      rw [o]
      intro μ1 H1 v t1 r1
      cases r1 with
      | lst n e' r' => exact ⟨_, _, rfl, .inl (.inl e'), w2 μ1 H1 _ t1 trivial (by show (enumL 0 _).length ≤ _; rw [enumL_len, r'.length, big_eq]; exact t1.sz.lst _ _ e') (it_enL n e' r')⟩
    · split at e
      · rename_i i _ xs hi
        cases e
        refine ⟨_, pi_enum hg hm hA hst, tG.of c ?_⟩
        rw [o]
        intro μ1 H1 v t1 r1
        cases r1 with
        | ref h =>
          obtain ⟨a', ha', vs, e1, r⟩ := t1.sim.at hi
          rw [h] at ha'
          cases ha'
          exact ⟨_, _, rfl, .inl (.inl e1), w2 μ1 H1 _ t1 hi (by show (enumL 0 _).length ≤ _; rw [enumL_len, r.length, big_eq]; exact t1.sz.lst _ _ e1) (it_enR h)⟩
      · cases e
    · cases e
end
end Pf
end

section 
set_option Elab.async false
set_option linter.all false
set_option maxRecDepth 100000
set_option maxHeartbeats 1000000
/-! PfXe: min, remove, index of a tuple, x[::-1], dict(d), a, b = e, e'. -/
namespace Pf
open PySem PySem.Spec PyProof.Rows L2
section
variable {X : Cx} {F : Fx} {W : WX} {a b c e o : Expr} {f g h : SemE D} {pos p apos cpos : Pos}
theorem c_min1 (ok : OkC X F) : CallR X (.builtin "min") (rC F fun S ds => biOp S .min1 ds) := by
  refine callr_of fun xs H Q μ S ds d z sim r e w => ?_
  unfold biOp at e
  split at e <;> try contradiction
  obtain ⟨x, rfl, rx⟩ := RelL.one r
  obtain ⟨ys, e1, e2⟩ := Option.bind_eq_some_iff.mp e
  unfold minOp at e2
  obtain ⟨m, e3, rfl⟩ := Option.map_eq_some_iff.mp e2
  obtain ⟨ns, e4, em⟩ := Option.bind_eq_some_iff.mp e3
  obtain ⟨a, vs, rfl, h1, q1⟩ := lstOf_rel sim rx e1
  obtain ⟨_, rfl⟩ := q1.of_ints e4
  obtain ⟨m1, m2⟩ := minI_spec em
  refine ⟨_, cr_min ok.calm, a, ns, rfl, .inl (.inl h1), List.length_pos_of_mem m1, fun m' h1' h2' => ?_⟩
  have : m' = m := Int.le_antisymm (h2' m m1) (m2 m' h1')
  subst this
  exact Then.same w sim (.int _)
theorem erase_first : ∀ (ns : List Int) (k : Int), k ∈ ns → ∃ j : Nat, ns[j]? = some k ∧ (∀ m : Nat, m < j → ns[m]? ≠ some k) ∧ ns.eraseIdx j = ns.erase k ∧ ns.idxOf k = j
  | [], k, h => by cases h
  | n :: ns, k, h => by
    by_cases q : n = k
    · subst q
      exact ⟨0, rfl, fun m hm => absurd hm (Nat.not_lt_zero _), by simp, by simp⟩
    · have hk : k ∈ ns := by
        rcases List.mem_cons.mp h with z | z
        · exact absurd z.symm q
        · exact z
      obtain ⟨j, h1, h2, h3, h4⟩ := erase_first ns k hk
      refine ⟨j + 1, by simpa using h1, fun m hm => ?_, ?_, ?_⟩
      · cases m with
        | zero => simp [q]
        | succ m => simpa using h2 m (by omega)
      · rw [List.eraseIdx_cons_succ, h3, List.erase_cons, if_neg (by simp [q])]
      · rw [List.idxOf_cons, show (n == k) = false by simpa using q, h4]
        rfl
theorem m_remove (ok : Ok X F) : MtR X "list.remove" (rM F fun S => mtOp S .remove) := by
  refine mtr_of fun x xs H Q μ S d ds y S' z sim r1 r2 e w => ?_
  unfold mtOp at e
  split at e <;> try contradiction
  rename_i i k _
  split at e
  · rename_i ys hy
    obtain ⟨ns, e1, e2⟩ := Option.bind_eq_some_iff.mp e
    simp only [Option.ite_none_right_eq_some, Option.some.injEq, Prod.mk.injEq] at e2
    obtain ⟨hk, rfl, rfl⟩ := e2
    obtain ⟨p, vs, rfl, hμ, hp, q⟩ := ref_lst sim r1 hy
    obtain ⟨_, rfl⟩ := q.of_ints e1
    obtain ⟨u, rfl, ru⟩ := RelL.one r2
    cases ru
    obtain ⟨j, j1, j2, j3, _⟩ := erase_first ns k hk
    refine ⟨_, mt_remove, p, ns, k, j, rfl, rfl, hp, j1, j2, ?_⟩
    rw [j3]
    exact Then.putL w sim hμ (RelL.ints _) .non
  · cases e
theorem mt_tindexI : MtR X "tuple.index" (fun x xs H Q => ∃ (p : Addr) (ys : List Int) (z : Int) (j : Nat), x = .ref p ∧ xs = [.int z] ∧ SqT X.K H p (ys.map V.int) ∧ ys[j]? = some z ∧ (∀ m, m < j → ys[m]? ≠ some z) ∧ Q (.int (j : Nat)) H) := by
  intro pins s σ H x xs v us Q I rx rs h
  obtain ⟨p, ys, z, j, rfl, rfl, hq, hy, hno, q⟩ := h
  cases rx
  obtain ⟨u, rfl, ru⟩ := Vals.one rs
  obtain ⟨tk, rfl⟩ := ru
  obtain ⟨its, r, pl, hz⟩ := I.tuple hq
  obtain ⟨⟨cl, dd, dt, sl⟩, ho, hc, n, hd⟩ := pl
  simp only at hc hd
  subst hc hd
  have len : its.toArray.size = ys.length := by rw [List.size_toArray, ← r.length, List.length_map]
  have hj : j < its.toArray.size := by rw [len]; exact (List.getElem?_eq_some_iff.mp hy).1
  have fl : (ys.map V.int).all flatV = true := by
    rw [List.all_eq_true]
    intro x hx
    obtain ⟨i, _, rfl⟩ := List.mem_map.mp hx
    rfl
  have each : ∀ (m : Nat) (hm : m < its.toArray.size), ∃ y t', ys[m]? = some y ∧ its.toArray[m] = Value.int y t' := fun m hm => by
    have hm2 : m < ys.length := by rw [← len]; exact hm
    obtain ⟨w, hw, t', hw'⟩ := r.get (i := m) (x := .int ys[m]) (by simp [hm2])
    refine ⟨ys[m], t', List.getElem?_eq_getElem hm2, ?_⟩
    have e1 := (List.getElem?_eq_some_iff.mp hw).2
    rw [← hw', ← e1]
    simp
  refine call_meets PySem.F.slot_tuple_index ⟨_, ho, rfl⟩ PySem.F.entry_tuple_index (PySem.F.args_tuple_index_2 _ _) (TI.tuple_indexAt p its.toArray n dd sl (.int z tk) (eqU (.int z)) j hj ?_ ?_) ⟨ho, fun w hw => mem_eqAt (x := .int z) ⟨tk, rfl⟩ rfl r fl w (by simpa using hw), ⟨.int (j : Nat), H, I.tok _, ⟨_, rfl⟩, q⟩⟩
  · obtain ⟨y, t', h1, h2⟩ := each j hj
    rw [hy] at h1
    cases h1
    rw [h2]
    simp [eqU, eqV]
  · intro m hm hmj
    obtain ⟨y, t', h1, h2⟩ := each m hm
    rw [h2]
    have ne : y ≠ z := fun e => hno m hmj (e ▸ h1)
    simp [eqU, eqV, ne]
theorem m_tindex (ok : Ok X F) : MtR X "tuple.index" (rM F fun S => mtOp S .tindex) := by
  refine mtr_of fun x xs H Q μ S d ds y S' z sim r1 r2 e w => ?_
  unfold mtOp at e
  split at e <;> try contradiction
  rename_i zs k _
  obtain ⟨ns, e1, e2⟩ := Option.bind_eq_some_iff.mp e
  simp only [Option.ite_none_right_eq_some, Option.some.injEq, Prod.mk.injEq] at e2
  obtain ⟨hk, rfl, rfl⟩ := e2
  cases r1 with
  | tup n1 h1 q1 =>
    obtain ⟨_, rfl⟩ := q1.of_ints e1
    obtain ⟨u, rfl, ru⟩ := RelL.one r2
    cases ru
    obtain ⟨j, j1, j2, _, j4⟩ := erase_first ns k hk
    refine ⟨_, mt_tindexI, _, ns, k, j, rfl, rfl, .inl (.inl h1), j1, j2, ?_⟩
    rw [j4] at w
    exact Then.same w sim (.int _)
theorem snd_revL (ok : Ok X F) {k : Nat} {p1 p2 p3 : Pos} (ha : PE X a (tE F W f)) : PE X (.Subscript a (.Slice none none (some (.UnaryOp .USub (.Constant (.int 1) k p1) p2)) p3) pos) (tE F W fun ρ S => (f ρ S).bind fun x S1 => Out.opt S1 (revOp S1 x)) := by
  refine pe_of fun σ H Q μ ρ S z c w => ⟨_, pe_revL ha, ?_⟩
  refine tG.of c (Wish.bind w fun d S1 μ1 H1 v t1 r1 w1 => ?_)
  obtain ⟨d', e, w2⟩ := Wish.opt w1
  unfold revOp at e
  split at e
  · rename_i zs h1
    cases e
    obtain ⟨a', vs, rfl, e1, q1⟩ := res_lst t1.sim r1 h1
    refine ⟨a', vs, rfl, .inl (.inl e1), fun p np z' => w2 μ1 _ _ ⟨z', Step.alloc np, t1.sim.alloc np⟩ (.lst (t1.sim.fresh np) upd_same (q1.reverse.up np))⟩
  · cases e
theorem snd_dictN (ok : Ok X F) (hg : Gl X "dict") (hm : X.mg "dict" = none) (hs : notStar e = true) (ha : PE X e (tE F W f)) :
    PE X (.Call (.Name "dict" p) [e] [] pos) (tN F W fun ρ S => (consS f (fun _ S => .ok [] S) ρ S).bind fun ds S1 => Out.opt S1 (biOp S1 .dict ds)) := by
  have hA : PA X [e] (tA F W (consS f fun _ S => .ok [] S)) := snd_cons hs ha snd_nil
  refine pn_of fun σ H Q μ ρ S z c w => ⟨_, pe_callTy call_dictD hg hm PyProof.Rows.boot_dict hA (by decide) (by decide) (star_cons hs) rfl, ?_⟩
  refine tG.of c (WishN.bind w fun ds S1 μ1 H1 vs t1 r1 w1 => ?_)
  obtain ⟨d, e, w2⟩ := WishN.opt w1
  unfold biOp at e
  split at e <;> try contradiction
  obtain ⟨x, rfl, rx⟩ := RelL.one r1
  split at e
  · rename_i zs vs' h1
    cases e
    obtain ⟨a', kvs, rfl, e1, rfl, q1⟩ := res_dK t1.sim rx h1
    refine ⟨a', kvs, rfl, .inl e1, fun p np z' => w2.2 μ1 H1 p (.dK kvs) z' Step.refl t1.sim np ⟨rfl, q1⟩⟩
  · cases e
/-! ### a, b = e, e' -/
def parB (sc : Scope) (x y : Str) (px py : Pos) (a b : Expr) : Bool :=
  (match sc.names.lookup x with
    | some .local => true
    | _ => false) && (match sc.names.lookup y with
    | some .local => true
    | _ => false) && (py.line == px.line) && !(x == y) && !(foldedForSure 8 a && foldedForSure 8 b) && !(constantsAlone 8 a && constantsAlone 8 b) && notStar a && notStar b
theorem parB_ok {x y : Str} {px py pt p2 : Pos} {kt k2 : Nat} (hk : X.env.scope.kind = .function) (h : parB X.env.scope x y px py a b = true) :
    X.env.scope.names.lookup x = some .local ∧ X.env.scope.names.lookup y = some .local ∧ swappedStores [.Tuple [.Name x px, .Name y py] kt pt] (.Tuple [a, b] k2 p2) X.env = pure (some [x, y]) := by
  unfold parB at h
  simp only [Bool.and_eq_true, Bool.not_eq_true'] at h
  obtain ⟨⟨⟨⟨⟨⟨⟨h1, h2⟩, h3⟩, h4⟩, h5⟩, h6⟩, h7⟩, h8⟩ := h
  have e1 : X.env.scope.names.lookup x = some .local := by
    split at h1
    · assumption
    · cases h1
  have e2 : X.env.scope.names.lookup y = some .local := by
    split at h2
    · assumption
    · cases h2
  refine ⟨e1, e2, ?_⟩
  have bk : X.env.blockKind = .function := by simp [Env.blockKind, hk]
  have k1 : X.env.kindOf x = some .local := e1
  have k2' : X.env.kindOf y = some .local := e2
  have ne : (y == x) = false := by
    rw [beq_eq_false_iff_ne] at h4 ⊢
    exact fun z => h4 z.symm
  have le : py.line = px.line := by simpa using h3
  unfold swappedStores
  simp only [bk, k1, k2', List.length_cons, List.length_nil, List.any_cons, List.any_nil, List.head?_cons, Option.map_some, Option.getD_some, Expr.pos, List.filterMap_cons, List.filterMap_nil, le, beq_self_eq_true, Bool.and_true, if_true, List.all_cons, List.all_nil]
  simp [h5, h6, List.eraseDups_cons, ne]
  intro q
  rcases q with q | q
  · cases a <;> first | (cases h7; done) | cases q
  · cases b <;> first | (cases h8; done) | cases q
def parC (sc : Scope) (x y : Str) (a b : Expr) : Bool :=
  ((match sc.names.lookup x with
    | some .cell => true
    | _ => false) || (match sc.names.lookup y with
    | some .cell => true
    | _ => false)) && notStar a && notStar b
theorem parC_ok {x y : Str} {px py pt p2 : Pos} {kt k2 : Nat} (h : parC X.env.scope x y a b = true) : swappedStores [.Tuple [.Name x px, .Name y py] kt pt] (.Tuple [a, b] k2 p2) X.env = pure none := by
  unfold parC at h
  simp only [Bool.and_eq_true, Bool.or_eq_true] at h
  obtain ⟨⟨h1, h2⟩, h3⟩ := h
  have key : X.env.kindOf x = some .cell ∨ X.env.kindOf y = some .cell := by
    rcases h1 with h1 | h1
    · left; split at h1
      · assumption
      · cases h1
    · right; split at h1
      · assumption
      · cases h1
  unfold swappedStores
  simp only [List.length_cons, List.length_nil, List.any_cons, List.any_nil, List.head?_cons, Option.map_some, Option.getD_some, Expr.pos, List.filterMap_cons, List.filterMap_nil]
  rcases key with k | k
  · by_cases q : X.env.kindOf y = some .local ∧ py.line = px.line <;> simp [k, q]
  · by_cases q : X.env.kindOf x = some .local <;> simp [k, q]
theorem sndS_parC {i j : Nat} {x y : Str} {px py pt p2 : Pos} {kt k2 : Nat} (ok : Ok X F) (hg : PG X (.Tuple [.Name x px, .Name y py] kt pt) (gT X.K (.tp [i, j]))) (hp : parC X.env.scope x y a b = true) {gs : SemE (List D)} (he : PE X (.Tuple [a, b] k2 p2) (tE F W fun ρ S => (gs ρ S).bind fun ds S1 => .ok (.tup ds) S1)) :
    PS X (.Assign [.Tuple [.Name x px, .Name y py] kt pt] (.Tuple [a, b] k2 p2) pos) (tS F W fun ρ S => (gs ρ S).res ρ fun ds S1 => match setL [i, j] ds ρ with
      | some ρ' => .nx ρ' S1
      | none => .stuck) := by
  have hw := parC_ok (X := X) (px := px) (py := py) (kt := kt) (pt := pt) (k2 := k2) (p2 := p2) hp
  refine ps_of fun σ H D μ ρ S z c w => ⟨_, ps_asg he hg rfl hw rfl, ?_⟩
  have w' : WishS F W μ H (((gs ρ S).bind fun ds S1 => (.ok (.tup ds) S1 : Out Pf.D)).res ρ fun d S1 => match (Tgt.tp [i, j]).put d ρ with
      | some ρ' => .nx ρ' S1
      | none => .stuck) D := by
    cases q : gs ρ S with
    | ok ds S1 => rw [q] at w; exact w
    | exn k x S1 => rw [q] at w; exact w
    | stuck => rw [q] at w; exact w
  refine tG.of c (WishS.res w' c.env fun d S1 μ1 H1 v t1 r1 w1 => ?_)
  cases q : (Tgt.tp [i, j]).put d ρ with
  | none => rw [q] at w1; exact w1.elim
  | some ρ' =>
    rw [q] at w1
    exact gT_ok ok.hK r1 (c.env.mono t1.st) q fun σ' e' _ z' => w1 μ1 H1 σ' ⟨z', Step.refl, t1.sim⟩ e'
theorem sndS_par {i j : Nat} {x y : Str} {px py pt p2 : Pos} {kt k2 : Nat} (ok : OkC X F) (hN : X.N.Nodup) (hi : X.N[i]? = some x) (hj : X.N[j]? = some y) (hij : i ≠ j) (hk : X.env.scope.kind = .function) (hp : parB X.env.scope x y px py a b = true) {gs : SemE (List D)} (ha : PA X [a, b] (tA F W gs)) :
    PS X (.Assign [.Tuple [.Name x px, .Name y py] kt pt] (.Tuple [a, b] k2 p2) pos) (tS F W fun ρ S => (gs ρ S).res ρ fun ds S1 => match setL [i, j] ds ρ with
      | some ρ' => .nx ρ' S1
      | none => .stuck) := by
  obtain ⟨hx, hy, hw⟩ := parB_ok (kt := kt) (pt := pt) (k2 := k2) (p2 := p2) hk hp
  refine ps_of fun σ H D μ ρ S z c w => ⟨_, ps_par ok.calm hN hi hj hij hx hy ha hw rfl, ?_⟩
  refine tG.of c (WishS.res w c.env fun ds S1 μ1 H1 vs t1 r1 w1 => ?_)
  match ds, r1, w1 with
  | [d1, d2], r1, w1 =>
    obtain ⟨v1, v2, rfl, q1, q2⟩ := RelL.two r1
    refine ⟨v1, v2, rfl, fun z' => ?_⟩
    exact w1 μ1 H1 _ ⟨z', Step.refl, t1.sim⟩ (((c.env.mono t1.st).set q1).set q2)
  | [], _, w1 => exact w1.elim
  | [_], _, w1 => exact w1.elim
  | _ :: _ :: _ :: _, _, w1 => exact w1.elim
end
end Pf
end

section 
set_option Elab.async false
set_option linter.all false
set_option maxRecDepth 100000
set_option maxHeartbeats 1000000
/-! PfXf: count and index of lists; what a def promises where an exception is handled; isinstance of that exception. -/
namespace Pf
open PySem PySem.Spec PyProof.Rows L2
section
variable {X : Cx} {F : Fx}
def rCountD (K : PySem.W.Frag) : V → List V → Hp → VK → Prop := fun x xs H Q => ∃ (a : Addr) (y : V) (d : PyData) (ds : List PyData), x = V.ref a ∧ xs = [y] ∧ Dp K H (V.ref a) (.list ds) ∧ Dp K H y d ∧
  SeqAt.shaped (.list ds) = true ∧ SeqAt.shaped d = true ∧ Q (.int ((ds.countP fun z => PyData.eqv z d : Nat) : Int)) H
theorem mt_countD (hu : X.A.units + 65 < cLine) : MtR X "list.count" (rCountD X.K) := by
  intro pins s σ H x xs v us Q I rx rxs ⟨a, y, d, ds, ex, exs, hl, hy, sl, sd, q⟩
  subst ex exs
  cases rx
  cases rxs with
  | cons ry rt =>
    rename_i uy ut
    cases rt
    obtain ⟨bs, rd⟩ := Dp.reads I d y uy hy ry
    have lay : PyData.canLayAll0 ds = true := SeqAt.canLay_of_shaped sl
    have room : X.A.units + 1 + min (PyData.depthAll ds) d.depth < cLine := room_in_shaped sd hu
    cases hl with
    | lst hs ha =>
      obtain ⟨its, rv, ⟨⟨cl, dc, dt, so⟩, n, ho, h1, h2, h3⟩, hlen⟩ := I.list hs
      simp only at h1 h3
      subst h1 h3
      obtain ⟨as, all⟩ := Dp.readsAll I ds _ its ha rv
      have em : its.map (SeqAt.readOf s.heap) = ds := SeqAt.readsAll_map ds its as lay all
      have all' : ReadsAll s.heap its.toArray.toList ds as := all
      refine call_meets PySem.F.slot_list_count ⟨_, ho, rfl⟩ PySem.F.entry_list_count (PySem.F.args_list_count_2 _ _)
        (SeqAt.list_countAt a its.toArray n dc so uy fun u => PyData.eqv (SeqAt.readOf s.heap u) d) ⟨ho, SeqAt.items_eqAt (vs := its.toArray) all' rd lay (SeqAt.canLay_of_shaped sd) room, ?_⟩
      refine ⟨V.int ((ds.countP fun z => PyData.eqv z d : Nat) : Int), H, I.tok _, ⟨s.toks, ?_⟩, q⟩
      rw [← em, List.countP_map]
      rfl
theorem lst_shaped {xs : List D} (h : xs.all (D.plain 60) = true) : SeqAt.shaped (.list (toPyL xs)) = true := by
  have hp : (D.lst xs).plain 61 = true := by simpa [D.plain] using h
  obtain ⟨h1, h2⟩ := plain_py hp
  simp only [toPy] at h1 h2
  unfold SeqAt.shaped
  rw [h1, decide_eq_true (by omega)]
  rfl
theorem count_py {x : D} (hx : x.plain 60 = true) : ∀ {xs : List D}, xs.all (D.plain 60) = true → (toPyL xs).countP (fun z => PyData.eqv z (toPy x)) = (xs.filter fun z => z.eqv x).length
  | [], _ => by simp [toPyL]
  | y :: ys, h => by
    rw [List.all_cons, Bool.and_eq_true] at h
    simp only [toPyL, List.countP_cons, List.filter_cons, count_py hx h.2, eqv_py h.1 hx]
    split <;> simp
theorem first_py {x : D} (hx : x.plain 60 = true) : ∀ {xs : List D} {n : Nat}, xs.all (D.plain 60) = true → firstAt (fun z => z.eqv x) xs = some n →
    ∃ z, (toPyL xs)[n]? = some z ∧ PyData.eqv z (toPy x) = true ∧ ∀ (m : Nat) (z' : PyData), m < n → (toPyL xs)[m]? = some z' → PyData.eqv z' (toPy x) = false
  | [], n, _, e => by simp [firstAt] at e
  | y :: ys, n, h, e => by
    rw [List.all_cons, Bool.and_eq_true] at h
    unfold firstAt at e
    by_cases q : y.eqv x = true
    · rw [if_pos q] at e
      cases e
      exact ⟨toPy y, by simp [toPyL], by rw [eqv_py h.1 hx]; exact q, fun m z' hm => absurd hm (Nat.not_lt_zero _)⟩
    · rw [if_neg q] at e
      obtain ⟨k, e1, rfl⟩ := Option.map_eq_some_iff.mp e
      obtain ⟨z, h1, h2, h3⟩ := first_py hx h.2 e1
      refine ⟨z, by simpa [toPyL] using h1, h2, fun m z' hm ez => ?_⟩
      cases m with
      | zero =>
        simp [toPyL] at ez
        subst ez
        rw [eqv_py h.1 hx]
        simpa using q
      | succ m => exact h3 m z' (by omega) (by simpa [toPyL] using ez)
theorem m_count (ok : Ok X F) : MtR X "list.count" (rM F fun S => mtOp S .count) := by
  refine mtr_of fun x xs H Q μ S d ds y S' z sim r1 r2 e w => ?_
  unfold mtOp at e
  split at e <;> try contradiction
  rename_i d1 x1 _
  obtain ⟨ys, e1, e2⟩ := Option.bind_eq_some_iff.mp e
  simp only [Option.ite_none_right_eq_some, Bool.and_eq_true, Option.some.injEq, Prod.mk.injEq] at e2
  obtain ⟨⟨p1, p2⟩, rfl, rfl⟩ := e2
  obtain ⟨u, rfl, ru⟩ := RelL.one r2
  obtain ⟨a, vs, rfl, h1, q1⟩ := lstOf_rel sim r1 e1
  have dp : Dp X.K H (.ref a) (.list (toPyL ys)) := by
    rw [ok.hK]
    exact .lst (.inl (.inl h1)) (RelL.dp (n := 60) (by simpa using p2) q1)
  refine ⟨_, mt_countD (by have := ok.hu; omega), a, u, _, _, rfl, rfl, dp, by rw [ok.hK]; exact Rel.dp p1 ru, lst_shaped p2, plain_shaped p1, ?_⟩
  rw [count_py p1 p2]
  exact Then.same w sim (.int _)
theorem m_index (ok : Ok X F) : MtR X "list.index" (rM F fun S => mtOp S .index) := by
  refine mtr_of fun x xs H Q μ S d ds y S' z sim r1 r2 e w => ?_
  unfold mtOp at e
  split at e <;> try contradiction
  rename_i d1 x1 _
  obtain ⟨ys, e1, e2⟩ := Option.bind_eq_some_iff.mp e
  simp only [Option.ite_none_right_eq_some, Bool.and_eq_true] at e2
  obtain ⟨⟨p1, p2⟩, e2⟩ := e2
  obtain ⟨n', e3, e4⟩ := Option.map_eq_some_iff.mp e2
  cases e4
  obtain ⟨n, e6, e5⟩ := Option.bind_eq_some_iff.mp e3
  cases e5
  obtain ⟨u, rfl, ru⟩ := RelL.one r2
  obtain ⟨a, vs, rfl, h1, q1⟩ := lstOf_rel sim r1 e1
  have dp : Dp X.K H (.ref a) (.list (toPyL ys)) := by
    rw [ok.hK]
    exact .lst (.inl (.inl h1)) (RelL.dp (n := 60) (by simpa using p2) q1)
  obtain ⟨zz, g1, g2, g3⟩ := first_py p1 p2 e6
  exact ⟨_, mt_indexD (by have := ok.hu; omega), a, u, _, _, n, zz, rfl, rfl, dp, by rw [ok.hK]; exact Rel.dp p1 ru, lst_shaped p2, plain_shaped p1, g1, g2, g3, Then.same w sim (.int _)⟩
end
/-! ### where an exception is handled -/
/-- the exception that is handled: its place, its object, its class; it has no fields of its own -/
structure Held (A : Around) (a : Addr) (oe : Obj) (cls : Value) : Prop where
  hd : A.handled = some (.ref a)
  zn : L2N.Zn cls none oe
  fs : ∃ z, oe.data = .fields z
/-- a def keeps a promise there -/
structure FnX (P : Program) (w : World) (K : PySem.W.Frag) (mg : Str → Option Value) (base : Heap) (k : Nat) (f : Addr) (fd : FuncData) (ps : List Str) (a : Addr) (cls : Value) (sp : Sp) : Prop where
  len : ∀ vs H Q E, sp vs H Q E → vs.length = ps.length
  run : ∀ A outer s H args us vs Q E oe, L2H.RoomH k A → A.guards = some [] → Held A a oe cls → L2H.PinOk outer H s (a, oe) → Env0 P w K mg base A outer s H → BindsTo s fd args (ps.zip us) → Vals vs us → sp vs H Q E → codeAny (model P w) A (.call (.ref f) args) (CR (L2N.CX P w) outer P w H s Q E) s
structure CallX (X : Cx) (F : Fx) (k : Nat) (a : Addr) (cls : Value) (x : Str) (n : Nat) (g : List D → Sto → Out D) : Prop where
  ex : ∃ (f : Addr) (fd : FuncData) (ps : List Str), FnX X.prog X.w X.K X.mg X.base k f fd ps a cls (spF F n g) ∧ X.mg x = some (.ref f) ∧ PySem.W.keepIn X.K (.ref f) = true ∧ Binds X.K fd ps []
  len : ∀ ds S, g ds S ≠ .stuck → ds.length = n
section
variable {X : Cx} {F : Fx} {W : WX} {e : Expr} {pos p : Pos}
theorem pin_ok {pins : List (Addr × Obj)} {σ : St} {H : Hp} {s : Shared} {q : Addr × Obj} (I : Inv X pins σ H s) (hq : q ∈ X.pn) : L2H.PinOk X.stack H s q := by
  obtain ⟨h1, h2, h3, h4, h5⟩ := I.pin q (List.mem_append_left _ hq)
  refine ⟨h1, h2, fun hm => ?_, h5⟩
  rcases List.mem_cons.mp (I.stkSub q.1 hm) with z | z
  · exact h3 z
  · exact h4 z
theorem pe_callX {k : Nat} {f a : Addr} {oe : Obj} {cls : Value} {fd : FuncData} {ps : List Str} {sp : Sp} {x : Str} {es : List Expr} {t : TA} (G : FnX X.prog X.w X.K X.mg X.base k f fd ps a cls sp) (hr : L2H.RoomH k X.A) (hgd : X.A.guards = some []) (hh : Held X.A a oe cls) (hp : (a, oe) ∈ X.pn) (tk : L2N.Takes X W) (hg : Gl X x) (hm : X.mg x = some (.ref f))
    (hk : PySem.W.keepIn X.K (.ref f) = true) (hb : Binds X.K fd ps []) (ha : PA X (e :: es) t) (hd : (x == ("__debug__" : Str)) = false) (he : notStar e = true) (hs : es.all notStar = true) :
    PE X (.Call (.Name x p) (e :: es) [] pos) (tCallS sp (WE W) t) := by
  constructor
  intro pins s σ H Q I hq
  apply wpAny_Call_Name_kw
  apply ld_glob I hg hm _ hd
  refine PySem.W.callWith_K (h₀ := X.base) I.ok.mod.kin hk ?_ (star_cons he) (star_none hs)
  refine thn (ha.run pos pins s σ H _ I hq) ?_
  rintro us s1 ⟨vs, H1, I1, rv, q⟩
  refine ⟨I1.kIn, ?_⟩
  have hl : us.length = ps.length := rv.length.symm.trans (G.len _ _ _ _ q)
  have bb := hb s1 us I1.kIn (by simpa using hl)
  simp only [List.append_nil] at bb
  apply wpAny_call
  refine codeAny_mono (G.run X.A X.stack s1 H1 ⟨us, []⟩ us vs Q (WE W σ) oe hr hgd hh (pin_ok I1 hp) I1.env0 bb rv q) ?_
  intro r s2 hq2
  cases r with
  | error x => exact L2N.passAt tk σ pins H1 s1 x s2 I1 hq2
  | ok fl => cases fl <;> first
    | exact I1.after hq2
    | exact False.elim hq2
theorem snd_callX (ok : Ok X F) {k n : Nat} {a : Addr} {oe : Obj} {cls : Value} {x : Str} {es : List Expr} {gs : SemE (List D)} {φ : List D → Sto → Out D} (tk : L2N.Takes X W) (hr : L2H.RoomH k X.A) (hh : Held X.A a oe cls) (hp : (a, oe) ∈ X.pn) (C : CallX X F k a cls x n φ) (hg : Gl X x) (hd : (x == ("__debug__" : Str)) = false) (hs : (e :: es).all notStar = true) (ha : PA X (e :: es) (tA F W gs)) :
    PE X (.Call (.Name x p) (e :: es) [] pos) (tE F W fun ρ S => (gs ρ S).bind fun ds S1 => φ ds S1) := by
  obtain ⟨f, fd, ps, FO, hm, hk, hb⟩ := C.ex
  rw [List.all_cons, Bool.and_eq_true] at hs
  refine pe_of fun σ H Q μ ρ S z c w => ⟨_, pe_callX FO hr ok.gd hh hp tk hg hm hk hb ha hd hs.1 hs.2, ?_⟩
  refine tG.of c (Wish.bind w fun ds S1 μ1 H1 vs t1 r1 w1 => ?_)
  refine ⟨?_, fun z => ⟨μ1, S1, ds, t1.sim, r1, ?_⟩⟩
  · rw [← r1.length]
    refine C.len ds S1 fun q => ?_
    rw [q] at w1
    exact w1
  · cases o : φ ds S1 with
    | ok d S2 => rw [o] at w1; exact fun μ' H' v to r _ => w1 μ' H' v to r
    | exn c x S2 => rw [o] at w1; exact w1
    | stuck => rw [o] at w1; exact w1
/-! ### isinstance -/
theorem call_isX {a D : Addr} {oe : Obj} (hp : (a, oe) ∈ X.pn) (C : ExcC X.K D) (hz : L2N.Zn (.ref D) none oe) (hf : ∃ z, oe.data = .fields z) : CallR X (.builtin "isinstance") (rIsE X.K D a) := by
  intro pins s σ H xs us Q I r ⟨c, cv, b, ex, hcv, e, q⟩
  subst ex
  cases r with
  | cons r1 r2 =>
    cases r2 with
    | cons r2 r3 =>
      cases r3
      cases r1
      obtain rfl := hcv _ r2
      have hget := (I.pin (a, oe) (List.mem_append_left _ hp)).1
      obtain ⟨z, hv⟩ := hf
      have J : PySem.W.InstAt s.heap a oe D none := by
        obtain ⟨o1, o2, o3, o4⟩ := oe
        obtain ⟨z1, z2, _⟩ := hz
        simp only at z1 z2 hv
        subst z1 z2 hv
        exact ⟨hget, rfl, rfl, trivial⟩
      refine PySem.W.kia_one (PySem.W.handS_kitx_exc C.hg C.hk C.hs C.hd C.ha C.hn C.ht C.hm) I.kIn J e (fun z => nomatch z) fun tk => ?_
      exact ⟨.bl b, H, I.kept (t' := tk) fun _ _ z => z, rfl, q⟩
end
section
variable {P : Program} {w : World} {K : PySem.W.Frag} {mg : Str → Option Value} {base : Heap} {k : Nat} {f a : Addr} {cls : Value} {fd : FuncData} {x qual : Str} {params : Arguments} {body : List Stmt} {scope : Scope} {N ps : List Str} {sp : Sp}
theorem fnX_of (D : FunD K x qual params body scope [] [] f fd) (S : FnScope N ps scope) (len : ∀ vs H Q E, sp vs H Q E → vs.length = ps.length)
    (hbody : ∀ cdv A outer s H vs Q E oe, L2H.RoomH k (A.deeper (envOfC qual scope s.heap.objs.size f cdv)) → A.guards = some [] → Held A a oe cls → sp vs H Q E →
      ∃ t, PSs (L2H.cxH (L2N.CX P w) P w K mg base N qual scope f cdv A outer s H E (a, oe)) body t ∧ t { nx := fun _ H' => Q .non H', rt := Q } (start N vs) H) :
    FnX P w K mg base (k + 1) f fd ps a cls sp := by
  obtain ⟨oc, od, dV, kV, doc, pm, an, cdv, ct, osl, rfl, lk, hcd, _, _⟩ := D.ex
  constructor
  · exact len
  intro A outer s H args us vs Q E oe hr hgd hh hpin e0 hb rv hsp
  have hl := len vs H Q E hsp
  have kept : ∀ b o, base.get? b = some o → s.heap.get? b = some o := fun b o e => (e0.bs b o e).1
  have KX : K.In s.heap := e0.mod.kin.keeps kept
  have lim : s.heap.NoLimit := e0.mod.nolimit.keeps kept
  refine codeAny_call_function hr.depth (KX f _ lk) rfl S.co S.gen rfl (PySem.W.codeRec_of KX hcd) (hb _ _ _ _ ?_)
  refine wpAny_newFunctionEnv_cells S.kind ?_ ?_
  · rintro ⟨n, v⟩ hy
    rcases S.par n (List.of_mem_zip hy).1 with q | q
    · exact Or.inl q
    · exact Or.inr ⟨q, PySem.W.cellsFrom_some _ _ _ (Or.inl q)⟩
  rintro env rfl s1 x1
  refine ⟨lim.keeps x1.toInCall.keep, codeAny_func ?_⟩
  obtain ⟨t, ht, hq⟩ := hbody cdv A outer s H vs Q E oe (hr.deeper _) hgd hh hsp
  have I : Inv (L2H.cxH (L2N.CX P w) P w K mg base N qual scope f cdv A outer s H E (a, oe)) [] (start N vs) H s1 := L2H.inv_startH S hpin e0 hl rv x1
  refine wpAny_mono (ht.run [] s1 (start N vs) H _ I hq) ?_ (fun _ _ z => z)
  rintro (_ | _ | _ | u) s2 hs
  · obtain ⟨σ', H', J, q⟩ := hs
    exact ⟨V.non, H', J.os, J.bare, J.base, J.hok, rfl, q⟩
  · obtain ⟨_, _, _, q⟩ := hs
    exact q.elim
  · obtain ⟨_, _, _, q⟩ := hs
    exact q.elim
  · obtain ⟨v, σ', H', J, r', q⟩ := hs
    exact ⟨v, H', J.os, J.bare, J.base, J.hok, r', q⟩
end
end Pf
end

section 
set_option Elab.async false
set_option linter.all false
set_option maxRecDepth 100000
set_option maxHeartbeats 1000000
/-! PfY: which own syntax stands for which text. -/
namespace Pf
open PySem PySem.Spec PyProof.Rows L2

/-- a def's names; the own defs: name, number, how many parameters; constants -/
structure Ck where
  N : List Str
  defs : List (Str × Nat × Nat)
  gi : List (Str × Int)
  gz : List (Str × List Nat)
  xs : List (Str × Nat) := []
  hdefs : List (Str × Nat × Nat) := []
  hot : Bool := false
/-- within an except suite -/
def Ck.toHot (C : Ck) : Ck := { C with hot := true, defs := C.hdefs }
def visB (sc : Scope) (x : Str) : Bool := match sc.names.lookup x with
  | some .local => true
  | some .cell => true
  | some .free => true
  | _ => false
def locB (sc : Scope) (x : Str) : Bool := match sc.names.lookup x with
  | some .local => true
  | some .cell => true
  | _ => false
def glB (sc : Scope) (x : Str) : Bool := match sc.names.lookup x with
  | some .globalImplicit => true
  | _ => false
def isLocal (sc : Scope) (x : Str) : Bool := match sc.names.lookup x with
  | some .local => true
  | _ => false
def nmB (x : Str) : Bool := !(x == ("__debug__" : Str)) && !(x == ("__classdict__" : Str))
/-- a comprehension's scope as its block sees it -/
def reSc (sc scope : Scope) : Scope := { scope with names := scope.names.map fun (n, k) => if (k == .free && sc.kind == .function && sc.names.lookup n == some .cell) then (n, .cell) else (n, k) }
def tgsB (N : List Str) (sc : Scope) : List Nat → List Expr → Bool
  | [], [] => true
  | i :: is, .Name x _ :: es => decide (N[i]? = some x) && locB sc x && tgsB N sc is es
  | _, _ => false
def tgtB (N : List Str) (sc : Scope) : Tgt → Expr → Bool
  | .nm i, .Name x _ => decide (N[i]? = some x) && locB sc x
  | .tp is, .Tuple es _ _ => tgsB N sc is es
  | _, _ => false
def ownOf (N : List Str) (is : List Nat) : List (Str × Nat) := is.map fun i => (N.getD i Str.empty, i)
/-- built-in functions by their names -/
def biB : Bi → Str → Bool
  | .len, x => x == "len"
  | .abs, x => x == "abs"
  | .all, x => x == "all"
  | .any, x => x == "any"
  | .sum, x => x == "sum"
  | .max1, x => x == "max"
  | .max2, x => x == "max"
  | .min2, x => x == "min"
  | .min1, x => x == "min"
  | .divmod, x => x == "divmod"
  | .repr, x => x == "repr"
  | .sorted, x => x == "sorted"
  | .int, x => x == "int"
  | .tuple, x => x == "tuple"
  | .list, x => x == "list"
  | _, _ => false
def mtB : Mt → Str → Bool
  | .append, x => x == "append"
  | .extend, x => x == "extend"
  | .insert, x => x == "insert"
  | .pop0, x => x == "pop"
  | .pop1, x => x == "pop"
  | .remove, x => x == "remove"
  | .count, x => x == "count"
  | .index, x => x == "index"
  | _, _ => false
def tyB (t : Ty) (y : Str) : Bool := match t with
  | .int => y == "int"
  | .bool => y == "bool"
  | .str => y == "str"
  | .tuple => y == "tuple"
  | .dict => y == "dict"
def noSet : Expr → Bool
  | .Set _ _ _ => false
  | _ => true
def flatC (C : Ck) (x : Str) : D → Bool
  | .int i => C.gi.contains (x, i)
  | .str z => C.gz.contains (x, z)
  | _ => false
section
variable (C : Ck)
/-- range(z) -/
def rgArg (y : Expr) (ys : List Expr) : Option (Str × Expr) := match y, ys with
  | .Call (.Name r _) [z] [] _, [] => some (r, z)
  | _, _ => none
/-- x[::-1] -/
def revArg : Expr → Option Expr
  | .Subscript x (.Slice none none (some (.UnaryOp .USub (.Constant (.int 1) _ _) _)) _) _ => some x
  | _ => none
/-- the tail of an and, an or -/
def tailB (op : BoolOp) (y : Expr) (r : List Expr) (pos : Pos) : Expr := match r with
  | [] => y
  | _ => .BoolOp op (y :: r) pos
/-- a test, besides chkE -/
def chkT : Exp → Expr → Bool
  | .not a, e => match e with
    | .UnaryOp .Not x _ => chkT a x
    | _ => false
  | .and a b, e => match e with
    | .BoolOp .And (x :: y :: r) p => chkT a x && chkT b (tailB .And y r p)
    | _ => false
  | .or a b, e => match e with
    | .BoolOp .Or (x :: y :: r) p => chkT a x && chkT b (tailB .Or y r p)
    | _ => false
  | .cmp _ _ _, _ => true
  | .chain _ _ _ _ _, _ => true
  | _, e => plainT e
mutual
/-- m: as what is made anew -/
def chkE (m : Bool) (sc : Scope) : Exp → Expr → Bool
  | .var i, e => match e with
    | .Name x _ => !m && decide (C.N[i]? = some x) && visB sc x && nmB x
    | _ => false
  | .cst d, e => match e with
    | .Constant k _ _ => !m && cstB k d
    | _ => false
  | .glb y d, e => match e with
    | .Name x _ => !m && x == (y : Str) && glB sc x && nmB x && flatC C x d
    | _ => false
  | .tup es, e => match e with
    | .Tuple xs _ _ => !m && chkL sc es xs && xs.all notStar && decide (xs.length ≤ 1000)
    | _ => false
  | .lst es, e => match e with
    | .List xs _ => chkL sc es xs && xs.all notStar && decide (xs.length ≤ 1000)
    | _ => false
  | .dic t kvs, e => match kvs, e with
    | [], .Dict [] [] _ => true
    | _, _ => false
  | .bin op a b, e => match e with
    | .BinOp x o y _ => !m && bopOk o op && chkE false sc a x && chkE false sc b y
    | _ => false
  | .neg a, e => match e with
    | .UnaryOp .USub x _ => !m && chkE false sc a x
    | _ => false
  | .not a, e => match e with
    | .UnaryOp .Not x _ => !m && chkE false sc a x
    | _ => false
  | .and a b, e => match e with
    | .BoolOp .And (x :: y :: r) p => !m && chkE false sc a x && chkE false sc b (tailB .And y r p)
    | _ => false
  | .or a b, e => match e with
    | .BoolOp .Or (x :: y :: r) p => !m && chkE false sc a x && chkE false sc b (tailB .Or y r p)
    | _ => false
  | .cmp op a b, e => match e with
    | .Compare x [o] [y] _ => !m && copOk o op && noSet y && chkE false sc a x && chkE false sc b y
    | _ => false
  | .chain op op' a b c, e => match e with
    | .Compare x [o, o'] [y, z] _ => !m && copOk o op && copOk o' op' && noSet z && chkE false sc a x && chkE false sc b y && chkE false sc c z
    | _ => false
  | .ite c a b, e => match e with
    | .IfExp t x y _ => !m && chkE false sc c t && chkT c t && chkE false sc a x && chkE false sc b y
    | _ => false
  | .idx a b, e => match e with
    | .Subscript x y _ => !m && noSl y && chkE false sc a x && chkE false sc b y
    | _ => false
  | .slc a lo hi, e => match e with
    | .Subscript x (.Slice l h none _) _ => !m && chkE false sc a x && chkO sc lo l && chkO sc hi h
    | _ => false
  | .rev a, e => match revArg e with
    | some x => !m && chkE false sc a x
    | none => false
  | .call f es, e => match e with
    | .Call (.Name x _) (y :: ys) [] _ => !m && C.defs.contains (x, f, (y :: ys).length) && glB sc x && nmB x && (y :: ys).all notStar && chkL sc es (y :: ys)
    | _ => false
  | .bi f es, e => match e with
    | .Call (.Name x _) (y :: ys) [] _ => (!C.hot && glB sc x) && (match f with
      | .listRange => (match rgArg y ys with
        | some (r, z) => x == "list" && r == "range" && glB sc r && notStar z && chkL sc es [z]
        | none => false)
      | .tupRange => (match rgArg y ys with
        | some (r, z) => !m && x == "tuple" && r == "range" && glB sc r && notStar z && chkL sc es [z]
        | none => false)
      | .sortedSet => (match rgArg y ys with
        | some (r, z) => !m && x == "sorted" && r == "set" && glB sc r && notStar z && chkL sc es [z]
        | none => false)
      | .list => x == "list" && ys.isEmpty && notStar y && chkL sc es [y]
      | .dict => x == "dict" && ys.isEmpty && notStar y && chkL sc es [y]
      | f => !m && biB f x && (y :: ys).all notStar && chkL sc es (y :: ys))
    | _ => false
  | .isi t a, e => match e with
    | .Call (.Name x _) [z, .Name y _] [] _ => !m && x == "isinstance" && glB sc x && tyB t y && glB sc y && notStar z && chkE false sc a z
    | _ => false
  | .meth k o es, e => match e with
    | .Call (.Attribute y name ap) args [] cp => !m && mtB k name && ap.endLine == cp.line && notCall y && args.all notStar && decide (args.length < 20) && (args.isEmpty == (k == .pop0)) && chkE false sc o y && chkL sc es args
    | _ => false
  | .isx c a, e => match e with
    | .Call (.Name x _) [z, .Name y _] [] _ => !m && x == "isinstance" && glB sc x && C.hot && (C.xs.contains (y, c) && nmB y || y == "ValueError" && c == 99) && glB sc y && notStar z && chkE false sc a z
    | _ => false
  | .comp elt tg it c, e => match e with
    | .ListComp x [⟨t, iter, ifs, asy⟩] scope _ => !C.hot && decide (asy = 0) && blkC C.N sc scope (ownOf C.N tg.own) && tgtB C.N scope tg t && noSet iter && chkI sc it t iter && chkE false (reSc sc scope) elt x && chkC (reSc sc scope) c ifs
    | _ => false
  | .mut x, e => !m && chkE true sc x e
  | _, _ => false
def chkL (sc : Scope) : List Exp → List Expr → Bool
  | [], [] => true
  | x :: xs, y :: ys => chkE false sc x y && chkL sc xs ys
  | _, _ => false
def chkO (sc : Scope) : Option Exp → Option Expr → Bool
  | none, none => true
  | some a, some x => chkE false sc a x
  | _, _ => false
def chkC (sc : Scope) : Option Exp → List Expr → Bool
  | none, [] => true
  | some a, [x] => chkE false sc a x && chkT a x
  | _, _ => false
def chkI (sc : Scope) : Itr → Expr → Expr → Bool
  | .it a, _, x => chkE false sc a x
  | .rng1 a, _, e => match e with
    | .Call (.Name y _) [z] [] _ => y == "range" && glB sc y && notStar z && chkE false sc a z
    | _ => false
  | .rng2 a b, _, e => match e with
    | .Call (.Name y _) [z, u] [] _ => y == "range" && glB sc y && notStar z && notStar u && chkE false sc a z && chkE false sc b u
    | _ => false
  | .zip a b, t, e => match t, e with
    | .Tuple _ _ _, .Call (.Name y _) [z, u] [] _ => y == "zip" && glB sc y && notStar z && notStar u && chkE false sc a z && chkE false sc b u
    | _, _ => false
  | .enum a, t, e => match t, e with
    | .Tuple _ _ _, .Call (.Name y _) [z] [] _ => y == "enumerate" && glB sc y && notStar z && chkE false sc a z
    | _, _ => false
end
end
/-! ### statements -/
section
def noListComp : Expr → Bool
  | .ListComp _ _ _ _ => false
  | _ => true
def asgB (sc : Scope) (y : Str) (py : Pos) : Expr → Bool
  | .ListComp _ _ scope pos => (isLocal sc y && py.line == pos.line && !(scope.names.any fun (n, k) => n == y && (k == .local || k == .cell))) || (!isLocal sc y && locB sc y)
  | v => noLcT v && locB sc y
/-- a, b = e, e' -/
def parT : Expr → Option (Str × Pos × Str × Pos × Nat × Pos)
  | .Tuple [.Name x px, .Name y py] kt pt => some (x, px, y, py, kt, pt)
  | _ => none
def parV : Expr → Option (Expr × Expr × Nat × Pos)
  | .Tuple [a, b] k p => some (a, b, k, p)
  | _ => none
theorem parT_of {t : Expr} {x y : Str} {px py pt : Pos} {kt : Nat} (h : parT t = some (x, px, y, py, kt, pt)) : t = .Tuple [.Name x px, .Name y py] kt pt := by
  unfold parT at h
  split at h
  · cases h; rfl
  · cases h
theorem parV_of {t a b : Expr} {k : Nat} {p : Pos} (h : parV t = some (a, b, k, p)) : t = .Tuple [a, b] k p := by
  unfold parV at h
  split at h
  · cases h; rfl
  · cases h
structure Sw where
  a : Expr
  b : Expr
  a' : Expr
  b' : Expr
  v : Expr
  v' : Expr
def swT : Expr → Option (Expr × Expr × Expr × Expr)
  | .Tuple [.Subscript a b _, .Subscript a' b' _] _ _ => some (a, b, a', b')
  | _ => none
def swV : Expr → Option (Expr × Expr)
  | .Tuple [v, v'] _ _ => some (v, v')
  | _ => none
def swArg : Stmt → Option Sw
  | .Assign [t] v _ => match swT t, swV v with
    | some (a, b, a', b'), some (v, v') => some ⟨a, b, a', b', v, v'⟩
    | _, _ => none
  | _ => none
/-- a class of exceptions that can be made: 0 is the base, 11 has an __init__ of its own -/
def plX (c : Nat) : Bool := decide (c ≠ 0) && decide (c ≠ 11)
/-- raise X('m') -/
def raiseArg : Stmt → Option Str
  | .Raise (some (.Call (.Name x _) [.Constant (.str _) _ _] [] _)) none _ => some x
  | _ => none
/-- try: body, except x as n: b0, suite -/
structure Tr where
  x : Str
  n : Str
  body : List Stmt
  b0 : Stmt
  suite : List Stmt
def hdArg : List ExceptHandler → Option (Str × Str × Stmt × List Stmt)
  | [.ExceptHandler (some (.Name x _)) (some n) (b0 :: suite) _] => some (x, n, b0, suite)
  | _ => none
def tryArg : Stmt → Option Tr
  | .Try body hs [] [] _ => (hdArg hs).map fun q => ⟨q.1, q.2.1, body, q.2.2.1, q.2.2.2⟩
  | _ => none
mutual
def chkS (C : Ck) (sc : Scope) : Stm → Stmt → Bool
  | .pass, s => match s with
    | .Pass _ => true
    | _ => false
  | .never, _ => true
  | .expr e, s => match s with
    | .Expr x _ => noLcT x && chkE C false sc e x
    | _ => false
  | .asg i e, s => match s with
    | .Assign [.Name y py] v _ => decide (C.N[i]? = some y) && chkE C false sc e v && asgB sc y py v
    | _ => false
  | .asgT is e, s => match s with
    | .Assign [.Tuple es k tp] v _ => !C.hot && tgtB C.N sc (.tp is) (.Tuple es k tp) && noLc v && chkE C false sc e v
    | _ => false
  | .par is es, s => match s with
    | .Assign [t] v _ => (match is, es, parT t, parV v with
      | [i, j], [e, e'], some (x, px, y, py, _, _), some (a, b, _, _) => !C.hot && decide (C.N[i]? = some x) && decide (C.N[j]? = some y) && !(i == j) && (parB sc x y px py a b || (parC sc x y a b && locB sc x && locB sc y)) && chkE C false sc e a && chkE C false sc e' b
      | _, _, _, _ => false)
    | _ => false
  | .asgSub o k e, s => match s with
    | .Assign [.Subscript a b _] v _ => noLcT v && noSlE b && chkE C false sc e v && chkE C false sc o a && chkE C false sc k b
    | _ => false
  | .swp o k o' k' e e', s => match swArg s with
    | some q => !C.hot && notStar q.v && notStar q.v' && noSlE q.b && noSlE q.b' && chkE C false sc e q.v && chkE C false sc e' q.v' && chkE C false sc o q.a && chkE C false sc k q.b && chkE C false sc o' q.a' && chkE C false sc k' q.b'
    | none => false
  | .ret e, s => match s with
    | .Return (some x) _ => chkE C false sc e x
    | _ => false
  | .retN, s => match s with
    | .Return none _ => true
    | _ => false
  | .ite c a b, s => match s with
    | .If t xs ys _ => chkE C false sc c t && chkT c t && chkB C sc a xs && chkB C sc b ys
    | _ => false
  | .wh c b, s => match s with
    | .While t xs [] _ => chkE C false sc c t && chkT c t && chkB C sc b xs
    | _ => false
  | .for tg it b, s => match s with
    | .For t iter xs [] _ => !C.hot && tgtB C.N sc tg t && noSet iter && chkI C sc it t iter && chkB C sc b xs
    | _ => false
  | .brk, s => match s with
    | .Break _ => true
    | _ => false
  | .cnt, s => match s with
    | .Continue _ => true
    | _ => false
  | .raise c none, s => match raiseArg s with
    | some x => !C.hot && C.xs.contains (x, c) && plX c && glB sc x && nmB x
    | none => false
  | .try b i cs h, s => match tryArg s with
    | some q => !C.hot && C.xs.contains (q.x, 0) && glB sc q.x && nmB q.x && decide (C.N[i]? = some q.n) && isLocal sc q.n && cs.all (fun c => plX c && (C.xs.map (·.2)).contains c) && chkB C sc b q.body && chkB C.toHot sc h (q.b0 :: q.suite)
    | none => false
  | _, _ => false
def chkB (C : Ck) (sc : Scope) : List Stm → List Stmt → Bool
  | [], [] => true
  | x :: xs, y :: ys => chkS C sc x y && chkB C sc xs ys
  | _, _ => false
end
end
end Pf
end

section 
set_option Elab.async false
set_option linter.all false
set_option maxRecDepth 100000
set_option maxHeartbeats 4000000
/-! PfZ: an expression that is checked is read by the interpreter. -/
namespace Pf
open PySem PySem.Spec PyProof.Rows L2

/-- the built-in names that the texts use -/
def bnames : List Str := ["len", "abs", "all", "any", "sum", "max", "min", "divmod", "repr", "sorted", "int", "tuple", "list", "range", "zip", "enumerate", "isinstance", "bool", "str", "dict", "set", "ValueError"]
structure Xcs (K : PySem.W.Frag) (mg : Str → Option Value) (xc : Nat → Value) (xs : List (Str × Nat)) : Prop where
  cls : ∀ q ∈ xs, ∃ D, mg q.1 = some (.ref D) ∧ xc q.2 = .ref D
  n99 : ∀ q ∈ xs, q.2 ≠ 99
  mks : ∀ q ∈ xs, plX q.2 = true → ∃ D, xc q.2 = .ref D ∧ PySem.W.excIn K D He.veBase "ValueError.__new__" = true ∧ PySem.W.keepIn K (.ref D) = true ∧ PySem.W.subIn K (.ref D) (.type "BaseException") = some true ∧ PySem.W.typeIn K (.ref D) = some (.type "type")
  is : ∀ q ∈ xs, plX q.2 = true → ∃ D, xc q.2 = .ref D ∧ ExcC K D ∧ PySem.W.kitOne K (.ref D) (.type "ValueError") = some true ∧ PySem.W.exmOne K (.ref D) (xc 0) = some true ∧ ∀ r ∈ xs, PySem.W.kitOne K (.ref D) (xc r.2) = some (decide (r.2 = 0) || decide (r.2 = q.2))
def Fx.at (F : Fx) (a : Addr) (c : Nat) : Fx := { F with xs := [(a, c)] }
structure Cold (X : Cx) (F : Fx) (C : Ck) (k : Nat) (Φ : Nat → List D → Sto → Out D) : Prop where
  calm : X.calm = true
  xs : F.xs = []
  room : Room k X.A
  calls : ∀ q ∈ C.defs, CallOk X F k q.1 q.2.2 (Φ q.2.1)
  hcalls : ∀ q ∈ C.hdefs, ∀ a c, plX c = true → (∃ r ∈ C.xs, r.2 = c) → CallX X (F.at a c) k a (F.xc c) q.1 q.2.2 (Φ q.2.1)
structure Hot (X : Cx) (F : Fx) (C : Ck) (k : Nat) (Φ : Nat → List D → Sto → Out D) : Prop where
  ex : ∃ a c oe, F.xs = [(a, c)] ∧ (a, oe) ∈ X.pn ∧ Held X.A a oe (F.xc c) ∧ (∃ q ∈ C.xs, q.2 = c) ∧ plX c = true ∧ ∀ q ∈ C.defs, CallX X F k a (F.xc c) q.1 q.2.2 (Φ q.2.1)
  room : L2H.RoomH k X.A
structure CxOk (X : Cx) (F : Fx) (W : WX) (C : Ck) (sc ts : Scope) (k : Nat) (Φ : Nat → List D → Sto → Out D) : Prop where
  ok : Ok X F
  nd : X.N.Nodup
  hN : X.N = C.N
  hsc : X.env.scope = sc
  kind : sc.kind = .function
  blt : ∀ x ∈ bnames, X.mg x = none
  con : ∀ p ∈ C.gi, ∃ t, X.mg p.1 = some (.int p.2 t)
  cos : ∀ p ∈ C.gz, ∃ t, X.mg p.1 = some (.str (toS p.2) t)
  xcs : Xcs X.K X.mg F.xc C.xs
  cold : C.hot = false → Cold X F C k Φ
  hot : C.hot = true → Hot X F C k Φ
  tk : L2N.Takes X W
  tgs : ∀ x, locB ts x = true → Loc X.env.scope x ∧ (X.fn x = true ∨ X.env.scope.names.lookup x = some .local)
theorem CxOk.okc {X : Cx} {F : Fx} {W : WX} {C : Ck} {sc ts : Scope} {k : Nat} {Φ : Nat → List D → Sto → Out D} (c : CxOk X F W C sc ts k Φ) (h : C.hot = false) : OkC X F := { c.ok with calm := (c.cold h).calm }
section
variable {X : Cx} {F : Fx} {W : WX} {C : Ck} {sc ts : Scope} {k : Nat} {Φ : Nat → List D → Sto → Out D}
theorem vis_of {x : Str} (h : visB sc x = true) : Vis sc x := by
  unfold visB at h
  split at h
  · exact .inl ‹_›
  · exact .inr (.inl ‹_›)
  · exact .inr (.inr ‹_›)
  · cases h
theorem loc_of {x : Str} (h : locB sc x = true) : Loc sc x := by
  unfold locB at h
  split at h
  · exact .inl ‹_›
  · exact .inr ‹_›
  · cases h
theorem gl_of {x : Str} (hs : X.env.scope = sc) (h : glB sc x = true) : Gl X x := by
  unfold glB at h
  split at h
  · show X.env.scope.names.lookup x = _
    rw [hs]
    assumption
  · cases h
theorem nm_of {x : Str} (h : nmB x = true) : (x == ("__debug__" : Str)) = false ∧ (x == ("__classdict__" : Str)) = false := by
  unfold nmB at h
  simpa using h
theorem CxOk.pgs (c : CxOk X F W C sc ts k Φ) : ∀ {is : List Nat} {es : List Expr}, tgsB C.N ts is es = true → PGs X es (gsT is) ∧ (assignEach es X.env).length = is.length ∧ (assignEach es X.env).findIdx? (·.1) = none
  | [], [], _ => ⟨pgs_nil, rfl, rfl⟩
  | i :: is, .Name x p :: es, h => by
    simp only [tgsB, Bool.and_eq_true, decide_eq_true_eq] at h
    obtain ⟨⟨h1, h2⟩, h3⟩ := h
    obtain ⟨q1, q2, q3⟩ := CxOk.pgs c h3
    have hl := c.tgs _ h2
    refine ⟨pgs_cons (pg_name c.nd (by rw [c.hN]; exact h1) hl.1 hl.2) q1 rfl, ?_, ?_⟩
    · show (assignEach es X.env).length + 1 = _
      rw [q2]; rfl
    · show List.findIdx? _ ((false, _) :: assignEach es X.env) = none
      rw [List.findIdx?_cons]
      simp [q3]
  | [], _ :: _, h => by simp [tgsB] at h
  | _ :: _, [], h => by simp [tgsB] at h
  | _ :: _, e :: _, h => by
    cases e with
    | Name x p =>
      rename_i i is es
      simp only [tgsB, Bool.and_eq_true, decide_eq_true_eq] at h
      obtain ⟨⟨h1, h2⟩, h3⟩ := h
      obtain ⟨q1, q2, q3⟩ := CxOk.pgs c h3
      have hl := c.tgs _ h2
      refine ⟨pgs_cons (pg_name c.nd (by rw [c.hN]; exact h1) hl.1 hl.2) q1 rfl, ?_, ?_⟩
      · show (assignEach es X.env).length + 1 = _
        rw [q2]; rfl
      · show List.findIdx? _ ((false, _) :: assignEach es X.env) = none
        rw [List.findIdx?_cons]
        simp [q3]
    | _ => simp [tgsB] at h
theorem CxOk.pg (c : CxOk X F W C sc ts k Φ) (hh : C.hot = false) {t : Tgt} {e : Expr} (h : tgtB C.N ts t e = true) : PG X e (gT X.K t) := by
  cases t with
  | nm i =>
    cases e <;> simp only [tgtB, Bool.false_eq_true] at h
    rename_i x p
    simp only [Bool.and_eq_true, decide_eq_true_eq] at h
    have hl := c.tgs _ h.2
    exact pg_name c.nd (by rw [c.hN]; exact h.1) hl.1 hl.2
  | tp is =>
    cases e <;> simp only [tgtB, Bool.false_eq_true] at h
    obtain ⟨q1, q2, q3⟩ := c.pgs h
    exact pg_tup (c.okc hh).calm q1 q2 q3
theorem relabel_cell {env : PySem.Env} : ∀ {names : List (Str × NameKind)} {x : Str}, names.lookup x = some .cell →
    (names.map fun (n, k) => if (k == NameKind.free && env.scope.kind == .function && env.kindOf n == some .cell) then (n, NameKind.cell) else (n, k)).lookup x = some .cell
  | [], _, h => by simp at h
  | (n, k) :: r, x, h => by
    rw [List.lookup_cons] at h
    rw [List.map_cons]
    by_cases q : (x == n) = true
    · rw [q] at h
      cases h
      simp [List.lookup_cons, q]
    · simp only [Bool.not_eq_true] at q
      rw [q] at h
      have ih := relabel_cell (env := env) h
      by_cases z : (k == NameKind.free && env.scope.kind == .function && env.kindOf n == some .cell) = true
      · simp only [z, if_true, List.lookup_cons, q]; exact ih
      · simp only [z, Bool.false_eq_true, if_false, List.lookup_cons, q]; exact ih
/-- within a comprehension's block -/
theorem CxOk.blk (c : CxOk X F W C sc ts k Φ) (hh : C.hot = false) {s : Shared} {H : Hp} {scope : Scope} {cl : List (Str × Addr)} {A : Addr} {fp : List Addr} (hk : scope.kind = .function) : CxOk (X.blk s H scope (compEnvC scope cl A X.env) fp) F noW C (reSc sc scope) scope k Φ where
  ok := ⟨c.ok.hK, c.ok.hu, c.ok.gd⟩
  nd := c.nd
  hN := c.hN
  hsc := by
    show relabel scope X.env = _
    unfold relabel reSc
    rw [c.hsc]
    unfold Env.kindOf
    rw [c.hsc]
  kind := hk
  blt := c.blt
  con := c.con
  cos := c.cos
  xcs := c.xcs
  cold := fun _ => let k := c.cold hh; ⟨k.calm, k.xs, k.room, fun q hq => ⟨(k.calls q hq).ex, (k.calls q hq).len⟩, fun q hq a e h1 h2 => ⟨(k.hcalls q hq a e h1 h2).ex, (k.hcalls q hq a e h1 h2).len⟩⟩
  hot := fun z => by rw [hh] at z; cases z
  tk := fun u s' ⟨a, B, sI, pins, σ, H, cls, d, e, I, nb, up, sky, na, os, ag, w⟩ => w.elim
  tgs := fun x h => by
    unfold locB at h
    split at h
    · rename_i e
      have q : (relabel scope X.env).names.lookup x = some .local := lookup_relabel_local e
      exact ⟨.inl q, .inr q⟩
    · rename_i e
      have q : (relabel scope X.env).names.lookup x = some .cell := relabel_cell e
      refine ⟨.inr q, .inl ?_⟩
      show (scope.names.lookup x == some .cell) = true
      rw [e]
      rfl
    · cases h
end
end Pf
end

section 
set_option Elab.async false
set_option linter.all false
set_option maxRecDepth 100000
set_option maxHeartbeats 4000000
/-! PgA: the soundness of what is checked: expressions. -/
namespace Pf
open PySem PySem.Spec PyProof.Rows L2

section
variable {Φ : Nat → List D → Sto → Out D}
theorem evs_nil : evs Φ [] = fun _ S => .ok [] S := by funext ρ S; simp only [evs]
theorem evs_cons (e : Exp) (es : List Exp) : evs Φ (e :: es) = consS (ev Φ e) (evs Φ es) := by funext ρ S; simp only [evs, consS]
theorem evs_len : ∀ (es : List Exp) (ρ : Env) (S : Sto) (ds : List D) (S' : Sto), evs Φ es ρ S = .ok ds S' → ds.length = es.length
  | [], ρ, S, ds, S', h => by simp only [evs, Out.ok.injEq] at h; rw [← h.1]; rfl
  | e :: es, ρ, S, ds, S', h => by
    simp only [evs] at h
    cases q : ev Φ e ρ S with
    | stuck => rw [q] at h; cases h
    | exn k x S1 => rw [q] at h; cases h
    | ok d S1 =>
      rw [q] at h
      simp only [Out.ok_bind] at h
      cases q2 : evs Φ es ρ S1 with
      | stuck => rw [q2] at h; cases h
      | exn k x S2 => rw [q2] at h; cases h
      | ok ds2 S2 =>
        rw [q2] at h
        simp only [Out.ok_bind, Out.ok.injEq] at h
        rw [← h.1]
        simp [evs_len es ρ S1 ds2 S2 q2]
theorem ev_comp (elt : Exp) (tg : Tgt) (it : Itr) (c : Option Exp) : ev Φ (.comp elt tg it c) = compS (evIt Φ it) tg (evc Φ c) (ev Φ elt) := by funext ρ S; simp only [ev, compS]; rfl
theorem ev_meth (m : Mt) (o : Exp) (es : List Exp) : ev Φ (.meth m o es) = methS m (ev Φ o) (evs Φ es) := by
  funext ρ S
  simp only [ev, methS]
  all_goals rfl
theorem ev_mut (e : Exp) : ev Φ (.mut e) = mutS (ev Φ e) := by
  funext ρ S
  simp only [ev, mutS]
  all_goals
    cases ev Φ e ρ S with
    | ok a S1 => cases a <;> rfl
    | exn c x S1 => rfl
    | stuck => rfl
end
structure Snd (X : Cx) (F : Fx) (W : WX) (Φ : Nat → List D → Sto → Out D) (E : Exp) (m : Bool) (e : Expr) : Prop where
  n : m = true → PE X e (tN F W (ev Φ E))
  x : m = false → PE X e (tE F W (ev Φ E))
  t : m = false → chkT E e = true → PT X e (tT F W (tst (ev Φ E)))
  w : m = false → chkT E e = true → ∀ op vs p, e = .BoolOp op vs p → PW X e (tT F W (tst (ev Φ E)))
section
variable {F : Fx} {C : Ck} {k : Nat} {Φ : Nat → List D → Sto → Out D}
theorem Snd.plain {X : Cx} {W : WX} {E : Exp} {e : Expr} (ok : Ok X F) (h : PE X e (tE F W (ev Φ E))) (hT : chkT E e = plainT e) : Snd X F W Φ E false e where
  n := fun z => by cases z
  x := fun _ => h
  t := fun _ q => snd_truth ok h (by rw [← hT]; exact q)
  w := fun _ q op vs p ez => by subst ez; rw [hT] at q; cases q
theorem Snd.new {X : Cx} {W : WX} {E : Exp} {e : Expr} {m : Bool} (ok : Ok X F) (h : PE X e (tN F W (ev Φ E))) (hn : ∀ ρ S d S', ev Φ E ρ S = .ok d S' → isNew d = true) (hT : chkT E e = plainT e) : Snd X F W Φ E m e where
  n := fun _ => h
  x := fun _ => pure_new hn h
  t := fun _ q => snd_truth ok (pure_new hn h) (by rw [← hT]; exact q)
  w := fun _ q op vs p ez => by subst ez; rw [hT] at q; cases q
theorem set_ne {e : Expr} (h : noSet e = true) : ∀ es k p, e ≠ .Set es k p := fun es k p q => by subst q; cases h
theorem own_map (N : List Str) (is : List Nat) : (ownOf N is).map (·.2) = is := by
  unfold ownOf
  rw [List.map_map]
  exact List.map_id is
theorem beq_str {x y : Str} (h : (x == y) = true) : x = y := eq_of_beq h
theorem CxOk.no {X : Cx} {W : WX} {sc ts : Scope} (c : CxOk X F W C sc ts k Φ) {x : Str} (h : bnames.contains x = true) : X.mg x = none := c.blt x (by simpa using h)
/-- the built-in functions of one table -/
theorem bi_fun {X : Cx} {W : WX} {sc ts : Scope} (c : CxOk X F W C sc ts k Φ) (hh : C.hot = false) {f : Bi} {x : Str} (h : biB f x = true) : X.mg x = none ∧ x ≠ "__name__" ∧ (x == ("__debug__" : Str)) = false ∧
    ((∃ id, CallR X (.builtin id) (rC F fun S ds => biOp S f ds) ∧ bootBuiltins x = some (.builtin id)) ∨ ∃ T, CallR X (.type T) (rC F fun S ds => biOp S f ds) ∧ bootBuiltins x = some (.type T)) := by
  cases f <;> simp only [biB, Bool.false_eq_true] at h
  case len => obtain rfl := beq_str h; exact ⟨c.no (by decide +kernel), by decide +kernel, by decide +kernel, .inl ⟨_, c_len c.ok, by decide +kernel⟩⟩
  case abs => obtain rfl := beq_str h; exact ⟨c.no (by decide +kernel), by decide +kernel, by decide +kernel, .inl ⟨_, c_abs c.ok, by decide +kernel⟩⟩
  case all => obtain rfl := beq_str h; exact ⟨c.no (by decide +kernel), by decide +kernel, by decide +kernel, .inl ⟨_, c_all (c.okc hh), by decide +kernel⟩⟩
  case any => obtain rfl := beq_str h; exact ⟨c.no (by decide +kernel), by decide +kernel, by decide +kernel, .inl ⟨_, c_any (c.okc hh), by decide +kernel⟩⟩
  case sum => obtain rfl := beq_str h; exact ⟨c.no (by decide +kernel), by decide +kernel, by decide +kernel, .inl ⟨_, c_sum (c.okc hh), by decide +kernel⟩⟩
  case max1 => obtain rfl := beq_str h; exact ⟨c.no (by decide +kernel), by decide +kernel, by decide +kernel, .inl ⟨_, c_max1 (c.okc hh), by decide +kernel⟩⟩
  case max2 => obtain rfl := beq_str h; exact ⟨c.no (by decide +kernel), by decide +kernel, by decide +kernel, .inl ⟨_, c_max2 (c.okc hh), by decide +kernel⟩⟩
  case min2 => obtain rfl := beq_str h; exact ⟨c.no (by decide +kernel), by decide +kernel, by decide +kernel, .inl ⟨_, c_min2 (c.okc hh), by decide +kernel⟩⟩
  case min1 => obtain rfl := beq_str h; exact ⟨c.no (by decide +kernel), by decide +kernel, by decide +kernel, .inl ⟨_, c_min1 (c.okc hh), by decide +kernel⟩⟩
  case divmod => obtain rfl := beq_str h; exact ⟨c.no (by decide +kernel), by decide +kernel, by decide +kernel, .inl ⟨_, c_divmod c.ok, by decide +kernel⟩⟩
  case repr => obtain rfl := beq_str h; exact ⟨c.no (by decide +kernel), by decide +kernel, by decide +kernel, .inl ⟨_, c_repr c.ok, by decide +kernel⟩⟩
  case sorted => obtain rfl := beq_str h; exact ⟨c.no (by decide +kernel), by decide +kernel, by decide +kernel, .inl ⟨_, c_sorted c.ok, by decide +kernel⟩⟩
  case int => obtain rfl := beq_str h; exact ⟨c.no (by decide +kernel), by decide +kernel, by decide +kernel, .inr ⟨_, c_int c.ok, by decide +kernel⟩⟩
  case tuple => obtain rfl := beq_str h; exact ⟨c.no (by decide +kernel), by decide +kernel, by decide +kernel, .inr ⟨_, c_tuple c.ok, by decide +kernel⟩⟩
  case list => obtain rfl := beq_str h; exact ⟨c.no (by decide +kernel), by decide +kernel, by decide +kernel, .inr ⟨_, c_list c.ok, by decide +kernel⟩⟩
theorem tf_all {m : Mt} (h : m = .append ∨ m = .extend ∨ m = .insert ∨ m = .pop0 ∨ m = .pop1 ∨ m = .remove ∨ m = .count ∨ m = .index) : TyFor F m "list" := tf_list fun S d q => by
  rcases h with rfl | rfl | rfl | rfl | rfl | rfl | rfl | rfl <;> (unfold mtTy at q; cases e : res S d <;> simp only [e, Bool.false_eq_true] at q; exact ⟨_, rfl⟩)
/-- isinstance of the exception that is handled -/
theorem snd_isx {X : Cx} {W : WX} {sc ts : Scope} (c : CxOk X F W C sc ts k Φ) (hh : C.hot = true) {n : Nat} {x y : Str} {a : Expr} {f : SemE D} {p p2 pos : Pos} (hx : x = "isinstance") (hg : Gl X x) (hy : C.xs.contains (y, n) = true ∧ nmB y = true ∨ y = "ValueError" ∧ n = 99) (hg2 : Gl X y) (hs : notStar a = true) (ha : PE X a (tE F W f)) :
    PE X (.Call (.Name x p) [a, .Name y p2] [] pos) (tE F W fun ρ S => (f ρ S).bind fun x S1 => Out.opt S1 ((isXc n x).map .bl)) := by
  subst hx
  obtain ⟨a0, c0, oe, hxs, hpn, hh0, ⟨q0, hq0, rfl⟩, hpl, _⟩ := (c.hot hh).ex
  obtain ⟨D0, hD, hE, hV, _, hK⟩ := c.xcs.is q0 hq0 hpl
  obtain ⟨v, cv, hv, hrv, hk⟩ : ∃ (v : V) (cv : Value), PE X (.Name y p2) (tC v) ∧ (∀ u, RelV v u → u = cv) ∧ PySem.W.kitOne X.K (.ref D0) cv = some (decide (n = 0) || decide (n = 99) || decide (n = q0.2)) := by
    rcases hy with ⟨h1, h2⟩ | ⟨h1, h2⟩
    · have hm : (y, n) ∈ C.xs := by simpa using h1
      obtain ⟨D1, g1, g2⟩ := c.xcs.cls (y, n) hm
      have g2 : F.xc n = .ref D1 := g2
      refine ⟨.ref D1, .ref D1, pe_glob hg2 g1 rfl (nm_of h2).1, fun u r => r, ?_⟩
      have := hK (y, n) hm
      simp only at this
      rw [← g2, this]
      have n99 : n ≠ 99 := c.xcs.n99 (y, n) hm
      simp [n99]
    · subst h1 h2
      exact ⟨.ty "ValueError", .type "ValueError", pe_bltn hg2 (c.no (by decide +kernel)) boot_ValueError rfl, fun u r => r, by simpa using hV⟩
  have hA : PA X [a, .Name y p2] (tCons (tE F W f) (tCons (tC v) tNil)) := pa_cons ha (pa_cons hv pa_nil rfl) (star_cons hs)
  have hz : L2N.Zn (.ref D0) none oe := by rw [← hD]; exact hh0.zn
  refine pe_of fun σ H Q μ ρ S z cc w => ⟨_, pe_callB (call_isX hpn hE hz hh0.fs) hg (c.no (by decide +kernel)) boot_isinstance hA (by decide) (by decide) (star_cons hs) rfl, ?_⟩
  refine tG.of cc (Wish.bind w fun d S1 μ1 H1 vx t1 r1 w1 => ?_)
  obtain ⟨b, e, w2⟩ := Wish.opt w1
  obtain ⟨b, e1, rfl⟩ := Option.map_eq_some_iff.mp e
  cases d <;> simp only [isXc, reduceCtorEq, Option.some.injEq] at e1
  cases r1 with
  | exc hm =>
    rw [hxs] at hm
    simp only [List.mem_singleton, Prod.mk.injEq] at hm
    obtain ⟨rfl, rfl⟩ := hm
    subst e1
    exact ⟨v, cv, _, rfl, hrv, hk, Wish.done w2 Step.refl t1.sim (.bl _)⟩
theorem snd_dnew {X : Cx} {W : WX} {t : Bool} {pos : Pos} : PE X (.Dict [] [] pos) (tN F W (ev Φ (.dic t []))) := by
  have e : ev Φ (.dic t []) = fun _ S => .ok (.dic t [] []) S := by
    funext ρ S
    simp [ev, evs, pairUp, putAll]
  rw [e]
  cases t with
  | false => exact pn_of fun σ H Q μ ρ S z c w => ⟨_, pe_dnewK, fun p np z' => w.2 μ H p (.dK []) z' Step.refl c.sim np ⟨rfl, .nil⟩⟩
  | true => exact pn_of fun σ H Q μ ρ S z c w => ⟨_, pe_dnewT, fun p np z' => w.2 μ H p (.dT []) z' Step.refl c.sim np ⟨rfl, .nil⟩⟩
end
end Pf
end

section 
set_option Elab.async false
set_option linter.all false
set_option maxRecDepth 100000
set_option maxHeartbeats 8000000
/-! PgB: the soundness of what is checked: expressions. -/
namespace Pf
open PySem PySem.Spec PyProof.Rows L2

section
variable {F : Fx} {C : Ck} {k : Nat} {Φ : Nat → List D → Sto → Out D}
theorem rg_of {y : Expr} {ys : List Expr} {r : Str} {z : Expr} (h : rgArg y ys = some (r, z)) : ∃ pr pz, y = .Call (.Name r pr) [z] [] pz ∧ ys = [] := by
  unfold rgArg at h
  split at h
  · cases h; exact ⟨_, _, rfl, rfl⟩
  · cases h
theorem bi_new {es : List Exp} {f : Bi} (hf : ∀ S ds d, biOp S f ds = some d → isNew d = true) : ∀ ρ S d S', ((fun ρ S => (evs Φ es ρ S).bind fun ds S1 => Out.opt S1 (biOp S1 f ds)) : SemE D) ρ S = .ok d S' → isNew d = true := by
  intro ρ S d S' h
  simp only at h
  cases q : evs Φ es ρ S with
  | stuck => rw [q] at h; cases h
  | exn k x S1 => rw [q] at h; cases h
  | ok ds S1 =>
    rw [q] at h
    simp only [Out.ok_bind] at h
    cases q2 : biOp S1 f ds with
    | none => rw [q2] at h; cases h
    | some d2 => rw [q2] at h; cases h; exact hf _ _ _ q2
theorem new_listRange : ∀ (S : Sto) (ds : List D) (d : D), biOp S .listRange ds = some d → isNew d = true := by
  intro S ds d h
  cases ds with
  | nil => simp [biOp] at h
  | cons x ds =>
    cases ds with
    | nil =>
      cases x <;> simp only [biOp, reduceCtorEq, Option.ite_none_right_eq_some, Option.some.injEq] at h
      rw [← h.2]; rfl
    | cons y ds =>
      cases ds with
      | nil =>
        cases x <;> cases y <;> simp only [biOp, reduceCtorEq, Option.ite_none_right_eq_some, Option.some.injEq] at h
        rw [← h.2]; rfl
      | cons z ds => simp [biOp] at h
theorem new_list : ∀ (S : Sto) (ds : List D) (d : D), biOp S .list ds = some d → isNew d = true := by
  intro S ds d h
  cases ds with
  | nil => simp [biOp] at h
  | cons x ds =>
    cases ds with
    | nil =>
      simp only [biOp] at h
      split at h
      · cases h; rfl
      · cases h; rfl
      · cases h
    | cons y ds => simp [biOp] at h
theorem new_dict : ∀ (S : Sto) (ds : List D) (d : D), biOp S .dict ds = some d → isNew d = true := by
  intro S ds d h
  cases ds with
  | nil => simp [biOp] at h
  | cons x ds =>
    cases ds with
    | nil =>
      simp only [biOp] at h
      split at h
      · cases h; rfl
      · cases h
    | cons y ds => simp [biOp] at h
theorem rev_of {e x : Expr} (h : revArg e = some x) : ∃ k p1 p2 p3 pos, e = .Subscript x (.Slice none none (some (.UnaryOp .USub (.Constant (.int 1) k p1) p2)) p3) pos := by
  unfold revArg at h
  split at h
  · cases h; exact ⟨_, _, _, _, _, rfl⟩
  · cases h
/-- and, or: the tail -/
theorem tail_pe {X : Cx} {W : WX} {op : BoolOp} {E : Exp} {y : Expr} {r : List Expr} {p : Pos} (h : Snd X F W Φ E false (tailB op y r p)) : PE X (.BoolOp op (y :: r) p) (tE F W (ev Φ E)) := by
  cases r with
  | nil => exact pe_one (h.x rfl)
  | cons z r => exact h.x rfl
theorem tail_pwA {X : Cx} {W : WX} {E : Exp} {y : Expr} {r : List Expr} {p : Pos} (h : Snd X F W Φ E false (tailB .And y r p)) (q : chkT E (tailB .And y r p) = true) : PW X (.BoolOp .And (y :: r) p) (tT F W (tst (ev Φ E))) := by
  cases r with
  | nil => exact pw_and1 (h.t rfl q)
  | cons z r => exact h.w rfl q _ _ _ rfl
theorem tail_pwO {X : Cx} {W : WX} {E : Exp} {y : Expr} {r : List Expr} {p : Pos} (h : Snd X F W Φ E false (tailB .Or y r p)) (q : chkT E (tailB .Or y r p) = true) : PW X (.BoolOp .Or (y :: r) p) (tT F W (tst (ev Φ E))) := by
  cases r with
  | nil => exact pw_or1 (h.t rfl q)
  | cons z r => exact h.w rfl q _ _ _ rfl
mutual
theorem sndE : ∀ (E : Exp) (m : Bool) (X : Cx) (W : WX) (sc ts : Scope) (e : Expr), CxOk X F W C sc ts k Φ → chkE C m sc E e = true → Snd X F W Φ E m e
  | .var i, m, X, W, sc, ts, e, c, h => by
    cases e <;> simp only [chkE, Bool.false_eq_true] at h
    rename_i x p
    simp only [Bool.and_eq_true, decide_eq_true_eq, Bool.not_eq_true'] at h
    obtain ⟨⟨⟨rfl, h1⟩, h2⟩, h3⟩ := h
    have q : ev Φ (.var i) = fun ρ S => Out.opt S (ρ[i]?.join) := by funext ρ S; simp only [ev]
    refine Snd.plain c.ok ?_ rfl
    rw [q]
    exact snd_var (by rw [c.hN]; exact h1) (by rw [c.hsc]; exact vis_of h2) (nm_of h3).1 (nm_of h3).2
  | .cst d, m, X, W, sc, ts, e, c, h => by
    cases e <;> simp only [chkE, Bool.false_eq_true] at h
    simp only [Bool.and_eq_true, Bool.not_eq_true'] at h
    obtain ⟨rfl, h1⟩ := h
    have q : ev Φ (.cst d) = fun _ S => .ok d S := by funext ρ S; simp only [ev]
    refine Snd.plain c.ok ?_ rfl
    rw [q]
    exact snd_cst h1
  | .glb y d, m, X, W, sc, ts, e, c, h => by
    cases e <;> simp only [chkE, Bool.false_eq_true] at h
    rename_i x p
    simp only [Bool.and_eq_true, Bool.not_eq_true'] at h
    obtain ⟨⟨⟨⟨rfl, h1⟩, h2⟩, h3⟩, h4⟩ := h
    have q : ev Φ (.glb y d) = fun _ S => .ok d S := by funext ρ S; simp only [ev]
    refine Snd.plain c.ok ?_ rfl
    rw [q]
    cases d <;> simp only [flatC, Bool.false_eq_true] at h4
    · rename_i i
      obtain ⟨t, e1⟩ := c.con (x, i) (by simpa using h4)
      exact snd_glb (gl_of c.hsc h2) e1 rfl ⟨t, rfl⟩ (nm_of h3).1
    · rename_i z
      obtain ⟨t, e1⟩ := c.cos (x, z) (by simpa using h4)
      exact snd_glb (gl_of c.hsc h2) e1 rfl ⟨t, rfl⟩ (nm_of h3).1
  | .tup es, m, X, W, sc, ts, e, c, h => by
    cases e <;> simp only [chkE, Bool.false_eq_true] at h
    rename_i xs kk p
    simp only [Bool.and_eq_true, decide_eq_true_eq, Bool.not_eq_true'] at h
    obtain ⟨⟨⟨rfl, h1⟩, h2⟩, h3⟩ := h
    have q : ev Φ (.tup es) = fun ρ S => (evs Φ es ρ S).bind fun ds S1 => .ok (.tup ds) S1 := by funext ρ S; simp only [ev]
    obtain ⟨hA, hl⟩ := sndL es X W sc ts xs c h1 h2
    refine Snd.plain c.ok ?_ rfl
    rw [q]
    exact snd_tup h3 (fun ρ S ds S' z => by rw [evs_len es ρ S ds S' z, hl]) hA
  | .lst es, m, X, W, sc, ts, e, c, h => by
    cases e <;> simp only [chkE, Bool.false_eq_true] at h
    rename_i xs p
    simp only [Bool.and_eq_true, decide_eq_true_eq, Bool.not_eq_true'] at h
    obtain ⟨⟨h1, h2⟩, h3⟩ := h
    have q : ev Φ (.lst es) = fun ρ S => (evs Φ es ρ S).bind fun ds S1 => .ok (.lst ds) S1 := by funext ρ S; simp only [ev]
    obtain ⟨hA, hl⟩ := sndL es X W sc ts xs c h1 h2
    refine Snd.new c.ok ?_ ?_ rfl
    · rw [q]
      exact snd_lst h3 (fun ρ S ds S' z => by rw [evs_len es ρ S ds S' z, hl]) hA
    · rw [q]
      exact lst_new
  | .dic t kvs, m, X, W, sc, ts, e, c, h => by
    cases kvs with
    | cons a b => simp [chkE] at h
    | nil =>
      cases e with
      | Dict ks vs p =>
        cases ks <;> cases vs <;> simp only [chkE, Bool.false_eq_true] at h
        refine Snd.new c.ok snd_dnew (fun ρ S d S' q => ?_) rfl
        simp [ev, evs, pairUp, putAll] at q
        rw [← q.1]; rfl
      | _ => simp [chkE] at h
  | .bin op a b, m, X, W, sc, ts, e, c, h => by
    cases e <;> simp only [chkE, Bool.false_eq_true] at h
    rename_i x o y p
    simp only [Bool.and_eq_true, Bool.not_eq_true'] at h
    obtain ⟨⟨⟨rfl, h1⟩, h2⟩, h3⟩ := h
    have q : ev Φ (.bin op a b) = fun ρ S => (ev Φ a ρ S).bind fun x S1 => (ev Φ b ρ S1).bind fun y S2 => Out.opt S2 (binOp S2 op x y) := by funext ρ S; simp only [ev]
    refine Snd.plain c.ok ?_ rfl
    rw [q]
    exact snd_bin c.ok h1 ((sndE a false X W sc ts x c h2).x rfl) ((sndE b false X W sc ts y c h3).x rfl)
  | .neg a, m, X, W, sc, ts, e, c, h => by
    cases e with
    | UnaryOp o x p =>
      cases o <;> simp only [chkE, Bool.false_eq_true] at h
      simp only [Bool.and_eq_true, Bool.not_eq_true'] at h
      obtain ⟨rfl, h1⟩ := h
      have q : ev Φ (.neg a) = fun ρ S => (ev Φ a ρ S).bind fun x S1 => Out.opt S1 ((intOf x).map fun i => .int (-i)) := by funext ρ S; simp only [ev]
      refine Snd.plain c.ok ?_ rfl
      rw [q]
      exact snd_neg ((sndE a false X W sc ts x c h1).x rfl)
    | _ => simp [chkE] at h
  | .not a, m, X, W, sc, ts, e, c, h => by
    cases e with
    | UnaryOp o x p =>
      cases o <;> simp only [chkE, Bool.false_eq_true] at h
      simp only [Bool.and_eq_true, Bool.not_eq_true'] at h
      obtain ⟨rfl, h1⟩ := h
      have q : ev Φ (.not a) = fun ρ S => (ev Φ a ρ S).bind fun x S1 => Out.opt S1 ((truth S1 x).map fun b => .bl (!b)) := by funext ρ S; simp only [ev]
      have ih := sndE a false X W sc ts x c h1
      refine ⟨fun z => by (cases z), fun _ => ?_, fun _ ht => ?_, fun _ _ _ _ _ z => by cases z⟩
      · rw [q]; exact snd_not c.ok (ih.x rfl)
      · rw [q]; exact snd_notT (ih.t rfl (by simpa [chkT] using ht))
    | _ => simp [chkE] at h
  | .and a b, m, X, W, sc, ts, e, c, h => by
    cases e with
    | BoolOp o vs p =>
      cases o <;> cases vs with
      | nil => simp [chkE] at h
      | cons x vs =>
        cases vs with
        | nil => simp [chkE] at h
        | cons y r =>
          simp only [chkE, Bool.false_eq_true] at h
          try
            simp only [Bool.and_eq_true, Bool.not_eq_true'] at h
            obtain ⟨⟨rfl, h1⟩, h2⟩ := h
            have q : ev Φ (.and a b) = fun ρ S => (ev Φ a ρ S).bind fun x S1 => (Out.opt S1 (truth S1 x)).bind fun t S2 => if t = true then ev Φ b ρ S2 else .ok x S2 := by funext ρ S; simp only [ev]
            have ia := sndE a false X W sc ts x c h1
            have ib := sndE b false X W sc ts _ c h2
            have hw : chkT (.and a b) (.BoolOp .And (x :: y :: r) p) = true → PW X (.BoolOp .And (x :: y :: r) p) (tT F W (tst (ev Φ (.and a b)))) := by
              intro ht
              simp only [chkT, Bool.and_eq_true] at ht
              rw [q]
              exact snd_andT (ia.t rfl ht.1) (tail_pwA ib ht.2)
            refine ⟨fun z => by (cases z), fun _ => ?_, fun _ ht => (hw ht).pt, fun _ ht _ _ _ _ => hw ht⟩
            rw [q]
            exact snd_and c.ok (ia.x rfl) (tail_pe ib)
    | _ => simp [chkE] at h
  | .or a b, m, X, W, sc, ts, e, c, h => by
    cases e with
    | BoolOp o vs p =>
      cases o <;> cases vs with
      | nil => simp [chkE] at h
      | cons x vs =>
        cases vs with
        | nil => simp [chkE] at h
        | cons y r =>
          simp only [chkE, Bool.false_eq_true] at h
          try
            simp only [Bool.and_eq_true, Bool.not_eq_true'] at h
            obtain ⟨⟨rfl, h1⟩, h2⟩ := h
            have q : ev Φ (.or a b) = fun ρ S => (ev Φ a ρ S).bind fun x S1 => (Out.opt S1 (truth S1 x)).bind fun t S2 => if t = true then .ok x S2 else ev Φ b ρ S2 := by funext ρ S; simp only [ev]
            have ia := sndE a false X W sc ts x c h1
            have ib := sndE b false X W sc ts _ c h2
            have hw : chkT (.or a b) (.BoolOp .Or (x :: y :: r) p) = true → PW X (.BoolOp .Or (x :: y :: r) p) (tT F W (tst (ev Φ (.or a b)))) := by
              intro ht
              simp only [chkT, Bool.and_eq_true] at ht
              rw [q]
              exact snd_orT (ia.t rfl ht.1) (tail_pwO ib ht.2)
            refine ⟨fun z => by (cases z), fun _ => ?_, fun _ ht => (hw ht).pt, fun _ ht _ _ _ _ => hw ht⟩
            rw [q]
            exact snd_or c.ok (ia.x rfl) (tail_pe ib)
    | _ => simp [chkE] at h
  | .cmp op a b, m, X, W, sc, ts, e, c, h => by
    cases e with
    | Compare x os ys p =>
      cases os with
      | nil => simp [chkE] at h
      | cons o os =>
        cases os with
        | cons o2 os => cases ys <;> simp [chkE] at h
        | nil =>
          cases ys with
          | nil => simp [chkE] at h
          | cons y ys =>
            cases ys with
            | cons y2 ys => simp [chkE] at h
            | nil =>
              simp only [chkE, Bool.and_eq_true, Bool.not_eq_true'] at h
              obtain ⟨⟨⟨⟨rfl, h1⟩, h2⟩, h3⟩, h4⟩ := h
              have q : ev Φ (.cmp op a b) = fun ρ S => (ev Φ a ρ S).bind fun x S1 => (ev Φ b ρ S1).bind fun y S2 => Out.opt S2 ((cmpOp S2 op x y).map .bl) := by funext ρ S; simp only [ev]
              have ia := (sndE a false X W sc ts x c h3).x rfl
              have ib := (sndE b false X W sc ts y c h4).x rfl
              refine ⟨fun z => by (cases z), fun _ => ?_, fun _ ht => ?_, fun _ _ _ _ _ z => by cases z⟩
              · rw [q]; exact snd_cmp c.ok h1 (set_ne h2) ia ib
              · rw [q]; exact snd_cmpT c.ok h1 (set_ne h2) ia ib
    | _ => simp [chkE] at h
  | .chain op op' a b d, m, X, W, sc, ts, e, c, h => by
    cases e with
    | Compare x os ys p =>
      match os, ys, h with
      | [o, o'], [y, z], h =>
        simp only [chkE, Bool.and_eq_true, Bool.not_eq_true'] at h
        obtain ⟨⟨⟨⟨⟨⟨rfl, h1⟩, h2⟩, h3⟩, h4⟩, h5⟩, h6⟩ := h
        have q : ev Φ (.chain op op' a b d) = fun ρ S => (ev Φ a ρ S).bind fun x S1 => (ev Φ b ρ S1).bind fun y S2 => (Out.opt S2 (cmpOp S2 op x y)).bind fun t S3 =>
            if t = true then (ev Φ d ρ S3).bind fun z S4 => Out.opt S4 ((cmpOp S4 op' y z).map .bl) else .ok (.bl false) S3 := by funext ρ S; simp only [ev]
        have ia := (sndE a false X W sc ts x c h4).x rfl
        have ib := (sndE b false X W sc ts y c h5).x rfl
        have id := (sndE d false X W sc ts z c h6).x rfl
        refine ⟨fun z => by (cases z), fun _ => ?_, fun _ ht => ?_, fun _ _ _ _ _ z => by cases z⟩
        · rw [q]; exact snd_chain c.ok h1 h2 (set_ne h3) ia ib id
        · rw [q]; exact snd_chainT c.ok h1 h2 (set_ne h3) ia ib id
      | [], _, h => simp [chkE] at h
      | [_], _, h => simp [chkE] at h
      | _ :: _ :: _ :: _, _, h => simp [chkE] at h
      | [_, _], [], h => simp [chkE] at h
      | [_, _], [_], h => simp [chkE] at h
      | [_, _], _ :: _ :: _ :: _, h => simp [chkE] at h
    | _ => simp [chkE] at h
  | .ite t a b, m, X, W, sc, ts, e, c, h => by
    cases e with
    | IfExp z x y p =>
      simp only [chkE, Bool.and_eq_true, Bool.not_eq_true'] at h
      obtain ⟨⟨⟨⟨rfl, h1⟩, h2⟩, h3⟩, h4⟩ := h
      have q : ev Φ (.ite t a b) = fun ρ S => (ev Φ t ρ S).bind fun x S1 => (Out.opt S1 (truth S1 x)).bind fun t S2 => if t = true then ev Φ a ρ S2 else ev Φ b ρ S2 := by funext ρ S; simp only [ev]
      refine Snd.plain c.ok ?_ rfl
      rw [q]
      exact snd_ite ((sndE t false X W sc ts z c h1).t rfl h2) ((sndE a false X W sc ts x c h3).x rfl) ((sndE b false X W sc ts y c h4).x rfl)
    | _ => simp [chkE] at h
  | .idx a b, m, X, W, sc, ts, e, c, h => by
    cases e with
    | Subscript x y p =>
      simp only [chkE, Bool.and_eq_true, Bool.not_eq_true'] at h
      obtain ⟨⟨⟨rfl, h1⟩, h2⟩, h3⟩ := h
      have q : ev Φ (.idx a b) = fun ρ S => (ev Φ a ρ S).bind fun x S1 => (ev Φ b ρ S1).bind fun y S2 => Out.opt S2 (idxOp S2 x y) := by funext ρ S; simp only [ev]
      refine Snd.plain c.ok ?_ rfl
      rw [q]
      exact snd_idx c.ok h1 ((sndE a false X W sc ts x c h2).x rfl) ((sndE b false X W sc ts y c h3).x rfl)
    | _ => simp [chkE] at h
  | .slc a lo hi, m, X, W, sc, ts, e, c, h => by
    cases e with
    | Subscript x y p =>
      cases y with
      | Slice l u st p2 =>
        cases st with
        | some s => simp [chkE] at h
        | none =>
          simp only [chkE, Bool.and_eq_true, Bool.not_eq_true'] at h
          obtain ⟨⟨⟨rfl, h1⟩, h2⟩, h3⟩ := h
          have q : ev Φ (.slc a lo hi) = fun ρ S => (ev Φ a ρ S).bind fun x S1 => (evo Φ lo ρ S1).bind fun l S2 => (evo Φ hi ρ S2).bind fun h S3 => Out.opt S3 (slcOp S3 x l h) := by funext ρ S; simp only [ev]
          refine Snd.plain c.ok ?_ rfl
          rw [q]
          exact snd_slc c.ok ((sndE a false X W sc ts x c h1).x rfl) (sndO lo X W sc ts l c h2) (sndO hi X W sc ts u c h3)
      | _ => simp [chkE] at h
    | _ => simp [chkE] at h
  | .call f es, m, X, W, sc, ts, e, c, h => by
    cases e with
    | Call fn args kw p =>
      cases fn with
      | Name x p2 =>
        cases args with
        | nil => simp [chkE] at h
        | cons y ys =>
          cases kw with
          | cons a b => simp [chkE] at h
          | nil =>
            simp only [chkE, Bool.and_eq_true, Bool.not_eq_true'] at h
            obtain ⟨⟨⟨⟨⟨rfl, h1⟩, h2⟩, h3⟩, h4⟩, h5⟩ := h
            have q : ev Φ (.call f es) = fun ρ S => (evs Φ es ρ S).bind fun ds S1 => Φ f ds S1 := by funext ρ S; simp only [ev]
            obtain ⟨hA, hl⟩ := sndL es X W sc ts (y :: ys) c h5 (by simpa using h4)
            refine Snd.plain c.ok ?_ rfl
            rw [q]
            cases hh : C.hot with
            | false => exact snd_call c.ok c.tk (c.cold hh).room ((c.cold hh).calls (x, f, (y :: ys).length) (by simpa using h1)) (gl_of c.hsc h2) (nm_of h3).1 (by simpa using h4) hA
            | true =>
              obtain ⟨a0, c0, oe, _, hpn, hh0, _, _, hc⟩ := (c.hot hh).ex
              exact snd_callX c.ok c.tk (c.hot hh).room hh0 hpn (hc (x, f, (y :: ys).length) (by simpa using h1)) (gl_of c.hsc h2) (nm_of h3).1 (by simpa using h4) hA
      | _ => simp [chkE] at h
    | _ => simp [chkE] at h
  | .isi t a, m, X, W, sc, ts, e, c, h => by
    cases e with
    | Call fn args kw p =>
      cases fn with
      | Name x p2 =>
        match args, kw, h with
        | [z, w], [], h =>
          cases w with
          | Name y p3 =>
            simp only [chkE, Bool.and_eq_true, Bool.not_eq_true'] at h
            obtain ⟨⟨⟨⟨⟨⟨rfl, h1⟩, h2⟩, h3⟩, h4⟩, h5⟩, h6⟩ := h
            have q : ev Φ (.isi t a) = fun ρ S => (ev Φ a ρ S).bind fun x S1 => Out.opt S1 ((isTy S1 t x).map .bl) := by funext ρ S; simp only [ev]
            obtain rfl := beq_str h1
            refine Snd.plain c.ok ?_ rfl
            rw [q]
            have ia := (sndE a false X W sc ts z c h6).x rfl
            cases t <;> (obtain rfl := beq_str h3; exact snd_isi c.ok rfl (gl_of c.hsc h2) (c.no (by decide +kernel)) h5 ia (gl_of c.hsc h4) (c.no (by decide +kernel)) (by decide +kernel) (by decide +kernel) (by decide +kernel))
          | _ => simp [chkE] at h
        | [], _, h => simp [chkE] at h
        | [_], _, h => simp [chkE] at h
        | _ :: _ :: _ :: _, _, h => simp [chkE] at h
        | [_, w], _ :: _, h => cases w <;> simp [chkE] at h
      | _ => simp [chkE] at h
    | _ => simp [chkE] at h
  | .comp elt tg it cd, m, X, W, sc, ts, e, c, h => by
    cases e with
    | ListComp x gs scope p =>
      match gs, h with
      | [⟨t, iter, ifs, asy⟩], h =>
          simp only [chkE, Bool.and_eq_true, decide_eq_true_eq] at h
          simp only [Bool.not_eq_true'] at h
          obtain ⟨⟨⟨⟨⟨⟨⟨hh, rfl⟩, h1⟩, h2⟩, h3⟩, h4⟩, h5⟩, h6⟩ := h
          have bo : BlkOk X.N X.env.scope scope (ownOf C.N tg.own) := by rw [c.hN, c.hsc]; exact blkOk_by h1
          have hI := sndI it X W sc ts t iter c h4
          refine Snd.new c.ok ?_ ?_ rfl
          · rw [ev_comp]
            exact snd_comp (c.okc hh) c.nd hI bo (own_map _ _) (fun s H A cl fp => (c.blk hh bo.kind).pg hh h2) (fun s H A cl fp => sndC cd _ _ _ _ ifs (c.blk hh bo.kind) h6) (fun s H A cl fp => (sndE elt false _ _ _ _ x (c.blk hh bo.kind) h5).x rfl) (set_ne h3)
          · rw [ev_comp]
            exact compS_new
      | [], h => simp [chkE] at h
      | _ :: _ :: _, h => simp [chkE] at h
    | _ => simp [chkE] at h
  | .mut y, m, X, W, sc, ts, e, c, h => by
    simp only [chkE, Bool.and_eq_true, Bool.not_eq_true'] at h
    obtain ⟨rfl, h1⟩ := h
    have ih := (sndE y true X W sc ts e c h1).n rfl
    refine Snd.plain c.ok ?_ rfl
    rw [ev_mut]
    exact mut_new ih
  | .bi f es, m, X, W, sc, ts, e, c, h => by
    cases e with
    | Call fn args kw p =>
      cases fn with
      | Name x p2 =>
        cases kw with
        | cons a b => cases args <;> simp [chkE] at h
        | nil =>
          cases args with
          | nil => simp [chkE] at h
          | cons y ys =>
            have q : ev Φ (.bi f es) = fun ρ S => (evs Φ es ρ S).bind fun ds S1 => Out.opt S1 (biOp S1 f ds) := by funext ρ S; simp only [ev]
            simp only [chkE, Bool.and_eq_true, Bool.not_eq_true'] at h
            obtain ⟨⟨hh, h0⟩, h⟩ := h
            have one : ∀ z, chkL C sc es [z] = true → ∃ a, es = [a] ∧ chkE C false sc a z = true := by
              intro z hz
              match es, hz with
              | [a], hz => simp only [chkL, Bool.and_eq_true] at hz; exact ⟨a, rfl, hz.1⟩
              | [], hz => simp [chkL] at hz
              | _ :: _ :: _, hz => simp [chkL] at hz
            have gen : (!m && biB f x && (y :: ys).all notStar && chkL C sc es (y :: ys)) = true → Snd X F W Φ (.bi f es) m (.Call (.Name x p2) (y :: ys) [] p) := by
              intro h
              simp only [Bool.and_eq_true, Bool.not_eq_true'] at h
              obtain ⟨⟨⟨rfl, h1⟩, h3⟩, h4⟩ := h
              obtain ⟨hA, hl⟩ := sndL es X W sc ts (y :: ys) c h4 (by simpa using h3)
              obtain ⟨g1, g2, g3, g4⟩ := bi_fun c hh h1
              refine Snd.plain c.ok ?_ rfl
              rw [q]
              rcases g4 with ⟨id, r1, r2⟩ | ⟨T, r1, r2⟩
              · exact snd_callB r1 (gl_of c.hsc h0) g1 r2 (by simpa using h3) hA g2 g3
              · exact snd_callT r1 (gl_of c.hsc h0) g1 r2 (by simpa using h3) hA g2 g3
            cases f with
            | listRange =>
              simp only at h
              cases hr : rgArg y ys with
              | none => rw [hr] at h; cases h
              | some rz =>
                obtain ⟨r, z⟩ := rz
                rw [hr] at h
                simp only [Bool.and_eq_true] at h
                obtain ⟨⟨⟨⟨h1, h2⟩, h3⟩, h4⟩, h5⟩ := h
                obtain ⟨pr, pz, rfl, rfl⟩ := rg_of hr
                obtain rfl := beq_str h1
                obtain rfl := beq_str h2
                obtain ⟨a, rfl, ha⟩ := one z h5
                have ia := (sndE a false X W sc ts z c ha).x rfl
                have q2 : ev Φ (.bi .listRange [a]) = fun ρ S => (consS (ev Φ a) (fun _ S => .ok [] S) ρ S).bind fun ds S1 => Out.opt S1 (biOp S1 .listRange ds) := by rw [q, evs_cons, evs_nil]
                have hN : PE X (.Call (.Name "list" p2) [.Call (.Name "range" pr) [z] [] pz] [] p) (tN F W (ev Φ (.bi .listRange [a]))) := by
                  rw [q2]
                  exact snd_listRange1 (c.okc hh) (gl_of c.hsc h0) (c.no (by decide +kernel)) (gl_of c.hsc h3) (c.no (by decide +kernel)) h4 ia
                refine Snd.new c.ok hN ?_ rfl
                rw [q]
                exact bi_new new_listRange
            | tupRange =>
              simp only at h
              cases hr : rgArg y ys with
              | none => rw [hr] at h; cases h
              | some rz =>
                obtain ⟨r, z⟩ := rz
                rw [hr] at h
                simp only [Bool.and_eq_true, Bool.not_eq_true'] at h
                obtain ⟨⟨⟨⟨⟨rfl, h1⟩, h2⟩, h3⟩, h4⟩, h5⟩ := h
                obtain ⟨pr, pz, rfl, rfl⟩ := rg_of hr
                obtain rfl := beq_str h1
                obtain rfl := beq_str h2
                obtain ⟨a, rfl, ha⟩ := one z h5
                have ia := (sndE a false X W sc ts z c ha).x rfl
                have q2 : ev Φ (.bi .tupRange [a]) = fun ρ S => (consS (ev Φ a) (fun _ S => .ok [] S) ρ S).bind fun ds S1 => Out.opt S1 (biOp S1 .tupRange ds) := by rw [q, evs_cons, evs_nil]
                refine Snd.plain c.ok ?_ rfl
                rw [q2]
                exact snd_tupRange1 (c.okc hh) (gl_of c.hsc h0) (c.no (by decide +kernel)) (gl_of c.hsc h3) (c.no (by decide +kernel)) h4 ia
            | sortedSet =>
              simp only at h
              cases hr : rgArg y ys with
              | none => rw [hr] at h; cases h
              | some rz =>
                obtain ⟨r, z⟩ := rz
                rw [hr] at h
                simp only [Bool.and_eq_true, Bool.not_eq_true'] at h
                obtain ⟨⟨⟨⟨⟨rfl, h1⟩, h2⟩, h3⟩, h4⟩, h5⟩ := h
                obtain ⟨pr, pz, rfl, rfl⟩ := rg_of hr
                obtain rfl := beq_str h1
                obtain rfl := beq_str h2
                obtain ⟨a, rfl, ha⟩ := one z h5
                have ia := (sndE a false X W sc ts z c ha).x rfl
                have q2 : ev Φ (.bi .sortedSet [a]) = fun ρ S => (consS (ev Φ a) (fun _ S => .ok [] S) ρ S).bind fun ds S1 => Out.opt S1 (biOp S1 .sortedSet ds) := by rw [q, evs_cons, evs_nil]
                refine Snd.plain c.ok ?_ rfl
                rw [q2]
                exact snd_sortedSet (c.okc hh) (gl_of c.hsc h0) (c.no (by decide +kernel)) (gl_of c.hsc h3) (c.no (by decide +kernel)) h4 ia
            | list =>
              simp only [Bool.and_eq_true] at h
              obtain ⟨⟨⟨h1, h2⟩, h3⟩, h4⟩ := h
              obtain rfl := beq_str h1
              cases ys with
              | cons y2 ys => cases h2
              | nil =>
                obtain ⟨a, rfl, ha⟩ := one y h4
                have ia := (sndE a false X W sc ts y c ha).x rfl
                have q2 : ev Φ (.bi .list [a]) = fun ρ S => (consS (ev Φ a) (fun _ S => .ok [] S) ρ S).bind fun ds S1 => Out.opt S1 (biOp S1 .list ds) := by rw [q, evs_cons, evs_nil]
                have hN : PE X (.Call (.Name "list" p2) [y] [] p) (tN F W (ev Φ (.bi .list [a]))) := by
                  rw [q2]
                  exact snd_listN c.ok (gl_of c.hsc h0) (c.no (by decide +kernel)) h3 ia
                refine Snd.new c.ok hN ?_ rfl
                rw [q]
                exact bi_new new_list
            | dict =>
              simp only [Bool.and_eq_true] at h
              obtain ⟨⟨⟨h1, h2⟩, h3⟩, h4⟩ := h
              obtain rfl := beq_str h1
              cases ys with
              | cons y2 ys => cases h2
              | nil =>
                obtain ⟨a, rfl, ha⟩ := one y h4
                have ia := (sndE a false X W sc ts y c ha).x rfl
                have q2 : ev Φ (.bi .dict [a]) = fun ρ S => (consS (ev Φ a) (fun _ S => .ok [] S) ρ S).bind fun ds S1 => Out.opt S1 (biOp S1 .dict ds) := by rw [q, evs_cons, evs_nil]
                have hN : PE X (.Call (.Name "dict" p2) [y] [] p) (tN F W (ev Φ (.bi .dict [a]))) := by
                  rw [q2]
                  exact snd_dictN c.ok (gl_of c.hsc h0) (c.no (by decide +kernel)) h3 ia
                refine Snd.new c.ok hN ?_ rfl
                rw [q]
                exact bi_new new_dict
            | _ => exact gen h
      | _ => simp [chkE] at h
    | _ => simp [chkE] at h
  | .meth mt o es, m, X, W, sc, ts, e, c, h => by
    cases e with
    | Call fn args kw cp =>
      cases fn with
      | Attribute y name ap =>
        cases kw with
        | cons a b => simp [chkE] at h
        | nil =>
          simp only [chkE, Bool.and_eq_true, Bool.not_eq_true', decide_eq_true_eq] at h
          obtain ⟨⟨⟨⟨⟨⟨⟨⟨rfl, h1⟩, h2⟩, h3⟩, h4⟩, h5⟩, h6⟩, h7⟩, h8⟩ := h
          have q := ev_meth (Φ := Φ) mt o es
          have ho := (sndE o false X W sc ts y c h7).x rfl
          obtain ⟨hA, hl⟩ := sndL es X W sc ts args c h8 h4
          refine Snd.plain c.ok ?_ rfl
          rw [q]
          cases args with
          | nil =>
            have e : mt = .pop0 := by simpa using h6
            subst e
            obtain rfl := beq_str h1
            cases es with
            | cons a b => simp [chkL] at h8
            | nil =>
              rw [evs_nil]
              exact snd_meth0 c.ok PySem.F.plainAttrs_list PySem.F.slot_list_pop PySem.F.type_list_pop (m_pop0 c.ok) (tf_all (by simp)) h2 h3 ho
          | cons y2 ys =>
            cases mt with
            | append => obtain rfl := beq_str h1; exact snd_meth c.ok PySem.F.plainAttrs_list PySem.F.slot_list_append PySem.F.type_list_append (m_append c.ok) (tf_all (by simp)) h2 h3 h4 h5 ho hA
            | extend => obtain rfl := beq_str h1; exact snd_meth c.ok PySem.F.plainAttrs_list PySem.F.slot_list_extend PySem.F.type_list_extend (m_extend c.ok) (tf_all (by simp)) h2 h3 h4 h5 ho hA
            | insert => obtain rfl := beq_str h1; exact snd_meth c.ok PySem.F.plainAttrs_list PySem.F.slot_list_insert PySem.F.type_list_insert (m_insert c.ok) (tf_all (by simp)) h2 h3 h4 h5 ho hA
            | pop1 => obtain rfl := beq_str h1; exact snd_meth c.ok PySem.F.plainAttrs_list PySem.F.slot_list_pop PySem.F.type_list_pop (m_pop1 c.ok) (tf_all (by simp)) h2 h3 h4 h5 ho hA
            | remove => obtain rfl := beq_str h1; exact snd_meth c.ok PySem.F.plainAttrs_list PySem.F.slot_list_remove PySem.F.type_list_remove (m_remove c.ok) (tf_all (by simp)) h2 h3 h4 h5 ho hA
            | count => obtain rfl := beq_str h1; exact snd_meth c.ok PySem.F.plainAttrs_list PySem.F.slot_list_count PySem.F.type_list_count (m_count c.ok) (tf_all (by simp)) h2 h3 h4 h5 ho hA
            | index => obtain rfl := beq_str h1; exact snd_meth c.ok PySem.F.plainAttrs_list PySem.F.slot_list_index PySem.F.type_list_index (m_index c.ok) (tf_all (by simp)) h2 h3 h4 h5 ho hA
            | pop0 => simp at h6
            | _ => simp [mtB] at h1
      | _ => simp [chkE] at h
    | _ => simp [chkE] at h
  | .chain3 _ _ _ _ _ _ _, m, X, W, sc, ts, e, c, h => by simp [chkE] at h
  | .rev a, m, X, W, sc, ts, e, c, h => by
    simp only [chkE] at h
    cases hr : revArg e with
    | none => rw [hr] at h; cases h
    | some x =>
      rw [hr] at h
      simp only [Bool.and_eq_true, Bool.not_eq_true'] at h
      obtain ⟨rfl, h1⟩ := h
      obtain ⟨k, p1, p2, p3, pos, rfl⟩ := rev_of hr
      have q : ev Φ (.rev a) = fun ρ S => (ev Φ a ρ S).bind fun x S1 => Out.opt S1 (revOp S1 x) := by funext ρ S; simp only [ev]
      refine Snd.plain c.ok ?_ rfl
      rw [q]
      exact snd_revL c.ok ((sndE a false X W sc ts x c h1).x rfl)
  | .isx n a, m, X, W, sc, ts, e, c, h => by
    cases e with
    | Call fn args kw p =>
      cases fn with
      | Name x p2 =>
        match args, kw, h with
        | [z, w], [], h =>
          cases w with
          | Name y p3 =>
            simp only [chkE, Bool.and_eq_true, Bool.or_eq_true, Bool.not_eq_true', beq_iff_eq] at h
            obtain ⟨⟨⟨⟨⟨⟨⟨rfl, h1⟩, h2⟩, hh⟩, h3⟩, h4⟩, h5⟩, h6⟩ := h
            have q : ev Φ (.isx n a) = fun ρ S => (ev Φ a ρ S).bind fun x S1 => Out.opt S1 ((isXc n x).map .bl) := by funext ρ S; simp only [ev]
            refine Snd.plain c.ok ?_ rfl
            rw [q]
            exact snd_isx c hh h1 (gl_of c.hsc h2) h3 (gl_of c.hsc h4) h5 ((sndE a false X W sc ts z c h6).x rfl)
          | _ => simp [chkE] at h
        | [], _, h => simp [chkE] at h
        | [_], _, h => simp [chkE] at h
        | _ :: _ :: _ :: _, _, h => simp [chkE] at h
        | [_, w], _ :: _, h => cases w <;> simp [chkE] at h
      | _ => simp [chkE] at h
    | _ => simp [chkE] at h
  | .fld _ _, m, X, W, sc, ts, e, c, h => by simp [chkE] at h
  | .meth' _ _, m, X, W, sc, ts, e, c, h => by simp [chkE] at h
theorem sndO : ∀ (o : Option Exp) (X : Cx) (W : WX) (sc ts : Scope) (x : Option Expr), CxOk X F W C sc ts k Φ → chkO C sc o x = true → PO X x (tO F W (evo Φ o))
  | none, X, W, sc, ts, x, c, h => by
    cases x with
    | none =>
      have q : evo Φ none = fun _ S => .ok none S := by funext ρ S; simp only [evo]
      rw [q]
      exact snd_none
    | some y => simp [chkO] at h
  | some a, X, W, sc, ts, x, c, h => by
    cases x with
    | none => simp [chkO] at h
    | some y =>
      simp only [chkO] at h
      have q : evo Φ (some a) = fun ρ S => (ev Φ a ρ S).bind fun d S1 => Out.opt S1 ((intOf d).map some) := by funext ρ S; simp only [evo]
      rw [q]
      exact snd_some ((sndE a false X W sc ts y c h).x rfl)
theorem sndC : ∀ (o : Option Exp) (X : Cx) (W : WX) (sc ts : Scope) (xs : List Expr), CxOk X F W C sc ts k Φ → chkC C sc o xs = true → PTs X xs (tT F W (evc Φ o))
  | none, X, W, sc, ts, xs, c, h => by
    cases xs with
    | nil =>
      have q : evc Φ none = fun _ S => .ok true S := by funext ρ S; simp only [evc]
      rw [q]
      exact pts_none
    | cons y ys => simp [chkC] at h
  | some a, X, W, sc, ts, xs, c, h => by
    match xs, h with
    | [y], h =>
      simp only [chkC, Bool.and_eq_true] at h
      have q : evc Φ (some a) = tst (ev Φ a) := by funext ρ S; simp only [evc, tst]
      rw [q]
      exact pts_one ((sndE a false X W sc ts y c h.1).t rfl h.2)
    | [], h => simp [chkC] at h
    | _ :: _ :: _, h => simp [chkC] at h
theorem sndI : ∀ (it : Itr) (X : Cx) (W : WX) (sc ts : Scope) (t e : Expr), CxOk X F W C sc ts k Φ → chkI C sc it t e = true → PI X t e (tI F W (evIt Φ it))
  | .it a, X, W, sc, ts, t, e, c, h => by
    simp only [chkI] at h
    have q : evIt Φ (.it a) = fun ρ S => (ev Φ a ρ S).bind fun d S1 => Out.opt S1 (walkOf S1 d) := by funext ρ S; simp only [evIt]
    rw [q]
    exact sndI_it c.ok ((sndE a false X W sc ts e c h).x rfl)
  | .rng1 a, X, W, sc, ts, t, e, c, h => by
    cases e with
    | Call fn args kw p =>
      cases fn with
      | Name x p2 =>
        match args, kw, h with
        | [z], [], h =>
          simp only [chkI, Bool.and_eq_true] at h
          obtain ⟨⟨⟨h1, h2⟩, h3⟩, h4⟩ := h
          obtain rfl := beq_str h1
          have q : evIt Φ (.rng1 a) = fun ρ S => (ev Φ a ρ S).bind fun d S1 => Out.opt S1 ((intOf d).bind fun j => if -1000000 < j ∧ j < big then some ⟨rangeI 0 j, none⟩ else none) := by funext ρ S; simp only [evIt]
          rw [q]
          exact sndI_rng1 c.ok (gl_of c.hsc h2) (c.no (by decide +kernel)) h3 ((sndE a false X W sc ts z c h4).x rfl)
        | [], _, h => simp [chkI] at h
        | _ :: _ :: _, _, h => simp [chkI] at h
        | [_], _ :: _, h => simp [chkI] at h
      | _ => simp [chkI] at h
    | _ => simp [chkI] at h
  | .rng2 a b, X, W, sc, ts, t, e, c, h => by
    cases e with
    | Call fn args kw p =>
      cases fn with
      | Name x p2 =>
        match args, kw, h with
        | [z, u], [], h =>
          simp only [chkI, Bool.and_eq_true] at h
          obtain ⟨⟨⟨⟨⟨h1, h2⟩, h3⟩, h4⟩, h5⟩, h6⟩ := h
          obtain rfl := beq_str h1
          have q : evIt Φ (.rng2 a b) = fun ρ S => (ev Φ a ρ S).bind fun x S1 => (ev Φ b ρ S1).bind fun y S2 => Out.opt S2 ((intOf x).bind fun i => (intOf y).bind fun j =>
              if rgOk i j then some ⟨rangeI i j, none⟩ else none) := by funext ρ S; simp only [evIt]
          rw [q]
          exact sndI_rng2 c.ok (gl_of c.hsc h2) (c.no (by decide +kernel)) h3 h4 ((sndE a false X W sc ts z c h5).x rfl) ((sndE b false X W sc ts u c h6).x rfl)
        | [], _, h => simp [chkI] at h
        | [_], _, h => simp [chkI] at h
        | _ :: _ :: _ :: _, _, h => simp [chkI] at h
        | [_, _], _ :: _, h => simp [chkI] at h
      | _ => simp [chkI] at h
    | _ => simp [chkI] at h
  | .zip a b, X, W, sc, ts, t, e, c, h => by
    cases t with
    | Tuple tes tk tp =>
      cases e with
      | Call fn args kw p =>
        cases fn with
        | Name x p2 =>
          match args, kw, h with
          | [z, u], [], h =>
            simp only [chkI, Bool.and_eq_true] at h
            obtain ⟨⟨⟨⟨⟨h1, h2⟩, h3⟩, h4⟩, h5⟩, h6⟩ := h
            obtain rfl := beq_str h1
            have q : evIt Φ (.zip a b) = fun ρ S => (ev Φ a ρ S).bind fun x S1 => (ev Φ b ρ S1).bind fun y S2 => Out.opt S2 (walkZip S2 x y) := by funext ρ S; simp only [evIt]
            rw [q]
            exact sndI_zip c.ok (gl_of c.hsc h2) (c.no (by decide +kernel)) h3 h4 ((sndE a false X W sc ts z c h5).x rfl) ((sndE b false X W sc ts u c h6).x rfl)
          | [], _, h => simp [chkI] at h
          | [_], _, h => simp [chkI] at h
          | _ :: _ :: _ :: _, _, h => simp [chkI] at h
          | [_, _], _ :: _, h => simp [chkI] at h
        | _ => simp [chkI] at h
      | _ => simp [chkI] at h
    | _ => simp [chkI] at h
  | .enum a, X, W, sc, ts, t, e, c, h => by
    cases t with
    | Tuple tes tk tp =>
      cases e with
      | Call fn args kw p =>
        cases fn with
        | Name x p2 =>
          match args, kw, h with
          | [z], [], h =>
            simp only [chkI, Bool.and_eq_true] at h
            obtain ⟨⟨⟨h1, h2⟩, h3⟩, h4⟩ := h
            obtain rfl := beq_str h1
            have q : evIt Φ (.enum a) = fun ρ S => (ev Φ a ρ S).bind fun d S1 => Out.opt S1 (walkEnum S1 d) := by funext ρ S; simp only [evIt]
            rw [q]
            exact sndI_enum c.ok (gl_of c.hsc h2) (c.no (by decide +kernel)) h3 ((sndE a false X W sc ts z c h4).x rfl)
          | [], _, h => simp [chkI] at h
          | _ :: _ :: _, _, h => simp [chkI] at h
          | [_], _ :: _, h => simp [chkI] at h
        | _ => simp [chkI] at h
      | _ => simp [chkI] at h
    | _ => simp [chkI] at h
theorem sndL : ∀ (es : List Exp) (X : Cx) (W : WX) (sc ts : Scope) (xs : List Expr), CxOk X F W C sc ts k Φ → chkL C sc es xs = true → xs.all notStar = true → PA X xs (tA F W (evs Φ es)) ∧ es.length = xs.length
  | [], X, W, sc, ts, xs, c, h, hs => by
    cases xs with
    | nil => rw [evs_nil]; exact ⟨snd_nil, rfl⟩
    | cons y ys => simp [chkL] at h
  | e :: es, X, W, sc, ts, xs, c, h, hs => by
    cases xs with
    | nil => simp [chkL] at h
    | cons y ys =>
      simp only [chkL, Bool.and_eq_true] at h
      rw [List.all_cons, Bool.and_eq_true] at hs
      obtain ⟨q1, q2⟩ := sndL es X W sc ts ys c h.2 hs.2
      rw [evs_cons]
      exact ⟨snd_cons hs.1 ((sndE e false X W sc ts y c h.1).x rfl) q1, by simp [q2]⟩
end
end
end Pf
end

section 
set_option Elab.async false
set_option linter.all false
set_option maxRecDepth 100000
set_option maxHeartbeats 8000000
/-! PgC: the soundness of what is checked: statements, defs. -/
namespace Pf
open PySem PySem.Spec PyProof.Rows L2

section
variable {F : Fx} {C : Ck} {k : Nat} {Φ : Nat → List D → Sto → Out D}
theorem isLocal_of {sc : Scope} {x : Str} (h : isLocal sc x = true) : sc.names.lookup x = some .local := by
  unfold isLocal at h
  split at h
  · assumption
  · cases h
theorem local_not {sc : Scope} {x : Str} (h : isLocal sc x = false) : sc.names.lookup x ≠ some .local := fun q => by
  unfold isLocal at h
  rw [q] at h
  cases h
theorem sw_false {elt : Expr} {gs : List Comprehension} {scope : Scope} {pos py : Pos} {y : Str} {l : Nat} {env : PySem.Env} (h : env.scope.names.lookup y ≠ some .local) : swapsWith (.ListComp elt gs scope pos) (some (.Name y py)) l env = pure false := by
  unfold swapsWith
  have e : (env.kindOf y == some NameKind.local) = false := by
    unfold Env.kindOf
    exact beq_eq_false_iff_ne.mpr h
  simp only [e]
  simp
theorem execs_nil : execs Φ [] = fun ρ S => .nx ρ S := by funext ρ S; simp only [execs]
theorem execs_cons (s : Stm) (ss : List Stm) : execs Φ (s :: ss) = fun ρ S => (exec Φ s ρ S).seq (execs Φ ss) := by funext ρ S; simp only [execs]
theorem exec_for (tg : Tgt) (it : Itr) (b : List Stm) : exec Φ (.for tg it b) = fun ρ S => (evIt Φ it ρ S).res ρ fun w S1 => forL (forB tg (execs Φ b)) w w.xs ρ S1 := by
  funext ρ S
  simp only [exec]
  rfl
theorem exec_wh (c : Exp) (b : List Stm) : exec Φ (.wh c b) = fun ρ S => whileL (tst (ev Φ c)) (execs Φ b) ρ S := by
  funext ρ S
  simp only [exec]
  rfl
theorem exec_ite (c : Exp) (a b : List Stm) : exec Φ (.ite c a b) = fun ρ S => (ev Φ c ρ S).res ρ fun x S1 => match truth S1 x with
    | some true => execs Φ a ρ S1
    | some false => execs Φ b ρ S1
    | none => .stuck := by
  funext ρ S
  simp only [exec]
  all_goals rfl
theorem exec_asgT (is : List Nat) (e : Exp) : exec Φ (.asgT is e) = fun ρ S => (ev Φ e ρ S).res ρ fun d S1 => match (Tgt.tp is).put d ρ with
      | some ρ' => .nx ρ' S1
      | none => .stuck := by
  funext ρ S
  simp only [exec]
  all_goals rfl
theorem exec_asgSub (o kk e : Exp) : exec Φ (.asgSub o kk e) = fun ρ S => (ev Φ e ρ S).res ρ fun v S1 => (ev Φ o ρ S1).res ρ fun x S2 => (ev Φ kk ρ S2).res ρ fun y S3 => match putOp S3 x y v with
    | some S4 => .nx ρ S4
    | none => .stuck := by
  funext ρ S
  simp only [exec]
  all_goals rfl
theorem exec_swp (o kk o' kk' e e' : Exp) : exec Φ (.swp o kk o' kk' e e') = fun ρ S => (ev Φ e ρ S).res ρ fun v S1 => (ev Φ e' ρ S1).res ρ fun v' S2 => (ev Φ o ρ S2).res ρ fun x S3 => (ev Φ kk ρ S3).res ρ fun y S4 => match putL S4 x y v with
    | some S5 => (ev Φ o' ρ S5).res ρ fun x' S6 => (ev Φ kk' ρ S6).res ρ fun y' S7 => match putL S7 x' y' v' with
      | some S8 => .nx ρ S8
      | none => .stuck
    | none => .stuck := by
  funext ρ S
  simp only [exec]
  all_goals rfl
theorem asg_of {sc : Scope} {y : Str} {py : Pos} {v : Expr} (h : asgB sc y py v = true) : (noLcT v = true ∧ locB sc y = true) ∨ ∃ x gs scope pos, v = .ListComp x gs scope pos ∧
    ((isLocal sc y = true ∧ (py.line == pos.line) = true ∧ (scope.names.any fun (n, k) => n == y && (k == .local || k == .cell)) = false) ∨ (isLocal sc y = false ∧ locB sc y = true)) := by
  unfold asgB at h
  split at h
  · right
    rename_i x gs scope pos
    refine ⟨x, gs, scope, pos, rfl, ?_⟩
    simp only [Bool.or_eq_true, Bool.and_eq_true, Bool.not_eq_true'] at h
    rcases h with ⟨⟨h4, h5⟩, h6⟩ | ⟨h4, h5⟩
    · exact .inl ⟨h4, h5, h6⟩
    · exact .inr ⟨h4, h5⟩
  · left
    rw [Bool.and_eq_true] at h
    exact h
theorem swT_of {t : Expr} {q : Expr × Expr × Expr × Expr} (h : swT t = some q) : ∃ p1 p2 kk p3, t = .Tuple [.Subscript q.1 q.2.1 p1, .Subscript q.2.2.1 q.2.2.2 p2] kk p3 := by
  unfold swT at h
  split at h
  · cases h; exact ⟨_, _, _, _, rfl⟩
  · cases h
theorem swV_of {t : Expr} {q : Expr × Expr} (h : swV t = some q) : ∃ kk p3, t = .Tuple [q.1, q.2] kk p3 := by
  unfold swV at h
  split at h
  · cases h; exact ⟨_, _, rfl⟩
  · cases h
theorem sw_of {s : Stmt} {q : Sw} (h : swArg s = some q) : ∃ p1 p2 k1 p3 k2 p4 p5, s = .Assign [.Tuple [.Subscript q.a q.b p1, .Subscript q.a' q.b' p2] k1 p3] (.Tuple [q.v, q.v'] k2 p4) p5 := by
  unfold swArg at h
  split at h
  · rename_i t v p
    cases h1 : swT t with
    | none => simp [h1] at h
    | some w =>
      cases h2 : swV v with
      | none => simp [h1, h2] at h
      | some w2 =>
        obtain ⟨a, b, a', b'⟩ := w
        obtain ⟨v1, v2⟩ := w2
        simp only [h1, h2, Option.some.injEq] at h
        subst h
        obtain ⟨p1, p2, kk, p3, rfl⟩ := swT_of h1
        obtain ⟨k2, p4, rfl⟩ := swV_of h2
        exact ⟨_, _, _, _, _, _, _, rfl⟩
  · cases h
theorem comp_of {sc : Scope} {m : Bool} {elt : Exp} {tg : Tgt} {it : Itr} {cd : Option Exp} {v : Expr} (h : chkE C m sc (.comp elt tg it cd) v = true) : ∃ x t iter ifs scope pos, v = .ListComp x [⟨t, iter, ifs, 0⟩] scope pos ∧ C.hot = false ∧
    blkC C.N sc scope (ownOf C.N tg.own) = true ∧ tgtB C.N scope tg t = true ∧ noSet iter = true ∧ chkI C sc it t iter = true ∧ chkE C false (reSc sc scope) elt x = true ∧ chkC C (reSc sc scope) cd ifs = true := by
  cases v with
  | ListComp x gs scope p =>
    match gs, h with
    | [⟨t, iter, ifs, asy⟩], h =>
      simp only [chkE, Bool.and_eq_true, decide_eq_true_eq, Bool.not_eq_true'] at h
      obtain ⟨⟨⟨⟨⟨⟨⟨hh, rfl⟩, g1⟩, g2⟩, g3⟩, g4⟩, g5⟩, g6⟩ := h
      exact ⟨x, t, iter, ifs, scope, p, rfl, hh, g1, g2, g3, g4, g5, g6⟩
    | [], h => simp [chkE] at h
    | _ :: _ :: _, h => simp [chkE] at h
  | _ => simp [chkE] at h
/-- what stands for a comprehension is one -/
theorem lc_only {sc : Scope} {e : Exp} {x : Expr} {gs : List Comprehension} {scope : Scope} {pos : Pos} (h : chkE C false sc e (.ListComp x gs scope pos) = true) (h1 : ¬ ∃ elt tg it cd, e = .comp elt tg it cd) (h2 : ¬ ∃ elt tg it cd, e = .mut (.comp elt tg it cd)) : False := by
  cases e with
  | comp elt tg it cd => exact h1 ⟨_, _, _, _, rfl⟩
  | «mut» e2 =>
    rw [chkE] at h
    rw [Bool.and_eq_true] at h
    replace h := h.2
    cases e2 with
    | comp elt tg it cd => exact h2 ⟨_, _, _, _, rfl⟩
    | «mut» e3 => rw [chkE] at h; simp at h
    | dic t kvs => cases kvs <;> simp [chkE] at h
    | _ => simp [chkE, revArg] at h
  | dic t kvs => cases kvs <;> simp [chkE] at h
  | _ => simp [chkE, revArg] at h
/-- a name takes a value -/
theorem snd_asg (i : Nat) (e : Exp) (X : Cx) (W : WX) (sc : Scope) (y : Str) (py p : Pos) (v : Expr) (c : CxOk X F W C sc sc k Φ) (h1 : C.N[i]? = some y) (h2 : chkE C false sc e v = true) (h3 : asgB sc y py v = true) :
    PS X (.Assign [.Name y py] v p) (tS F W (exec Φ (.asg i e))) := by
  have q : exec Φ (.asg i e) = fun ρ S => (ev Φ e ρ S).res ρ fun d S1 => .nx (ρ.set i (some d)) S1 := by funext ρ S; simp only [exec]
  rw [q]
  have he := (sndE e false X W sc sc v c h2).x rfl
  have h1' : X.N[i]? = some y := by rw [c.hN]; exact h1
  rcases asg_of h3 with ⟨hlc, hl⟩ | ⟨x, gs, scope, pos, rfl, ⟨h4, h5, h6⟩ | ⟨h4, h5⟩⟩
  · have hl2 := c.tgs y hl
    exact sndS_asg c.nd h1' hl2.1 hl2.2 hlc he
  · have hloc := isLocal_of h4
    have hy : X.env.scope.names.lookup y = some .local := by rw [c.hsc]; exact hloc
    by_cases hc1 : ∃ elt tg it cd, e = .comp elt tg it cd
    · obtain ⟨elt, tg, it, cd, rfl⟩ := hc1
      obtain ⟨x', t, iter, ifs, scope', pos', e1, hh, g1, g2, g3, g4, g5, g6⟩ := comp_of h2
      cases e1
      have bo : BlkOk X.N X.env.scope scope (ownOf C.N tg.own) := by rw [c.hN, c.hsc]; exact blkOk_by g1
      rw [ev_comp]
      exact sndS_setLc (c.okc hh) c.nd h1' hy (sw_true (by rw [c.hsc]; exact c.kind) hy h5 h6) (sndI it X W sc sc t iter c g4) bo (own_map _ _) (fun s H A cl fp => (c.blk hh bo.kind).pg hh g2) (fun s H A cl fp => sndC cd _ _ _ _ ifs (c.blk hh bo.kind) g6) (fun s H A cl fp => (sndE elt false _ _ _ _ x (c.blk hh bo.kind) g5).x rfl) (set_ne g3)
    · by_cases hc2 : ∃ elt tg it cd, e = .mut (.comp elt tg it cd)
      · obtain ⟨elt, tg, it, cd, rfl⟩ := hc2
        have h2' : chkE C true sc (.comp elt tg it cd) (.ListComp x gs scope pos) = true := by
          rw [chkE] at h2
          simpa using h2
        obtain ⟨x', t, iter, ifs, scope', pos', e1, hh, g1, g2, g3, g4, g5, g6⟩ := comp_of h2'
        cases e1
        have bo : BlkOk X.N X.env.scope scope (ownOf C.N tg.own) := by rw [c.hN, c.hsc]; exact blkOk_by g1
        rw [ev_mut, ev_comp]
        exact sndS_setLcM (c.okc hh) c.nd h1' hy (sw_true (by rw [c.hsc]; exact c.kind) hy h5 h6) (sndI it X W sc sc t iter c g4) bo (own_map _ _) (fun s H A cl fp => (c.blk hh bo.kind).pg hh g2) (fun s H A cl fp => sndC cd _ _ _ _ ifs (c.blk hh bo.kind) g6) (fun s H A cl fp => (sndE elt false _ _ _ _ x (c.blk hh bo.kind) g5).x rfl) (set_ne g3)
      · exfalso
        exact lc_only h2 hc1 hc2
  · have hl2 := c.tgs y h5
    refine ps_of fun σ H D μ ρ S z cc w => ⟨_, ps_set c.nd h1' hl2.1 he (sw_false (by rw [c.hsc]; exact local_not h4)) hl2.2, ?_⟩
    exact tG.of cc (WishS.res w cc.env fun d S1 μ1 H1 v t1 r1 w1 z' => w1 μ1 H1 _ ⟨t1.sz, Step.refl, t1.sim⟩ ((cc.env.mono t1.st).set r1))
end
end Pf
end

section 
set_option Elab.async false
set_option linter.all false
set_option maxRecDepth 100000
set_option maxHeartbeats 8000000
/-! PgCt: raise; try with one clause. -/
namespace Pf
open PySem PySem.Spec PyProof.Rows L2
/-! ### data without an exception -/
section
variable {K : PySem.W.Frag} {ξ ξ0 : List (Addr × Nat)} {ic : Nat → Addr} {fn : Nat → List Str} {μ μ0 : Mu} {S : Sto} {H H0 : Hp}
mutual
theorem Rel.wide (h0 : ξ0 = []) : ∀ {d : D} {v : V}, Rel K ξ0 μ H d v → Rel K ξ μ H d v
  | _, _, .non => .non
  | _, _, .bl b => .bl b
  | _, _, .int i => .int i
  | _, _, .str z => .str z
  | _, _, .tup n e r => .tup n e (RelL.wide h0 r)
  | _, _, .lst n e r => .lst n e (RelL.wide h0 r)
  | _, _, .dK n e r => .dK n e (RelL.wide h0 r)
  | _, _, .dT n e r => .dT n e (RelL.wide h0 r)
  | _, _, .ref q => .ref q
  | _, _, .scr n r => .scr n r
  | _, _, .scrK q => .scrK q
  | _, _, .exc q => by rw [h0] at q; cases q
theorem RelL.wide (h0 : ξ0 = []) : ∀ {ds : List D} {vs : List V}, RelL K ξ0 μ H ds vs → RelL K ξ μ H ds vs
  | _, _, .nil => .nil
  | _, _, .cons a r => .cons (Rel.wide h0 a) (RelL.wide h0 r)
end
mutual
theorem Rel.nx0 (h0 : ξ0 = []) : ∀ {d : D} {v : V}, Rel K ξ0 μ H d v → d.nx = true
  | _, _, .non => rfl
  | _, _, .bl b => rfl
  | _, _, .int i => rfl
  | _, _, .str z => rfl
  | _, _, .tup n e r => by simp only [D.nx]; exact RelL.nx0 h0 r
  | _, _, .lst n e r => by simp only [D.nx]; exact RelL.nx0 h0 r
  | _, _, .dK n e r => by simp only [D.nx]; exact RelL.nx0 h0 r
  | _, _, .dT n e r => by simp only [D.nx]; exact RelL.nx0 h0 r
  | _, _, .ref q => rfl
  | _, _, .scr n r => rfl
  | _, _, .scrK q => rfl
  | _, _, .exc q => by rw [h0] at q; cases q
theorem RelL.nx0 (h0 : ξ0 = []) : ∀ {ds : List D} {vs : List V}, RelL K ξ0 μ H ds vs → D.nxL ds = true
  | _, _, .nil => rfl
  | _, _, .cons a r => by simp only [D.nxL, Bool.and_eq_true]; exact ⟨Rel.nx0 h0 a, RelL.nx0 h0 r⟩
end
mutual
theorem Rel.unx : ∀ {d : D} {v : V}, d.nx = true → Rel K ξ μ H d v → Rel K ξ0 μ H d v
  | _, _, _, .non => .non
  | _, _, _, .bl b => .bl b
  | _, _, _, .int i => .int i
  | _, _, _, .str z => .str z
  | _, _, h, .tup n e r => .tup n e (RelL.unx (by simpa [D.nx] using h) r)
  | _, _, h, .lst n e r => .lst n e (RelL.unx (by simpa [D.nx] using h) r)
  | _, _, h, .dK n e r => .dK n e (RelL.unx (by simpa [D.nx] using h) r)
  | _, _, h, .dT n e r => .dT n e (RelL.unx (by simpa [D.nx] using h) r)
  | _, _, _, .ref q => .ref q
  | _, _, _, .scr n r => .scr n r
  | _, _, _, .scrK q => .scrK q
  | _, _, h, .exc q => by simp [D.nx] at h
theorem RelL.unx : ∀ {ds : List D} {vs : List V}, D.nxL ds = true → RelL K ξ μ H ds vs → RelL K ξ0 μ H ds vs
  | _, _, _, .nil => .nil
  | _, _, h, .cons a r => by
    simp only [D.nxL, Bool.and_eq_true] at h
    exact .cons (Rel.unx h.1 a) (RelL.unx h.2 r)
end
def O.nx : O → Bool
  | .lst xs => D.nxL xs
  | .dic _ _ vs => D.nxL vs
  | .ins _ fs => D.nxL fs
theorem ORel.wide (h0 : ξ0 = []) {o : O} {a : Addr} (r : ORel K ξ0 ic fn μ H a o) : ORel K ξ ic fn μ H a o := by
  cases o with
  | lst ds => obtain ⟨xs, e, r⟩ := r; exact ⟨xs, e, r.wide h0⟩
  | dic t ks vs =>
    cases t with
    | false => obtain ⟨xs, e, q, r⟩ := r; exact ⟨xs, e, q, r.wide h0⟩
    | true => obtain ⟨xs, e, q, r⟩ := r; exact ⟨xs, e, q, r.wide h0⟩
  | ins c fs => obtain ⟨dx, xs, n1, e, e2, r⟩ := r; exact ⟨dx, xs, n1, e, e2, r.wide h0⟩
theorem ORel.nx0 (h0 : ξ0 = []) {o : O} {a : Addr} (r : ORel K ξ0 ic fn μ H a o) : o.nx = true := by
  cases o with
  | lst ds => obtain ⟨xs, e, r⟩ := r; exact r.nx0 h0
  | dic t ks vs =>
    cases t with
    | false => obtain ⟨xs, e, q, r⟩ := r; exact r.nx0 h0
    | true => obtain ⟨xs, e, q, r⟩ := r; exact r.nx0 h0
  | ins c fs => obtain ⟨dx, xs, n1, e, e2, r⟩ := r; exact r.nx0 h0
theorem ORel.unx {o : O} {a : Addr} (h : o.nx = true) (r : ORel K ξ ic fn μ H a o) : ORel K ξ0 ic fn μ H a o := by
  cases o with
  | lst ds => obtain ⟨xs, e, r⟩ := r; exact ⟨xs, e, r.unx h⟩
  | dic t ks vs =>
    cases t with
    | false => obtain ⟨xs, e, q, r⟩ := r; exact ⟨xs, e, q, r.unx h⟩
    | true => obtain ⟨xs, e, q, r⟩ := r; exact ⟨xs, e, q, r.unx h⟩
  | ins c fs => obtain ⟨dx, xs, n1, e, e2, r⟩ := r; exact ⟨dx, xs, n1, e, e2, r.unx h⟩
theorem Sim.wide (h0 : ξ0 = []) (s : Sim K ξ0 ic fn μ S H) : Sim K ξ ic fn μ S H := ⟨s.len, s.nd, s.hel, fun i a o h1 h2 => (s.obj i a o h1 h2).wide h0⟩
theorem Sim.unx (h0 : ξ0 = []) (s0 : Sim K ξ0 ic fn μ0 S H0) (s : Sim K ξ ic fn μ S H) : Sim K ξ0 ic fn μ S H := by
  refine ⟨s.len, s.nd, s.hel, fun i a o h1 h2 => (s.obj i a o h1 h2).unx ?_⟩
  obtain ⟨b, _, r⟩ := s0.at h2
  exact r.nx0 h0
theorem SimE.wide {ρ : Env} {σ : St} (h0 : ξ0 = []) (e : SimE K ξ0 μ H ρ σ) : SimE K ξ μ H ρ σ := ⟨e.1, fun i d h => let ⟨v, h1, h2⟩ := e.2 i d h; ⟨v, h1, h2.wide h0⟩⟩
end
/-- a def's own frame is on top -/
structure FnCx (X : Cx) : Prop where
  hs : X.stack = X.env :: X.outer
  hf : X.env.frame = some X.env.locals
theorem raise_of {s : Stmt} {x : Str} (h : raiseArg s = some x) : ∃ p1 m j p2 p3 p4, s = .Raise (some (.Call (.Name x p1) [.Constant (.str m) j p2] [] p3)) none p4 := by
  unfold raiseArg at h
  split at h
  · cases h; exact ⟨_, _, _, _, _, _, rfl⟩
  · cases h
theorem hd_of {hs : List ExceptHandler} {q : Str × Str × Stmt × List Stmt} (h : hdArg hs = some q) : ∃ np pos', hs = [.ExceptHandler (some (.Name q.1 np)) (some q.2.1) (q.2.2.1 :: q.2.2.2) pos'] := by
  unfold hdArg at h
  split at h
  · cases h; exact ⟨_, _, rfl⟩
  · cases h
theorem try_of {s : Stmt} {q : Tr} (h : tryArg s = some q) : ∃ np pos' pos, s = .Try q.body [.ExceptHandler (some (.Name q.x np)) (some q.n) (q.b0 :: q.suite) pos'] [] [] pos := by
  unfold tryArg at h
  split at h
  · obtain ⟨w, e, rfl⟩ := Option.map_eq_some_iff.mp h
    obtain ⟨np, pos', rfl⟩ := hd_of e
    exact ⟨_, _, _, rfl⟩
  · cases h
section
variable {F : Fx} {C : Ck} {k : Nat} {Φ : Nat → List D → Sto → Out D} {X : Cx} {W : WX} {sc : Scope}
theorem sndS_raise (c : CxOk X F W C sc sc k Φ) (hh : C.hot = false) {x : Str} {n : Nat} (hx : (x, n) ∈ C.xs) (hp : plX n = true) (hg : Gl X x) (hd : (x == ("__debug__" : Str)) = false) {p1 p2 p3 p4 : Pos} {m : Str} {j : Nat} :
    PS X (.Raise (some (.Call (.Name x p1) [.Constant (.str m) j p2] [] p3)) none p4) (tS F W fun ρ S => .ex n .non ρ S) := by
  obtain ⟨D1, g1, g2⟩ := c.xcs.cls _ hx
  obtain ⟨D2, e2, h1, h2, h3, h4⟩ := c.xcs.mks _ hx hp
  have g2 : F.xc n = .ref D1 := g2
  have e2 : F.xc n = .ref D2 := e2
  rw [g2] at e2
  cases e2
  refine ps_of fun σ H D μ ρ S z cc w => ⟨_, L2N.ps_raise (c.cold hh).calm c.tk (L2N.pmk_own PySem.F.excBase_ValueError h1 g1 h2 (raises_own h3 h4) hg hd), ?_⟩
  exact w μ H σ (.ref D1) none (To.refl z cc.sim) cc.env ⟨g2.symm, .inl ⟨rfl, rfl⟩⟩
theorem CxOk.tr (c : CxOk X F W C sc sc k Φ) (hh : C.hot = false) {W' : WX} {pn : List (Addr × Obj)} {xe : Value → Shared → Prop} (tk : L2N.Takes (X.tr pn xe) W') : CxOk (X.tr pn xe) F W' C sc sc k Φ where
  ok := ⟨c.ok.hK, c.ok.hu, c.ok.gd⟩
  nd := c.nd
  hN := c.hN
  hsc := c.hsc
  kind := c.kind
  blt := c.blt
  con := c.con
  cos := c.cos
  xcs := c.xcs
  cold := fun _ => let k := c.cold hh; ⟨k.calm, k.xs, k.room, fun q hq => ⟨(k.calls q hq).ex, (k.calls q hq).len⟩, fun q hq a e h1 h2 => ⟨(k.hcalls q hq a e h1 h2).ex, (k.hcalls q hq a e h1 h2).len⟩⟩
  hot := fun z => by rw [hh] at z; cases z
  tk := tk
  tgs := c.tgs
theorem CxOk.suite (c : CxOk X F W C sc sc k Φ) (hh : C.hot = false) {a : Addr} {oe : Obj} {n : Nat} {pn : List (Addr × Obj)} (hn : ∃ q ∈ C.xs, q.2 = n) (hp : plX n = true) (zn : L2N.Zn (F.xc n) none oe) (fs : ∃ z, oe.data = .fields z) :
    CxOk (X.suite a ((a, oe) :: pn)) (F.at a n) noW C.toHot sc sc k Φ where
  ok := ⟨c.ok.hK, c.ok.hu, c.ok.gd⟩
  nd := c.nd
  hN := c.hN
  hsc := c.hsc
  kind := c.kind
  blt := c.blt
  con := c.con
  cos := c.cos
  xcs := c.xcs
  cold := fun z => by cases z
  hot := fun _ => let k := c.cold hh; ⟨⟨a, n, oe, rfl, List.mem_cons_self, ⟨rfl, zn, fs⟩, hn, hp, fun q hq => ⟨(k.hcalls q hq a n hp hn).ex, (k.hcalls q hq a n hp hn).len⟩⟩, ⟨k.room.dp, k.room.un⟩⟩
  tk := fun u s' ⟨a, B, sI, pins, σ, H, cls, d, e, I, nb, up, sky, na, os, ag, w⟩ => w.elim
  tgs := c.tgs
theorem sndS_try (c : CxOk X F W C sc sc k Φ) (fx : FnCx X) (hh : C.hot = false) {x n : Str} {i : Nat} {cs : List Nat} {body suite : List Stmt} {b0 : Stmt} {np pos pos' : Pos} {fb fh : Env → Sto → Res} (hx : (x, 0) ∈ C.xs) (hg : Gl X x) (hd : (x == ("__debug__" : Str)) = false)
    (hi : X.N[i]? = some n) (hl : X.env.kindOf n = some .local) (hcs : ∀ m ∈ cs, plX m = true ∧ ∃ q ∈ C.xs, q.2 = m)
    (ihb : ∀ (W : WX) (pn : List (Addr × Obj)) (xe : Value → Shared → Prop), L2N.Takes (X.tr pn xe) W → PassesOwn (model X.prog X.w) X.A X.env xe → PSs (X.tr pn xe) body (tS F W fb))
    (ihh : ∀ (a : Addr) (oe : Obj) (m : Nat) (pn : List (Addr × Obj)), L2N.Zn (F.xc m) none oe → (∃ z, oe.data = .fields z) → m ∈ cs → PSs (X.suite a ((a, oe) :: pn)) (b0 :: suite) (tS (F.at a m) noW fh)) :
    PS X (.Try body [.ExceptHandler (some (.Name x np)) (some n) (b0 :: suite) pos'] [] [] pos) (tS F W fun ρ S => tryR cs i (fb ρ S) fh) := by
  obtain ⟨D0, g1, g2⟩ := c.xcs.cls _ hx
  have g2 : F.xc 0 = .ref D0 := g2
  have h0 := (c.cold hh).xs
  have key := L2N.ps_try_as (X := X) (i := i) (np := np) (pos := pos) (pos' := pos') fx.hs fx.hf c.nd hi hl ⟨hg, hd, .inl g1⟩ c.tk (tb := fun W' => tS F W' fb) (ts := fun a cls d D σ H => ∃ m, m ∈ cs ∧ cls = F.xc m ∧ d = none ∧ tS (F.at a m) noW fh D σ H) ihb
    (fun a oe cls d pn zn fz => ⟨fun pins s σ H D I ⟨m, h1, h2, h3, ht⟩ => by subst h2 h3; exact (ihh a oe m pn zn fz h1).run pins s σ H D I ht⟩)
  refine ps_of fun σ H D μ ρ S z cc w => ⟨_, key, tS.of cc ?_⟩
  cases q : fb ρ S with
  | nx ρ' S' => rw [q] at w; exact fun μ' H' σ' t e z' => w μ' H' σ' t e
  | bk ρ' S' => rw [q] at w; exact fun μ' H' σ' t e z' => w μ' H' σ' t e
  | ct ρ' S' => rw [q] at w; exact fun μ' H' σ' t e z' => w μ' H' σ' t e
  | rt d S' => rw [q] at w; exact fun μ' H' v t e z' => w μ' H' v t e
  | stuck => rw [q] at w; exact w
  | ex m x ρ' S' =>
    rw [q] at w
    cases x with
    | non =>
      by_cases hm : m ∈ cs
      · have w : WishS F W μ H (tryEnd S' (fh (ρ'.set i (some (.exc m .non))) S')) D := by
          have e : tryR cs i (.ex m .non ρ' S') fh = tryEnd S' (fh (ρ'.set i (some (.exc m .non))) S') := if_pos hm
          rw [e] at w
          exact w
        intro μ' H' σ' cls dd t e xr
        obtain ⟨hp, q1, hq1, rfl⟩ := hcs m hm
        obtain ⟨D1, e1, _, _, e2, _⟩ := c.xcs.is q1 hq1 hp
        rcases xr with ⟨rfl, ⟨_, rfl⟩ | ⟨z1, _⟩⟩
        · refine ⟨true, ?_, fun _ a na => ⟨q1.2, hm, rfl, rfl, ?_⟩, fun z => by cases z⟩
          · rw [e1, ← g2]
            exact e2
          · refine tS.of (μ := μ') (ρ := ρ'.set i (some (.exc q1.2 .non))) (S := S') ⟨Sim.wide h0 t.sim, (SimE.wide h0 e).set (.exc (by simp [Fx.at]))⟩ ?_
            cases q2 : fh (ρ'.set i (some (.exc q1.2 .non))) S' with
            | rt d S2 =>
              rw [q2] at w
              unfold tryEnd at w
              simp only at w
              split at w
              · rename_i hz
                obtain ⟨rfl, hnx⟩ := hz
                intro μ2 H2 v t2 r z2
                exact w μ2 H2 v (t.trans ⟨t2.sz, t2.st, Sim.unx h0 t.sim t2.sim⟩) (Rel.unx hnx r)
              · exact w.elim
            | _ => rw [q2] at w; exact w.elim
        · exact absurd rfl z1
      · have e : tryR cs i (.ex m .non ρ' S') fh = .stuck := if_neg hm
        rw [e] at w
        exact w.elim
    | _ => exact w.elim
end
end Pf
end

section 
set_option Elab.async false
set_option linter.all false
set_option maxRecDepth 100000
set_option maxHeartbeats 8000000
/-! PgD: the soundness of what is checked: statements. -/
namespace Pf
open PySem PySem.Spec PyProof.Rows L2
section
variable {k : Nat} {Φ : Nat → List D → Sto → Out D}
mutual
theorem sndS : ∀ (s : Stm) (F : Fx) (C : Ck) (X : Cx) (W : WX) (sc : Scope) (st : Stmt), CxOk X F W C sc sc k Φ → PassesOwn (model X.prog X.w) X.A X.env X.xe → FnCx X → chkS C sc s st = true → PS X st (tS F W (exec Φ s))
  | .pass, F, C, X, W, sc, st, c, hp, fx, h => by
    cases st <;> simp only [chkS, Bool.false_eq_true] at h
    have q : exec Φ .pass = fun ρ S => .nx ρ S := by funext ρ S; simp only [exec]
    rw [q]; exact sndS_pass
  | .never, F, C, X, W, sc, st, c, hp, fx, h => by
    have q : exec Φ .never = fun _ _ => .stuck := by funext ρ S; simp only [exec]
    rw [q]; exact sndS_never
  | .expr e, F, C, X, W, sc, st, c, hp, fx, h => by
    cases st <;> simp only [chkS, Bool.false_eq_true] at h
    rename_i x p
    rw [Bool.and_eq_true] at h
    have q : exec Φ (.expr e) = fun ρ S => (ev Φ e ρ S).res ρ fun _ S1 => .nx ρ S1 := by funext ρ S; simp only [exec]
    rw [q]
    exact sndS_expr h.1 ((sndE e false X W sc sc x c h.2).x rfl)
  | .asg i e, F, C, X, W, sc, st, c, hp, fx, h => by
    cases st with
    | Assign tgs v p =>
      match tgs, h with
      | [tg], h =>
        cases tg with
        | Name y py =>
          simp only [chkS, Bool.and_eq_true, decide_eq_true_eq] at h
          exact snd_asg i e X W sc y py p v c h.1.1 h.1.2 h.2
        | _ => simp [chkS] at h
      | [], h => simp [chkS] at h
      | _ :: _ :: _, h => simp [chkS] at h
    | _ => simp [chkS] at h
  | .asgT is e, F, C, X, W, sc, st, c, hp, fx, h => by
    cases st with
    | Assign tgs v p =>
      match tgs, h with
      | [tg], h =>
        cases tg with
        | Tuple es kk tp =>
          simp only [chkS, Bool.and_eq_true, Bool.not_eq_true'] at h
          obtain ⟨⟨⟨hh, h1⟩, h2⟩, h3⟩ := h
          rw [exec_asgT]
          exact sndS_asgT (t := .tp is) c.ok (c.pg hh h1) h2 ((sndE e false X W sc sc v c h3).x rfl)
        | _ => simp [chkS] at h
      | [], h => simp [chkS] at h
      | _ :: _ :: _, h => simp [chkS] at h
    | _ => simp [chkS] at h
  | .asgSub o kk e, F, C, X, W, sc, st, c, hp, fx, h => by
    cases st with
    | Assign tgs v p =>
      match tgs, h with
      | [tg], h =>
        cases tg with
        | Subscript a b tp =>
          simp only [chkS, Bool.and_eq_true] at h
          obtain ⟨⟨⟨⟨h1, h2⟩, h3⟩, h4⟩, h5⟩ := h
          rw [exec_asgSub]
          exact sndS_asgSub c.ok h1 h2 ((sndE e false X W sc sc v c h3).x rfl) ((sndE o false X W sc sc a c h4).x rfl) ((sndE kk false X W sc sc b c h5).x rfl)
        | _ => simp [chkS] at h
      | [], h => simp [chkS] at h
      | _ :: _ :: _, h => simp [chkS] at h
    | _ => simp [chkS] at h
  | .swp o kk o' kk' e e', F, C, X, W, sc, st, c, hp, fx, h => by
    rw [chkS] at h
    cases hs : swArg st with
    | none => rw [hs] at h; cases h
    | some q =>
      rw [hs] at h
      simp only [Bool.and_eq_true, Bool.not_eq_true'] at h
      obtain ⟨⟨⟨⟨⟨⟨⟨⟨⟨⟨hh, h1⟩, h2⟩, h3⟩, h4⟩, h5⟩, h6⟩, h7⟩, h8⟩, h9⟩, h10⟩ := h
      obtain ⟨p1, p2, k1, p3, k2, p4, p5, rfl⟩ := sw_of hs
      rw [exec_swp]
      exact sndS_swp (c.okc hh) h1 h2 h3 h4 ((sndE e false X W sc sc _ c h5).x rfl) ((sndE e' false X W sc sc _ c h6).x rfl) ((sndE o false X W sc sc _ c h7).x rfl) ((sndE kk false X W sc sc _ c h8).x rfl) ((sndE o' false X W sc sc _ c h9).x rfl) ((sndE kk' false X W sc sc _ c h10).x rfl)
  | .ret e, F, C, X, W, sc, st, c, hp, fx, h => by
    cases st with
    | Return v p =>
      cases v with
      | none => simp [chkS] at h
      | some x =>
        simp only [chkS] at h
        have q : exec Φ (.ret e) = fun ρ S => (ev Φ e ρ S).res ρ fun d S1 => .rt d S1 := by funext ρ S; simp only [exec]
        rw [q]
        exact sndS_ret ((sndE e false X W sc sc x c h).x rfl)
    | _ => simp [chkS] at h
  | .retN, F, C, X, W, sc, st, c, hp, fx, h => by
    cases st with
    | Return v p =>
      cases v with
      | some x => simp [chkS] at h
      | none =>
        have q : exec Φ .retN = fun _ S => .rt .non S := by funext ρ S; simp only [exec]
        rw [q]
        exact sndS_retN
    | _ => simp [chkS] at h
  | .ite t a b, F, C, X, W, sc, st, c, hp, fx, h => by
    cases st with
    | If z xs ys p =>
      simp only [chkS, Bool.and_eq_true] at h
      obtain ⟨⟨⟨h1, h2⟩, h3⟩, h4⟩ := h
      rw [exec_ite]
      exact sndS_ite ((sndE t false X W sc sc z c h1).t rfl h2) (sndB a F C X W sc xs c hp fx h3) (sndB b F C X W sc ys c hp fx h4)
    | _ => simp [chkS] at h
  | .wh t b, F, C, X, W, sc, st, c, hp, fx, h => by
    cases st with
    | While z xs ys p =>
      cases ys with
      | cons _ _ => simp [chkS] at h
      | nil =>
        simp only [chkS, Bool.and_eq_true] at h
        obtain ⟨⟨h1, h2⟩, h3⟩ := h
        rw [exec_wh]
        exact sndS_wh hp ((sndE t false X W sc sc z c h1).t rfl h2) (sndB b F C X W sc xs c hp fx h3)
    | _ => simp [chkS] at h
  | .for tg it b, F, C, X, W, sc, st, c, hp, fx, h => by
    cases st with
    | For t iter xs ys p =>
      cases ys with
      | cons _ _ => simp [chkS] at h
      | nil =>
        simp only [chkS, Bool.and_eq_true, Bool.not_eq_true'] at h
        obtain ⟨⟨⟨⟨hh, h1⟩, h2⟩, h3⟩, h4⟩ := h
        rw [exec_for]
        exact sndS_for (c.okc hh) hp (sndI it X W sc sc t iter c h3) (c.pg hh h1) (sndB b F C X W sc xs c hp fx h4) (set_ne h2)
    | _ => simp [chkS] at h
  | .brk, F, C, X, W, sc, st, c, hp, fx, h => by
    cases st <;> simp only [chkS, Bool.false_eq_true] at h
    have q : exec Φ .brk = fun ρ S => .bk ρ S := by funext ρ S; simp only [exec]
    rw [q]; exact sndS_brk
  | .cnt, F, C, X, W, sc, st, c, hp, fx, h => by
    cases st <;> simp only [chkS, Bool.false_eq_true] at h
    have q : exec Φ .cnt = fun ρ S => .ct ρ S := by funext ρ S; simp only [exec]
    rw [q]; exact sndS_cnt
  | .par is es, F, C, X, W, sc, st, c, hp, fx, h => by
    cases st with
    | Assign tgs v p =>
      match tgs, h with
      | [tg], h =>
        simp only [chkS] at h
        split at h
        · rename_i i j e e' x px y py kt pt a b k2 p2 ht hv _
          simp only [Bool.and_eq_true, Bool.not_eq_true', decide_eq_true_eq] at h
          obtain ⟨⟨⟨⟨⟨⟨hh, h1⟩, h2⟩, h3⟩, h4⟩, h5⟩, h6⟩ := h
          obtain rfl := parT_of ht
          obtain rfl := parV_of hv
          have ns : notStar a = true ∧ notStar b = true := by
            rw [Bool.or_eq_true] at h4
            rcases h4 with h4 | h4
            · unfold parB at h4
              simp only [Bool.and_eq_true] at h4
              exact ⟨h4.1.2, h4.2⟩
            · unfold parC at h4
              simp only [Bool.and_eq_true] at h4
              exact ⟨h4.1.1.1.2, h4.1.1.2⟩
          have hA : PA X [a, b] (tA F W (evs Φ [e, e'])) := (sndL [e, e'] X W sc sc [a, b] c (by simp only [chkL, h5, h6]; rfl) (by simp [ns])).1
          have q : exec Φ (.par [i, j] [e, e']) = fun ρ S => (evs Φ [e, e'] ρ S).res ρ fun ds S1 => match setL [i, j] ds ρ with
            | some ρ' => .nx ρ' S1
            | none => .stuck := by funext ρ S; simp only [exec] <;> rfl
          rw [q]
          rw [Bool.or_eq_true] at h4
          rcases h4 with h4 | h4
          · exact sndS_par (c.okc hh) c.nd (by rw [c.hN]; exact h1) (by rw [c.hN]; exact h2) (by simpa using h3) (by rw [c.hsc]; exact c.kind) (by rw [c.hsc]; exact h4) hA
          · simp only [Bool.and_eq_true] at h4
            have hE : PE X (.Tuple [a, b] k2 p2) (tE F W (ev Φ (.tup [e, e']))) := (sndE (.tup [e, e']) false X W sc sc (.Tuple [a, b] k2 p2) c (by simp [chkE, chkL, h5, h6, ns])).x rfl
            have q2 : ev Φ (.tup [e, e']) = fun ρ S => (evs Φ [e, e'] ρ S).bind fun ds S1 => .ok (.tup ds) S1 := by funext ρ S; simp only [ev]
            rw [q2] at hE
            exact sndS_parC c.ok (c.pg hh (t := .tp [i, j]) (by simp [tgtB, tgsB, h1, h2, h4.1.2, h4.2])) (by rw [c.hsc]; exact h4.1.1) hE
        · cases h
      | [], h => simp [chkS] at h
      | _ :: _ :: _, h => simp [chkS] at h
    | _ => simp [chkS] at h
  | .asgFld _ _ _, F, C, X, W, sc, st, c, hp, fx, h => by simp [chkS] at h
  | .raise _ (some _), F, C, X, W, sc, st, c, hp, fx, h => by simp [chkS] at h
  | .raise n none, F, C, X, W, sc, st, c, hp, fx, h => by
    rw [chkS] at h
    cases hs : raiseArg st with
    | none => rw [hs] at h; cases h
    | some x =>
      rw [hs] at h
      simp only [Bool.and_eq_true, Bool.not_eq_true'] at h
      obtain ⟨⟨⟨⟨hh, h1⟩, h2⟩, h3⟩, h4⟩ := h
      obtain ⟨p1, m, j, p2, p3, p4, rfl⟩ := raise_of hs
      have q : exec Φ (.raise n none) = fun ρ S => .ex n .non ρ S := by funext ρ S; simp only [exec]
      rw [q]
      exact sndS_raise c hh (by simpa using h1) h2 (gl_of c.hsc h3) (nm_of h4).1
  | .try b i cs hd, F, C, X, W, sc, st, c, hp, fx, h => by
    rw [chkS] at h
    cases hs : tryArg st with
    | none => rw [hs] at h; cases h
    | some q =>
      rw [hs] at h
      simp only [Bool.and_eq_true, Bool.not_eq_true', decide_eq_true_eq] at h
      obtain ⟨⟨⟨⟨⟨⟨⟨⟨hh, h1⟩, h2⟩, h3⟩, h4⟩, h5⟩, h6⟩, h7⟩, h8⟩ := h
      obtain ⟨np, pos', pos, rfl⟩ := try_of hs
      have e : exec Φ (.try b i cs hd) = fun ρ S => tryR cs i (execs Φ b ρ S) (fun ρ S => execs Φ hd ρ S) := by funext ρ S; simp only [exec]
      rw [e]
      have hcs : ∀ m ∈ cs, plX m = true ∧ ∃ q ∈ C.xs, q.2 = m := by
        intro m hm
        have := List.all_eq_true.mp h6 m hm
        simp only [Bool.and_eq_true, List.contains_eq_mem, List.mem_map, decide_eq_true_eq] at this
        exact this
      exact sndS_try c fx hh (by simpa using h1) (gl_of c.hsc h2) (nm_of h3).1 (by rw [c.hN]; exact h4) (by rw [Env.kindOf, c.hsc]; exact isLocal_of h5) hcs
        (fun W' pn xe tk po => sndB b F C (X.tr pn xe) W' sc q.body (c.tr hh tk) po ⟨fx.hs, fx.hf⟩ h7)
        (fun a oe m pn zn fz hm => sndB hd (F.at a m) C.toHot (X.suite a ((a, oe) :: pn)) noW sc (q.b0 :: q.suite) (c.suite hh (hcs m hm).2 (hcs m hm).1 zn fz) PassesOwn.never ⟨fx.hs, fx.hf⟩ h8)
theorem sndB : ∀ (ss : List Stm) (F : Fx) (C : Ck) (X : Cx) (W : WX) (sc : Scope) (sts : List Stmt), CxOk X F W C sc sc k Φ → PassesOwn (model X.prog X.w) X.A X.env X.xe → FnCx X → chkB C sc ss sts = true → PSs X sts (tS F W (execs Φ ss))
  | [], F, C, X, W, sc, sts, c, hp, fx, h => by
    cases sts with
    | nil => rw [execs_nil]; exact sndB_nil
    | cons y ys => simp [chkB] at h
  | s :: ss, F, C, X, W, sc, sts, c, hp, fx, h => by
    cases sts with
    | nil => simp [chkB] at h
    | cons y ys =>
      simp only [chkB, Bool.and_eq_true] at h
      rw [execs_cons]
      exact sndB_cons (sndS s F C X W sc y c hp fx h.1) (sndB ss F C X W sc ys c hp fx h.2)
end
end
end Pf
end

section 
set_option Elab.async false
set_option linter.all false
set_option maxRecDepth 100000
set_option maxHeartbeats 4000000
/-! PgE: the end of a call: what was made within is handed back as it is, or forgotten. -/
namespace Pf
open PySem PySem.Spec PyProof.Rows L2

structure Sub (n : Nat) (μ2 μ1 : Mu) : Prop where
  mem : ∀ a, a ∈ μ2.nm → a ∈ μ1.nm
  rs : μ2.rs = μ1.rs
  get : ∀ i : Nat, i < n → μ2.nm[i]? = μ1.nm[i]?
section
variable {K : PySem.W.Frag} {ξ : List (Addr × Nat)} {ic : Nat → Addr} {fn : Nat → List Str} {n : Nat} {μ μ1 μ2 : Mu} {S : Sto} {H : Hp}
theorem Sub.nin (s : Sub n μ2 μ1) {a : Addr} (h : a ∉ μ1) : a ∉ μ2 := by
  rintro (q | q)
  · exact h (Or.inl (s.mem a q))
  · exact h (Or.inr (by rw [← s.rs]; exact q))
theorem key0_lo {d : D} (h : d.key0 = true) : d.lo n = true := by cases d <;> first | rfl | cases h
mutual
theorem Rel.sub (s : Sub n μ2 μ1) : ∀ {d : D} {v : V}, d.lo n = true → Rel K ξ μ1 H d v → Rel K ξ μ2 H d v
  | _, _, _, .non => .non
  | _, _, _, .bl b => .bl b
  | _, _, _, .int i => .int i
  | _, _, _, .str z => .str z
  | _, _, h, .tup n1 e r => .tup (s.nin n1) e (RelL.sub s (by simpa [D.lo] using h) r)
  | _, _, h, .lst n1 e r => .lst (s.nin n1) e (RelL.sub s (by simpa [D.lo] using h) r)
  | _, _, h, .dK n1 e r => .dK (s.nin n1) e (RelL.sub s (by simp only [D.lo, Bool.and_eq_true] at h; exact h.2) r)
  | _, _, h, .dT n1 e r => .dT (s.nin n1) e (RelL.sub s (by simp only [D.lo, Bool.and_eq_true] at h; exact h.2) r)
  | _, _, h, .ref q => .ref (by
      simp only [D.lo, decide_eq_true_eq] at h
      rw [s.get _ h]; exact q)
  | _, _, _, .scr n1 r => .scr (s.nin n1) r
  | _, _, _, .scrK q => .scrK q
  | _, _, _, .exc q => .exc q
theorem RelL.sub (s : Sub n μ2 μ1) : ∀ {ds : List D} {vs : List V}, D.loL n ds = true → RelL K ξ μ1 H ds vs → RelL K ξ μ2 H ds vs
  | _, _, _, .nil => .nil
  | _, _, h, .cons a r => by
    simp only [D.loL, Bool.and_eq_true] at h
    exact .cons (Rel.sub s h.1 a) (RelL.sub s h.2 r)
end
theorem kD_lo (key : Key) : (kD key).lo n = true := by cases key <;> rfl
theorem loL_map {α : Type} {f : α → D} (h : ∀ x, (f x).lo n = true) : ∀ l : List α, D.loL n (l.map f) = true
  | [] => rfl
  | x :: l => by simp only [List.map_cons, D.loL, h x, loL_map h l, Bool.and_self]
mutual
theorem Rel.lo (hl : μ.nm.length ≤ n) : ∀ {d : D} {v : V}, Rel K ξ μ H d v → d.lo n = true
  | _, _, .non => rfl
  | _, _, .bl b => rfl
  | _, _, .int i => rfl
  | _, _, .str z => rfl
  | _, _, .tup _ _ r => by simp only [D.lo]; exact RelL.lo hl r
  | _, _, .lst _ _ r => by simp only [D.lo]; exact RelL.lo hl r
  | _, _, .dK _ _ r => by
    simp only [D.lo, Bool.and_eq_true]
    exact ⟨loL_map (fun p => kD_lo _) _, RelL.lo hl r⟩
  | _, _, .dT _ _ r => by
    simp only [D.lo, Bool.and_eq_true]
    exact ⟨loL_map (fun p => by simp only [D.lo]; exact loL_map (fun k => kD_lo k) _) _, RelL.lo hl r⟩
  | _, _, .ref q => by
    simp only [D.lo, decide_eq_true_eq]
    have := (List.getElem?_eq_some_iff.mp q).1
    omega
  | _, _, .scr _ _ => rfl
  | _, _, .scrK _ => rfl
  | _, _, .exc _ => rfl
theorem RelL.lo (hl : μ.nm.length ≤ n) : ∀ {ds : List D} {vs : List V}, RelL K ξ μ H ds vs → D.loL n ds = true
  | _, _, .nil => rfl
  | _, _, .cons a r => by simp only [D.loL, Bool.and_eq_true]; exact ⟨Rel.lo hl a, RelL.lo hl r⟩
end
theorem ORel.lo (hl : μ.nm.length ≤ n) {o : O} {a : Addr} (r : ORel K ξ ic fn μ H a o) : o.lo n = true := by
  cases o with
  | lst ds => obtain ⟨_, _, r⟩ := r; exact RelL.lo hl r
  | dic t ks vs =>
    cases t with
    | false =>
      obtain ⟨kvs, _, rfl, r⟩ := r
      simp only [O.lo, Bool.and_eq_true]
      exact ⟨loL_map (fun p => kD_lo _) _, RelL.lo hl r⟩
    | true =>
      obtain ⟨kvs, _, rfl, r⟩ := r
      simp only [O.lo, Bool.and_eq_true]
      exact ⟨loL_map (fun p => by simp only [D.lo]; exact loL_map (fun k => kD_lo k) _) _, RelL.lo hl r⟩
  | ins c fs => obtain ⟨_, _, _, _, _, r⟩ := r; exact RelL.lo hl r
theorem ORel.sub (s : Sub n μ2 μ1) {o : O} {a : Addr} (h : o.lo n = true) (r : ORel K ξ ic fn μ1 H a o) : ORel K ξ ic fn μ2 H a o := by
  cases o with
  | lst ds => obtain ⟨xs, e, r⟩ := r; exact ⟨xs, e, r.sub s h⟩
  | dic t ks vs =>
    simp only [O.lo, Bool.and_eq_true] at h
    cases t with
    | false => obtain ⟨xs, e, q, r⟩ := r; exact ⟨xs, e, q, r.sub s h.2⟩
    | true => obtain ⟨xs, e, q, r⟩ := r; exact ⟨xs, e, q, r.sub s h.2⟩
  | ins c fs => obtain ⟨dx, xs, n1, e, e2, r⟩ := r; exact ⟨dx, xs, s.nin n1, e, e2, r.sub s h⟩
end
section
variable {F : Fx} {μ μ1 : Mu} {S S1 : Sto} {H H1 : Hp}
/-- behind a call: the caller's part of the store -/
theorem To.leave (sim : F.Sim μ S H) (t : To F μ H S1 μ1 H1) (kp : Kept S S1) : To F μ H (S1.take S.length) μ H1 ∧ Sub S.length μ μ1 := by
  obtain ⟨ν, e, hν⟩ := t.st.ext
  have hlen := sim.len
  have sub : Sub S.length μ μ1 := by
    refine ⟨fun a ha => by rw [e]; exact List.mem_append_left _ ha, by rw [e], fun i hi => ?_⟩
    rw [e]
    show _ = (μ.nm ++ ν)[i]?
    rw [List.getElem?_append_left (by rw [hlen]; exact hi)]
  have st : Step μ H μ H1 := ⟨⟨[], by simp, by simp⟩, t.st.keep⟩
  refine ⟨⟨t.sz, st, ⟨?_, sim.nd, fun a ha => ?_, fun i a o h1 h2 => ?_⟩⟩, sub⟩
  · rw [List.length_take, Nat.min_eq_left kp.1]; exact hlen
  · obtain ⟨n1, u, e1⟩ := sim.hel a ha
    exact ⟨n1, u, t.st.keep a u n1 e1⟩
  · have hi : i < S.length := by rw [← hlen]; exact (List.getElem?_eq_some_iff.mp h1).1
    rw [List.getElem?_take_of_lt hi] at h2
    have r1 : ORel F.K F.xs F.ic F.fn μ1 H1 a o := t.sim.obj i a o (t.st.get h1) h2
    have lo : o.lo S.length = true := by
      rcases kp.2 i hi with q | ⟨o', q, hl⟩
      · rw [q] at h2
        exact ORel.lo (by rw [hlen]; exact Nat.le_refl _) (sim.obj i a o h1 h2)
      · rw [q] at h2; cases h2; exact hl
    exact r1.sub sub lo
theorem fz1_rel (sim : F.Sim μ S H) (t : To F μ H S1 μ1 H1) (sub : Sub S.length μ μ1) {d : D} {v : V} (lo : (fz1 S1 S.length d).lo S.length = true) (r : F.Rel μ1 H1 d v) : F.Rel μ H1 (fz1 S1 S.length d) v := by
  cases d with
  | ref i =>
    by_cases hi : i < S.length
    · have e : fz1 S1 S.length (.ref i) = .ref i := by simp [fz1, hi]
      rw [e] at lo ⊢
      exact Rel.sub sub lo r
    · cases r with
      | ref q =>
        rename_i a
        have hm : a ∈ μ1.nm := List.mem_of_getElem? q
        obtain ⟨ν, e, hν⟩ := t.st.ext
        have na : a ∉ μ := by
          rintro (z | z)
          · obtain ⟨j, hj, ej⟩ := List.getElem_of_mem z
            have hj2 : μ1.nm[j]? = some a := by
              rw [e]
              show (μ.nm ++ ν)[j]? = _
              rw [List.getElem?_append_left hj, List.getElem?_eq_getElem hj, ej]
            obtain ⟨h3, e3⟩ := List.getElem?_eq_some_iff.mp hj2
            obtain ⟨h4, e4⟩ := List.getElem?_eq_some_iff.mp q
            have : j = i := (List.getElem_inj t.sim.nd).mp (e3.trans e4.symm)
            have := sim.len
            omega
          · exact (t.sim.hel a (by rw [← sub.rs]; exact z)).1 hm
        cases hS : S1[i]? with
        | none => have e : fz1 S1 S.length (.ref i) = .ref i := by simp [fz1, hi, hS]
                  rw [e] at lo; simp only [D.lo, decide_eq_true_eq] at lo; omega
        | some o =>
          have ob := t.sim.obj i a o q hS
          cases o with
          | lst xs =>
            have e : fz1 S1 S.length (.ref i) = .lst xs := by simp [fz1, hi, hS]
            rw [e] at lo ⊢
            obtain ⟨vs, e1, rl⟩ := ob
            exact .lst na e1 (RelL.sub sub (by simpa [D.lo] using lo) rl)
          | dic tt ks vs =>
            have e : fz1 S1 S.length (.ref i) = .dic tt ks vs := by simp [fz1, hi, hS]
            rw [e] at lo ⊢
            simp only [D.lo, Bool.and_eq_true] at lo
            cases tt with
            | false =>
              obtain ⟨kvs, e1, rfl, rl⟩ := ob
              exact .dK na e1 (RelL.sub sub lo.2 rl)
            | true =>
              obtain ⟨kvs, e1, rfl, rl⟩ := ob
              exact .dT na e1 (RelL.sub sub lo.2 rl)
          | ins c fs => have e : fz1 S1 S.length (.ref i) = .ref i := by simp [fz1, hi, hS]
                        rw [e] at lo; simp only [D.lo, decide_eq_true_eq] at lo; omega
  | _ => exact Rel.sub sub lo r
theorem fz1_relL (sim : F.Sim μ S H) (t : To F μ H S1 μ1 H1) (sub : Sub S.length μ μ1) : ∀ {ds : List D} {vs : List V}, D.loL S.length (ds.map (fz1 S1 S.length)) = true → F.RelL μ1 H1 ds vs → F.RelL μ H1 (ds.map (fz1 S1 S.length)) vs
  | _, _, _, .nil => .nil
  | _, _, h, .cons a r => by
    simp only [List.map_cons, D.loL, Bool.and_eq_true] at h
    exact .cons (fz1_rel sim t sub h.1 a) (fz1_relL sim t sub h.2 r)
theorem fz_rel (sim : F.Sim μ S H) (t : To F μ H S1 μ1 H1) (sub : Sub S.length μ μ1) {d : D} {v : V} (lo : (fz S1 S.length d).lo S.length = true) (r : F.Rel μ1 H1 d v) : F.Rel μ H1 (fz S1 S.length d) v := by
  cases d with
  | tup xs =>
    cases r with
    | tup n1 e r => exact .tup (sub.nin n1) e (fz1_relL sim t sub (by simpa [fz, D.lo] using lo) r)
  | non => exact fz1_rel (d := .non) sim t sub lo r
  | bl b => exact fz1_rel (d := .bl b) sim t sub lo r
  | int b => exact fz1_rel (d := .int b) sim t sub lo r
  | str b => exact fz1_rel (d := .str b) sim t sub lo r
  | lst b => exact fz1_rel (d := .lst b) sim t sub lo r
  | dic a b c => exact fz1_rel (d := .dic a b c) sim t sub lo r
  | ref b => exact fz1_rel (d := .ref b) sim t sub lo r
  | scr b => exact fz1_rel (d := .scr b) sim t sub lo r
  | exc a b => exact fz1_rel (d := .exc a b) sim t sub lo r
theorem push_of {kk : Nat} {o : O} {a : Addr} (sim : F.Sim μ S H) (t : To F μ H S1 μ1 H1) (h1 : Kept S S1) (h2 : S.length ≤ kk) (h3 : o.lo S.length = true) (hS : S1[kk]? = some o) (q : μ1.nm[kk]? = some a) :
    To F μ H (S1.take S.length ++ [o]) (μ.push a) H1 ∧ (μ.push a).nm[S.length]? = some a ∧ Sub S.length (μ.push a) μ1 := by
  obtain ⟨t2, sub⟩ := t.leave sim h1
  obtain ⟨ν, e, hν⟩ := t.st.ext
  have q2 : (μ.nm ++ ν)[kk]? = some a := by rw [e] at q; exact q
  have hlen := sim.len
  rw [List.getElem?_append_right (by rw [hlen]; exact h2)] at q2
  have ha : a ∈ ν := List.mem_of_getElem? q2
  have nd := t.sim.nd
  rw [e] at nd
  have na : a ∉ μ.nm := fun z => (List.nodup_append.mp nd).2.2 a z a ha rfl
  have hm : a ∈ μ1.nm := List.mem_of_getElem? q
  have sub2 : Sub S.length (μ.push a) μ1 := by
    refine ⟨fun b hb => ?_, by rw [e], fun i hi => ?_⟩
    · rcases List.mem_append.mp hb with z | z
      · exact sub.mem b z
      · rw [List.mem_singleton.mp z]; exact hm
    · rw [← sub.get i hi]
      show (μ.nm ++ [a])[i]? = _
      rw [List.getElem?_append_left (by rw [hlen]; exact hi)]
  have sim2 : F.Sim (μ.push a) (S1.take S.length ++ [o]) H1 := by
    have l1 : (S1.take S.length).length = S.length := by rw [List.length_take, Nat.min_eq_left h1.1]
    refine ⟨by simp [hlen, l1], List.nodup_append.mpr ⟨sim.nd, by simp, fun b hb c hc => by rw [List.mem_singleton.mp hc]; rintro rfl; exact na hb⟩, fun b hb => ⟨?_, (t2.sim.hel b hb).2⟩, fun i b o' g1 g2 => ?_⟩
    · intro z
      rcases List.mem_append.mp z with z | z
      · exact (sim.hel b hb).1 z
      · rw [List.mem_singleton.mp z] at hb
        exact (t.sim.hel a (by rw [e]; exact hb)).1 hm
    · have g1 : (μ.nm ++ [a])[i]? = some b := g1
      by_cases hi : i < S.length
      · rw [List.getElem?_append_left (by rw [hlen]; exact hi)] at g1
        rw [List.getElem?_append_left (by rw [l1]; exact hi)] at g2
        have r1 := t.sim.obj i b o' (t.st.get g1) (by rw [List.getElem?_take_of_lt hi] at g2; exact g2)
        have lo := ORel.lo (n := S.length) (by rw [hlen]; exact Nat.le_refl _) (t2.sim.obj i b o' g1 g2)
        exact r1.sub sub2 lo
      · rw [List.getElem?_append_right (by rw [hlen]; omega)] at g1
        rw [List.getElem?_append_right (by rw [l1]; omega), l1] at g2
        rw [hlen] at g1
        have e0 : i - S.length = 0 := by
          have := (List.getElem?_eq_some_iff.mp g1).1
          simp at this
          omega
        rw [e0] at g1 g2
        simp at g1 g2
        subst g1 g2
        exact (t.sim.obj kk a o q hS).sub sub2 h3
  refine ⟨⟨t.sz, ⟨⟨[a], rfl, fun b hb => by rw [List.mem_singleton.mp hb]; exact hν a ha⟩, t.st.keep⟩, sim2⟩, ?_, sub2⟩
  show (μ.nm ++ [a])[S.length]? = some a
  rw [List.getElem?_append_right (by rw [hlen]; exact Nat.le_refl _), hlen]
  simp
open Classical in
/-- the wish of a body, from the wish of its call -/
theorem body_wish {keep : Bool} {Q : VK} {E : XK} {r : Res} (sim : F.Sim μ S H) (w : WishC F μ H (fin keep S r) Q E) :
    WishS F (fun cls d _ H => E cls d H) μ H r { nx := fun _ H' => Q .non H', rt := Q } := by
  cases r with
  | stuck => exact w
  | bk ρ S' => exact w.elim
  | ct ρ S' => exact w.elim
  | nx ρ S' =>
    intro μ1 H1 σ t _
    have w : WishC F μ H (finV S .non S') Q E := w
    unfold finV at w
    by_cases h : Kept S S' ∧ (fz S' S.length .non).lo S.length = true
    · rw [if_pos h] at w
      obtain ⟨t2, sub⟩ := t.leave sim h.1
      exact w μ H1 .non t2 .non
    · rw [if_neg h] at w
      exact w.elim
  | ex c x ρ S' =>
    intro μ1 H1 σ cls dd t _ xr
    have w : WishC F μ H (if Kept S S' ∧ x.lo S.length = true then .exn c x (S'.take S.length) else .stuck) Q E := w
    by_cases h : Kept S S' ∧ x.lo S.length = true
    · rw [if_pos h] at w
      obtain ⟨t2, sub⟩ := t.leave sim h.1
      refine w μ H1 cls dd t2 ⟨xr.1, ?_⟩
      rcases xr.2 with q | ⟨q0, da, v, q1, q2, q3, q4⟩
      · exact .inl q
      · exact .inr ⟨q0, da, v, q1, sub.nin q2, q3, Rel.sub sub h.2 q4⟩
    · rw [if_neg h] at w
      exact w.elim
  | rt d S' =>
    intro μ1 H1 v t rd
    have w : WishC F μ H (if keep = true then finK S d S' else finV S d S') Q E := w
    by_cases hk : keep = true
    · rw [if_pos hk] at w
      cases d with
      | ref kk =>
        cases hS : S'[kk]? with
        | none => simp only [finK, hS] at w; exact w.elim
        | some o =>
          simp only [finK, hS] at w
          by_cases h : Kept S S' ∧ S.length ≤ kk ∧ o.lo S.length = true
          · rw [if_pos h] at w
            obtain ⟨h1, h2, h3⟩ := h
            cases rd with
            | ref q =>
              obtain ⟨t3, g, _⟩ := push_of sim t h1 h2 h3 hS q
              exact w _ H1 _ t3 (.ref g)
          · rw [if_neg h] at w
            exact w.elim
      | tup xs =>
        cases xs with
        | nil => exact w.elim
        | cons x rest =>
          cases x with
          | ref kk =>
            cases hS : S'[kk]? with
            | none => simp only [finK, hS] at w; exact w.elim
            | some o =>
              simp only [finK, hS] at w
              by_cases h : Kept S S' ∧ S.length ≤ kk ∧ o.lo S.length = true ∧ D.loL S.length rest = true
              · rw [if_pos h] at w
                obtain ⟨h1, h2, h3, h4⟩ := h
                cases rd with
                | tup n1 e1 rl =>
                  cases rl with
                  | cons r0 rr =>
                    cases r0 with
                    | ref q =>
                      obtain ⟨t3, g, sub2⟩ := push_of sim t h1 h2 h3 hS q
                      exact w _ H1 _ t3 (.tup (sub2.nin n1) e1 (.cons (.ref g) (RelL.sub sub2 h4 rr)))
              · rw [if_neg h] at w
                exact w.elim
          | _ => exact w.elim
      | _ => exact w.elim
    · rw [if_neg hk] at w
      unfold finV at w
      by_cases h : Kept S S' ∧ (fz S' S.length d).lo S.length = true
      · rw [if_pos h] at w
        obtain ⟨t2, sub⟩ := t.leave sim h.1
        exact w μ H1 v t2 (fz_rel sim t sub h.2 rd)
      · rw [if_neg h] at w
        exact w.elim
end
end Pf
end

section 
set_option Elab.async false
set_option linter.all false
set_option maxRecDepth 100000
set_option maxHeartbeats 4000000
/-! PgF: all defs of a text keep the interpreter's promise; the law. -/
namespace Pf
open PySem PySem.Spec PyProof.Rows L2

/-- a def of the text -/
structure DI where
  name : Str
  params : Arguments
  body : List Stmt
  scope : Scope
  N : List Str
  ps : List Str
def scB (N ps : List Str) (sc : Scope) : Bool := (match sc.kind with
    | .function => true
    | _ => false) && !sc.isCoroutine && !sc.isGenerator && decide N.Nodup && decide (N.take ps.length = ps) && ps.all (locB sc) && sc.names.all fun y => match y.2 with
      | .free => false
      | _ => true
theorem scB_ok {N ps : List Str} {sc : Scope} (h : scB N ps sc = true) : FnScope N ps sc := by
  unfold scB at h
  simp only [Bool.and_eq_true, Bool.not_eq_true', decide_eq_true_eq, List.all_eq_true] at h
  obtain ⟨⟨⟨⟨⟨⟨h1, h2⟩, h3⟩, h4⟩, h5⟩, h6⟩, h7⟩ := h
  refine ⟨?_, h2, h3, h4, h5, fun x hx => ?_, fun y hy e => ?_⟩
  · split at h1
    · assumption
    · cases h1
  · exact loc_of (h6 x hx)
  · have := h7 y hy
    rw [e] at this
    cases this
/-- what a text has: its defs, those that are called where an exception is handled, constants, exceptions -/
structure Tx where
  dl : List (Str × Nat × Nat)
  hl : List (Str × Nat × Nat)
  gi : List (Str × Int)
  gz : List (Str × List Nat)
  xs : List (Str × Nat)
def Tx.ck (T : Tx) (N : List Str) : Ck := ⟨N, T.dl, T.gi, T.gz, T.xs, T.hl, false⟩
def DI.ok (T : Tx) (hot : Bool) (d : Def) (i : DI) : Bool :=
  chkB (if hot then (T.ck i.N).toHot else T.ck i.N) i.scope d.body i.body && decide (d.np = i.ps.length) && decide (d.ns = i.N.length) && scB i.N i.ps i.scope
theorem run_len {P : Nat → Def} {k f : Nat} {ds : List D} {S : Sto} (h : run P k f ds S ≠ .stuck) : ds.length = (P f).np := by
  cases k with
  | zero => exact absurd (run_zero P f ds S) h
  | succ k =>
    rw [run_succ] at h
    unfold callD at h
    by_cases q : ds.length = (P f).np
    · exact q
    · rw [if_neg q] at h; exact absurd rfl h
def infoOf (il : List (Nat × DI)) (f : Nat) : Option DI := (il.find? fun p => p.1 == f).map (·.2)
theorem info_mem {il : List (Nat × DI)} {f : Nat} {i : DI} (h : infoOf il f = some i) : (f, i) ∈ il := by
  unfold infoOf at h
  obtain ⟨p, h1, h2⟩ := Option.map_eq_some_iff.mp h
  have h3 := List.find?_some h1
  have h4 := List.mem_of_find?_eq_some h1
  have e : p.1 = f := by simpa using h3
  rw [← e, ← h2]
  exact h4
section
variable {Pm : Program} {w : World} {K : PySem.W.Frag} {mg : Str → Option Value} {base : Heap} {F : Fx} {P : Nat → Def} {Ls Lh : Nat → Option DI} {T : Tx} {xc : Nat → Value}
structure Facts (K : PySem.W.Frag) (mg : Str → Option Value) (P : Nat → Def) (Ls Lh : Nat → Option DI) (T : Tx) (xc : Nat → Value) : Prop where
  chk : ∀ (f : Nat) (i : DI), Ls f = some i → DI.ok T false (P f) i = true
  dls : ∀ q ∈ T.dl, ∃ i : DI, Ls q.2.1 = some i ∧ i.name = q.1 ∧ (P q.2.1).np = q.2.2
  fns : ∀ (f : Nat) (i : DI), Ls f = some i → ∃ addr fd, FunD K i.name i.name i.params i.body i.scope [] [] addr fd ∧ mg i.name = some (.ref addr) ∧ Binds K fd i.ps []
  chkh : ∀ (f : Nat) (i : DI), Lh f = some i → DI.ok T true (P f) i = true
  hls : ∀ q ∈ T.hl, ∃ i : DI, Lh q.2.1 = some i ∧ i.name = q.1 ∧ (P q.2.1).np = q.2.2
  fnh : ∀ (f : Nat) (i : DI), Lh f = some i → ∃ addr fd, FunD K i.name i.name i.params i.body i.scope [] [] addr fd ∧ mg i.name = some (.ref addr) ∧ Binds K fd i.ps []
  blt : ∀ x ∈ bnames, mg x = none
  con : ∀ p ∈ T.gi, ∃ t, mg p.1 = some (.int p.2 t)
  cos : ∀ p ∈ T.gz, ∃ t, mg p.1 = some (.str (toS p.2) t)
  xcs : Xcs K mg xc T.xs
theorem env_start {μ : Mu} {H : Hp} {N : List Str} {n ns : Nat} {ds : List D} {vs : List V} (r : F.RelL μ H ds vs) (hn : ds.length = n) (hN : ns = N.length) : SimE F.K F.xs μ H (ds.map some ++ List.replicate (ns - n) none) (L2.start N vs) := by
  have hl := r.length
  refine ⟨by simp [L2.start]; omega, fun i d h => ?_⟩
  by_cases hi : i < ds.length
  · rw [List.getElem?_append_left (by simpa using hi), List.getElem?_map] at h
    obtain ⟨d', e, e2⟩ := Option.map_eq_some_iff.mp h
    cases e2
    obtain ⟨v, hv, rv⟩ := r.get e
    refine ⟨v, ?_, rv⟩
    unfold L2.start
    rw [List.getElem?_append_left (by simp; omega), List.getElem?_map, hv]
    rfl
  · rw [List.getElem?_append_right (by simp; omega), List.getElem?_replicate] at h
    split at h <;> cases h
abbrev OkG (Pm : Program) (w : World) (K : PySem.W.Frag) (mg : Str → Option Value) (base : Heap) (F : Fx) (P : Nat → Def) (Ls : Nat → Option DI) (k : Nat) : Prop :=
  ∀ (f : Nat) (i : DI), Ls f = some i → ∀ addr fd, FunD K i.name i.name i.params i.body i.scope [] [] addr fd → FnG Pm w K mg base k addr fd i.ps (spF F (P f).np (run P k f))
abbrev OkX (Pm : Program) (w : World) (K : PySem.W.Frag) (mg : Str → Option Value) (base : Heap) (F : Fx) (P : Nat → Def) (Lh : Nat → Option DI) (xs : List (Str × Nat)) (k : Nat) : Prop :=
  ∀ (f : Nat) (i : DI), Lh f = some i → ∀ addr fd, FunD K i.name i.name i.params i.body i.scope [] [] addr fd → ∀ a c, plX c = true → (∃ r ∈ xs, r.2 = c) → FnX Pm w K mg base k addr fd i.ps a (F.xc c) (spF (F.at a c) (P f).np (run P k f))
theorem spF_len {F : Fx} {n : Nat} {g : List D → Sto → Out D} {vs : List V} {H : Hp} {Q : VK} {E : XK} (h : spF F n g vs H Q E) : vs.length = n := h.1
theorem body_of {F : Fx} {k f : Nat} {N : List Str} {vs : List V} {H : Hp} {Q : VK} {E : XK} (c3 : (P f).ns = N.length) (h : spF F (P f).np (run P (k + 1) f) vs H Q E) (z : Sz H) :
    ∃ μ ρ S, Cfg F μ ρ S (L2.start N vs) H ∧ WishS F (fun cls d _ H => E cls d H) μ H (execs (run P k) (P f).body ρ S) { nx := fun _ H' => Q .non H', rt := Q } := by
  obtain ⟨hl, h2⟩ := h
  obtain ⟨μ, S2, ds, sim, rl, wc⟩ := h2 z
  have hd : ds.length = (P f).np := rl.length.trans hl
  have e : run P (k + 1) f ds S2 = fin (P f).keep S2 (execs (run P k) (P f).body (ds.map some ++ List.replicate ((P f).ns - (P f).np) none) S2) := by
    rw [run_succ]
    unfold callD
    rw [if_pos hd]
  rw [e] at wc
  exact ⟨μ, _, S2, ⟨sim, env_start rl hd c3⟩, body_wish sim wc⟩
theorem all_okB (hFK : F.K = K) (hF0 : F.xs = []) (hFc : F.xc = xc) (T' : Facts K mg P Ls Lh T xc) : ∀ k : Nat, OkG Pm w K mg base F P Ls k ∧ OkX Pm w K mg base F P Lh T.xs k := by
  intro k
  induction k with
  | zero =>
    refine ⟨fun f i hi addr fd D => ?_, fun f i hi addr fd D a c _ _ => ?_⟩
    · have hc := T'.chk f i hi
      simp only [DI.ok, Bool.and_eq_true, decide_eq_true_eq] at hc
      refine ⟨fun vs H Q E h => h.1.trans hc.1.1.2, fun A outer s H args us vs Q E hr hg e0 hb hv h => ?_⟩
      obtain ⟨μ, S, ds, _, _, z⟩ := h.2 (sz_of e0.hok)
      rw [run_zero] at z
      exact z.elim
    · have hc := T'.chkh f i hi
      simp only [DI.ok, Bool.and_eq_true, decide_eq_true_eq] at hc
      refine ⟨fun vs H Q E h => h.1.trans hc.1.1.2, fun A outer s H args us vs Q E oe hr hg hh hp e0 hb hv h => ?_⟩
      obtain ⟨μ, S, ds, _, _, z⟩ := h.2 (sz_of e0.hok)
      rw [run_zero] at z
      exact z.elim
  | succ k ih =>
    obtain ⟨ihG, ihX⟩ := ih
    have callX : ∀ (X : Cx), X.prog = Pm → X.w = w → X.K = K → X.mg = mg → X.base = base → ∀ q ∈ T.hl, ∀ a c, plX c = true → (∃ r ∈ T.xs, r.2 = c) → CallX X (F.at a c) k a (F.xc c) q.1 q.2.2 (run P k q.2.1) := by
      intro X e1 e2 e3 e4 e5 q hq a c hp hx
      subst e1 e2 e3 e4 e5
      obtain ⟨j, hj, hn, hnp⟩ := T'.hls q hq
      obtain ⟨a2, fd2, D2, m2, b2⟩ := T'.fnh _ j hj
      refine ⟨⟨a2, fd2, j.ps, ?_, by rw [← hn]; exact m2, D2.kp, b2⟩, fun ds S hs => by rw [← hnp]; exact run_len hs⟩
      rw [← hnp]
      exact ihX _ j hj a2 fd2 D2 a c hp hx
    refine ⟨fun f i hi addr fd D => ?_, fun f i hi addr fd D a c hp hx => ?_⟩
    · have hc := T'.chk f i hi
      simp only [DI.ok, Bool.and_eq_true, decide_eq_true_eq, Bool.false_eq_true, if_false] at hc
      obtain ⟨⟨⟨c1, c2⟩, c3⟩, c4⟩ := hc
      have S := scB_ok c4
      refine fnG_of D S (fun vs H Q E h => h.1.trans c2) fun cdv A outer s H vs Q E hr hgd h => ?_
      let X : Cx := cxOf (L2N.CX Pm w) Pm w K mg base i.N i.name i.scope addr cdv A outer s H E
      have cx : CxOk X F (fun cls d _ H => E cls d H) (T.ck i.N) i.scope i.scope k (run P k) := by
        refine { ok := ⟨hFK.symm, ?_, hgd⟩, nd := S.nd, hN := rfl, hsc := rfl, kind := S.kind, blt := T'.blt, con := T'.con, cos := T'.cos, xcs := (by rw [hFc]; exact T'.xcs), cold := fun _ => ⟨rfl, hF0, hr, fun q hq => ?_, callX X rfl rfl rfl rfl rfl⟩, hot := fun z => (by cases z), tk := L2N.takes_of rfl rfl rfl rfl, tgs := fun x hx => ⟨loc_of hx, .inl rfl⟩ }
        · have := hr.un
          show (A.deeper _).units + 200 < cLine
          omega
        · obtain ⟨j, hj, hn, hnp⟩ := T'.dls q hq
          obtain ⟨a2, fd2, D2, m2, b2⟩ := T'.fns _ j hj
          refine ⟨⟨a2, fd2, j.ps, ?_, by rw [← hn]; exact m2, D2.kp, b2⟩, fun ds S hs => by rw [← hnp]; exact run_len hs⟩
          rw [← hnp]
          exact ihG _ j hj a2 fd2 D2
      exact ⟨tS F (fun cls d _ H => E cls d H) (execs (run P k) (P f).body), sndB _ F _ X _ i.scope i.body cx (passes_of rfl) ⟨rfl, rfl⟩ c1, fun z => body_of c3 h z⟩
    · have hc := T'.chkh f i hi
      simp only [DI.ok, Bool.and_eq_true, decide_eq_true_eq, if_true] at hc
      obtain ⟨⟨⟨c1, c2⟩, c3⟩, c4⟩ := hc
      have S := scB_ok c4
      refine fnX_of D S (fun vs H Q E h => h.1.trans c2) fun cdv A outer s H vs Q E oe hr hgd hh h => ?_
      let X : Cx := L2H.cxH (L2N.CX Pm w) Pm w K mg base i.N i.name i.scope addr cdv A outer s H E (a, oe)
      have cx : CxOk X (F.at a c) (fun cls d _ H => E cls d H) (T.ck i.N).toHot i.scope i.scope k (run P k) := by
        refine { ok := ⟨hFK.symm, ?_, hgd⟩, nd := S.nd, hN := rfl, hsc := rfl, kind := S.kind, blt := T'.blt, con := T'.con, cos := T'.cos, xcs := (by show Xcs K mg F.xc T.xs; rw [hFc]; exact T'.xcs), cold := fun z => (by cases z), hot := fun _ => ⟨⟨a, c, oe, rfl, List.mem_cons_self, ⟨hh.hd, hh.zn, hh.fs⟩, hx, hp, fun q hq => callX X rfl rfl rfl rfl rfl q hq a c hp hx⟩, hr⟩, tk := L2N.takes_of rfl rfl rfl rfl, tgs := fun x hx => ⟨loc_of hx, .inl rfl⟩ }
        have := hr.un
        show (A.deeper _).units + 200 < cLine
        omega
      exact ⟨tS (F.at a c) (fun cls d _ H => E cls d H) (execs (run P k) (P f).body), sndB _ (F.at a c) _ X _ i.scope i.body cx (passes_of rfl) ⟨rfl, rfl⟩ c1, fun z => body_of c3 h z⟩
theorem all_ok (hFK : F.K = K) (hF0 : F.xs = []) (hFc : F.xc = xc) (T' : Facts K mg P Ls Lh T xc) (k f : Nat) (i : DI) (hi : Ls f = some i) (addr : Addr) (fd : FuncData) (D : FunD K i.name i.name i.params i.body i.scope [] [] addr fd) : FnG Pm w K mg base k addr fd i.ps (spF F (P f).np (run P k f)) :=
  (all_okB hFK hF0 hFc T' k).1 f i hi addr fd D
end
/-- the law's promise from the interpreter's word -/
theorem law_spF {F : Fx} {P : Nat → Def} {k f n : Nat} {H : Hp} {a : Addr} {ns : List Int} {S' : Sto} (hS : SqL F.K H a (ns.map V.int)) (hr : run P k f [.scr ns] [] = .ok (.bl true) S') (hn : n = 1) :
    spF F n (run P k f) [.ref a] H (fun v _ => v = .bl true) fun _ _ _ => False := by
  subst hn
  refine ⟨rfl, fun z => ⟨⟨[], []⟩, [], [.scr ns], ⟨rfl, List.nodup_nil, ?_, ?_⟩, .cons ?_ .nil, ?_⟩⟩
  · intro a h; exact absurd h (by simp)
  · intro i a o h; exact absurd h (by simp)
  · rcases hS with r | r
    · exact .scr (by rintro (h | h) <;> cases h) r
    · exact .scrK fun H' => .inr r
  · rw [hr]
    intro μ' H' v _ r
    cases r
    rfl
end Pf
end

section 
set_option Elab.async false
set_option linter.all false
set_option maxRecDepth 100000
set_option maxHeartbeats 1000000
/-! PhA: what the interpreter does, by what is wanted behind. -/
namespace Pf
open PySem

/-! ### wishes -/
def Out.sat {α : Type} (o : Out α) (Q : α → Sto → Prop) : Prop := match o with
  | .ok a S => Q a S
  | _ => False
@[simp] theorem Out.sat_ok {α : Type} (a : α) (S : Sto) (Q : α → Sto → Prop) : (Out.ok a S).sat Q = Q a S := rfl
theorem Out.sat_bind {α β : Type} {o : Out α} {k : α → Sto → Out β} {Q : β → Sto → Prop} (h : o.sat fun a S => (k a S).sat Q) : (o.bind k).sat Q := by
  cases o <;> first | exact h | exact h.elim
theorem Out.sat_ex {α : Type} {o : Out α} {Q : α → Sto → Prop} (h : o.sat Q) : ∃ a S, o = .ok a S ∧ Q a S := by
  cases o with
  | ok a S => exact ⟨a, S, rfl, h⟩
  | exn c x S => exact h.elim
  | stuck => exact h.elim
theorem Out.sat_imp {α : Type} {o : Out α} {Q Q' : α → Sto → Prop} (h : o.sat Q) (i : ∀ a S, Q a S → Q' a S) : o.sat Q' := by
  cases o with
  | ok a S => exact i _ _ h
  | exn c x S => exact h.elim
  | stuck => exact h.elim
structure En where
  nx : Env → Sto → Prop := fun _ _ => False
  rt : D → Sto → Prop := fun _ _ => False
  bk : Env → Sto → Prop := fun _ _ => False
  ct : Env → Sto → Prop := fun _ _ => False
def Res.sat (r : Res) (E : En) : Prop := match r with
  | .nx ρ S => E.nx ρ S
  | .rt d S => E.rt d S
  | .bk ρ S => E.bk ρ S
  | .ct ρ S => E.ct ρ S
  | _ => False
@[simp] theorem Res.sat_nx (ρ : Env) (S : Sto) (E : En) : (Res.nx ρ S).sat E = E.nx ρ S := rfl
@[simp] theorem Res.sat_rt (d : D) (S : Sto) (E : En) : (Res.rt d S).sat E = E.rt d S := rfl
@[simp] theorem Res.sat_bk (ρ : Env) (S : Sto) (E : En) : (Res.bk ρ S).sat E = E.bk ρ S := rfl
@[simp] theorem Res.sat_ct (ρ : Env) (S : Sto) (E : En) : (Res.ct ρ S).sat E = E.ct ρ S := rfl
theorem Res.sat_seq {r : Res} {k : Env → Sto → Res} {E : En} (h : r.sat { E with nx := fun ρ S => (k ρ S).sat E }) : (r.seq k).sat E := by
  cases r <;> exact h
theorem Out.sat_res {α : Type} {o : Out α} {ρ : Env} {k : α → Sto → Res} {E : En} (h : o.sat fun a S => (k a S).sat E) : (o.res ρ k).sat E := by
  cases o <;> first | exact h | exact h.elim
theorem Res.sat_imp {r : Res} {E E' : En} (h : r.sat E) (h1 : ∀ ρ S, E.nx ρ S → E'.nx ρ S) (h2 : ∀ d S, E.rt d S → E'.rt d S) (h3 : ∀ ρ S, E.bk ρ S → E'.bk ρ S) (h4 : ∀ ρ S, E.ct ρ S → E'.ct ρ S) : r.sat E' := by
  cases r with
  | nx ρ S => exact h1 _ _ h
  | rt d S => exact h2 _ _ h
  | bk ρ S => exact h3 _ _ h
  | ct ρ S => exact h4 _ _ h
  | ex c x ρ S => exact h
  | stuck => exact h
/-! ### blocks -/
theorem sat_cons {Φ : Nat → List D → Sto → Out D} {s : Stm} {ss : List Stm} {ρ : Env} {S : Sto} {E : En} (h : (exec Φ s ρ S).sat { E with nx := fun ρ S => (execs Φ ss ρ S).sat E }) : (execs Φ (s :: ss) ρ S).sat E := by
  rw [execs_cons]
  exact Res.sat_seq h
theorem sat_nil {Φ : Nat → List D → Sto → Out D} {ρ : Env} {S : Sto} {E : En} (h : E.nx ρ S) : (execs Φ [] ρ S).sat E := by
  rw [execs_nil]
  exact h
/-! ### loops -/
theorem for_sat {f : D → Env → Sto → Res} {w : Wk} {E : En} (I : Nat → Env → Sto → Prop) : ∀ {ds : List D} {i : Nat} {ρ : Env} {S : Sto}, I i ρ S → (∀ j ρ S, i ≤ j → I j ρ S → w.ok S) →
    (∀ j d ρ S, ds[j]? = some d → I (i + j) ρ S → (f d ρ S).sat { E with nx := I (i + j + 1), ct := I (i + j + 1), bk := E.nx }) → (∀ ρ S, I (i + ds.length) ρ S → E.nx ρ S) → (forL f w ds ρ S).sat E
  | [], i, ρ, S, h0, hw, hs, hd => by
    unfold forL
    rw [if_pos (hw i ρ S (Nat.le_refl _) h0)]
    exact hd ρ S h0
  | d :: ds, i, ρ, S, h0, hw, hs, hd => by
    unfold forL
    rw [if_pos (hw i ρ S (Nat.le_refl _) h0)]
    have h1 := hs 0 d ρ S rfl h0
    have next : ∀ ρ' S', I (i + 1) ρ' S' → (forL f w ds ρ' S').sat E := fun ρ' S' h' =>
      for_sat I (i := i + 1) h' (fun j ρ S hj => hw j ρ S (by omega)) (fun j d ρ S e hI => by
        have := hs (j + 1) d ρ S (by simpa using e) (by rw [show i + (j + 1) = i + 1 + j by omega]; exact hI)
        rw [show i + (j + 1) + 1 = i + 1 + j + 1 by omega] at this
        exact this) fun ρ S hI => hd ρ S (by rw [List.length_cons, show i + (ds.length + 1) = i + 1 + ds.length by omega]; exact hI)
    cases q : f d ρ S with
    | nx ρ' S' => rw [q] at h1; exact next ρ' S' h1
    | ct ρ' S' => rw [q] at h1; exact next ρ' S' h1
    | bk ρ' S' => rw [q] at h1; exact h1
    | rt v S' => rw [q] at h1; exact h1
    | ex c x ρ' S' => rw [q] at h1; exact h1
    | stuck => rw [q] at h1; exact h1
theorem sat_for {Φ : Nat → List D → Sto → Out D} {tg : Tgt} {it : Itr} {b : List Stm} {ρ : Env} {S : Sto} {E : En} (I : Nat → Env → Sto → Prop) {w : Wk} {S1 : Sto} (hi : evIt Φ it ρ S = .ok w S1) (h0 : I 0 ρ S1) (hw : ∀ j ρ S, I j ρ S → w.ok S)
    (hs : ∀ j d ρ S, w.xs[j]? = some d → I j ρ S → ∃ ρ', tg.put d ρ = some ρ' ∧ (execs Φ b ρ' S).sat { E with nx := I (j + 1), ct := I (j + 1), bk := E.nx }) (hd : ∀ ρ S, I w.xs.length ρ S → E.nx ρ S) : (exec Φ (.for tg it b) ρ S).sat E := by
  rw [exec_for]
  show ((evIt Φ it ρ S).res ρ fun w S1 => forL (forB tg (execs Φ b)) w w.xs ρ S1).sat E
  rw [hi]
  show (forL (forB tg (execs Φ b)) w w.xs ρ S1).sat E
  refine for_sat I (i := 0) h0 (fun j ρ S _ => hw j ρ S) (fun j d ρ S e hI => ?_) (fun ρ S hI => hd ρ S (by simpa using hI))
  obtain ⟨ρ', e1, e2⟩ := hs j d ρ S e (by simpa using hI)
  unfold forB
  rw [e1]
  simpa using e2
theorem while_sat {c : Env → Sto → Out Bool} {b : Env → Sto → Res} {E : En} (I : Nat → Env → Sto → Prop)
    (hs : ∀ m ρ S, I m ρ S → (c ρ S).sat fun t S1 => if t = true then (b ρ S1).sat { E with nx := fun ρ' S' => ∃ m', m' < m ∧ I m' ρ' S', ct := fun ρ' S' => ∃ m', m' < m ∧ I m' ρ' S', bk := E.nx } else E.nx ρ S1) :
    ∀ (m : Nat) {ρ : Env} {S : Sto}, I m ρ S → ∃ n r, whileN c b n ρ S = some r ∧ r.sat E := by
  intro m
  induction m using Nat.strongRecOn with
  | _ m ih =>
    intro ρ S h
    have h1 := hs m ρ S h
    obtain ⟨t, S1, e, h2⟩ := Out.sat_ex h1
    cases t with
    | false => exact ⟨1, .nx ρ S1, by simp [whileN, e], h2⟩
    | true =>
      simp only [if_true] at h2
      cases q : b ρ S1 with
      | nx ρ' S' =>
        rw [q] at h2
        obtain ⟨m', hm, hI⟩ := h2
        obtain ⟨n, r, e2, h3⟩ := ih m' hm hI
        exact ⟨n + 1, r, by simp [whileN, e, q, e2], h3⟩
      | ct ρ' S' =>
        rw [q] at h2
        obtain ⟨m', hm, hI⟩ := h2
        obtain ⟨n, r, e2, h3⟩ := ih m' hm hI
        exact ⟨n + 1, r, by simp [whileN, e, q, e2], h3⟩
      | bk ρ' S' => rw [q] at h2; exact ⟨1, .nx ρ' S', by simp [whileN, e, q], h2⟩
      | rt v S' => rw [q] at h2; exact ⟨1, .rt v S', by simp [whileN, e, q], h2⟩
      | ex k x ρ' S' => rw [q] at h2; exact h2.elim
      | stuck => rw [q] at h2; exact h2.elim
theorem whileN_mono {c : Env → Sto → Out Bool} {b : Env → Sto → Res} : ∀ {n m : Nat} {ρ : Env} {S : Sto} {r : Res}, whileN c b n ρ S = some r → n ≤ m → whileN c b m ρ S = some r
  | 0, _, _, _, _, h, _ => by cases h
  | n + 1, 0, _, _, _, _, hm => by omega
  | n + 1, m + 1, ρ, S, r, h, hm => by
    unfold whileN at h ⊢
    split at h
    · exact h
    · split at h
      · exact whileN_mono h (by omega)
      · exact whileN_mono h (by omega)
      · exact h
      · exact h
      · exact h
      · exact h
    · exact h
    · exact h
theorem whileL_eq {c : Env → Sto → Out Bool} {b : Env → Sto → Res} {ρ : Env} {S : Sto} {n : Nat} {r : Res} (h : whileN c b n ρ S = some r) : whileL c b ρ S = r := by
  have hex : ∃ n r, whileN c b n ρ S = some r := ⟨n, r, h⟩
  unfold whileL
  rw [dif_pos hex]
  have h2 := hex.choose_spec.choose_spec
  have h3 := whileN_mono h2 (Nat.le_max_left _ n)
  have h4 := whileN_mono h (Nat.le_max_right hex.choose n)
  rw [h3] at h4
  exact Option.some.inj h4
theorem sat_wh {Φ : Nat → List D → Sto → Out D} {c : Exp} {b : List Stm} {ρ : Env} {S : Sto} {E : En} (I : Nat → Env → Sto → Prop) (m : Nat) (h0 : I m ρ S)
    (hs : ∀ m ρ S, I m ρ S → ∃ t S1, tst (ev Φ c) ρ S = .ok t S1 ∧ if t = true then (execs Φ b ρ S1).sat { E with nx := fun ρ' S' => ∃ m', m' < m ∧ I m' ρ' S', ct := fun ρ' S' => ∃ m', m' < m ∧ I m' ρ' S', bk := E.nx } else E.nx ρ S1) :
    (exec Φ (.wh c b) ρ S).sat E := by
  rw [exec_wh]
  obtain ⟨n, r, e, h⟩ := while_sat (c := tst (ev Φ c)) (b := execs Φ b) (E := E) I (fun m ρ S hI => by
    obtain ⟨t, S1, e, q⟩ := hs m ρ S hI
    rw [e]
    exact q) m h0
  show (whileL (tst (ev Φ c)) (execs Φ b) ρ S).sat E
  rw [whileL_eq e]
  exact h
/-- a comprehension whose parts leave the store as it is -/
theorem compL_pure {f : D → Sto → Out (Option D)} {w : Wk} {S : Sto} {g : D → Option D} (hw : w.ok S) : ∀ {ds : List D}, (∀ d ∈ ds, f d S = .ok (g d) S) → compL f w ds S = .ok (ds.filterMap g) S
  | [], _ => by unfold compL; rw [if_pos hw]; rfl
  | d :: ds, h => by
    unfold compL
    rw [if_pos hw, h d (by simp)]
    simp only
    rw [compL_pure hw fun x hx => h x (by simp [hx])]
    simp only [Out.ok_bind, List.filterMap_cons]
    cases g d <;> rfl
theorem ev_comp_pure {Φ : Nat → List D → Sto → Out D} {elt : Exp} {tg : Tgt} {it : Itr} {c : Option Exp} {ρ : Env} {S S1 : Sto} {w : Wk} (g : D → Option D) (hi : evIt Φ it ρ S = .ok w S1) (hw : w.ok S1)
    (h : ∀ d ∈ w.xs, compB tg (evc Φ c) (ev Φ elt) ρ d S1 = .ok (g d) S1) : ev Φ (.comp elt tg it c) ρ S = .ok (.lst (w.xs.filterMap g)) S1 := by
  rw [ev_comp]
  unfold compS
  rw [hi]
  simp only [Out.ok_bind]
  rw [compL_pure hw h]
  rfl
/-! ### calls -/
mutual
/-- data without names of the store -/
def D.pure : D → Bool
  | .tup xs => D.pureL xs
  | .lst xs => D.pureL xs
  | .dic _ ks vs => D.pureL ks && D.pureL vs
  | .ref _ => false
  | .exc _ x => D.pure x
  | _ => true
def D.pureL : List D → Bool
  | [] => true
  | x :: xs => D.pure x && D.pureL xs
end
mutual
theorem pure_lo (n : Nat) : ∀ {d : D}, d.pure = true → d.lo n = true
  | .non, _ => rfl
  | .bl _, _ => rfl
  | .int _, _ => rfl
  | .str _, _ => rfl
  | .tup xs, h => by simp only [D.lo]; exact pure_loL n (by simpa [D.pure] using h)
  | .lst xs, h => by simp only [D.lo]; exact pure_loL n (by simpa [D.pure] using h)
  | .dic _ ks vs, h => by simp only [D.pure, Bool.and_eq_true] at h; simp only [D.lo, Bool.and_eq_true]; exact ⟨pure_loL n h.1, pure_loL n h.2⟩
  | .ref _, h => by cases h
  | .scr _, _ => rfl
  | .exc _ x, h => by simp only [D.lo]; exact pure_lo n (by simpa [D.pure] using h)
theorem pure_loL (n : Nat) : ∀ {ds : List D}, D.pureL ds = true → D.loL n ds = true
  | [], _ => rfl
  | x :: xs, h => by simp only [D.pureL, Bool.and_eq_true] at h; simp only [D.loL, Bool.and_eq_true]; exact ⟨pure_lo n h.1, pure_loL n h.2⟩
end
theorem pure_fz1 {S : Sto} {n : Nat} {d : D} (h : d.pure = true) : fz1 S n d = d := by cases d <;> first | rfl | cases h
theorem pure_fz {S : Sto} {n : Nat} {d : D} (h : d.pure = true) : fz S n d = d := by
  cases d with
  | tup xs =>
    simp only [fz, D.tup.injEq]
    have : ∀ l : List D, D.pureL l = true → l.map (fz1 S n) = l := by
      intro l
      induction l with
      | nil => intro _; rfl
      | cons x l ih => intro h; simp only [D.pureL, Bool.and_eq_true] at h; simp [pure_fz1 h.1, ih h.2]
    exact this xs (by simpa [D.pure] using h)
  | ref i => cases h
  | _ => rfl
theorem Kept.refl (S : Sto) : Kept S S := ⟨Nat.le_refl _, fun i hi => .inl rfl⟩
theorem Kept.ext (S T : Sto) : Kept S (S ++ T) := ⟨by simp, fun i hi => .inl (List.getElem?_append_left hi)⟩
/-- what a call hands back: pure data; the caller's store may have changed by pure objects -/
theorem fin_pure {S S' : Sto} {d : D} (hd : d.pure = true) (hk : Kept S S') : fin false S (.rt d S') = .ok d (S'.take S.length) := by
  show (if false = true then finK S d S' else finV S d S') = _
  simp only [Bool.false_eq_true, if_false]
  unfold finV
  rw [pure_fz hd, if_pos ⟨hk, pure_lo _ hd⟩]
theorem fin_same {S : Sto} {d : D} (hd : d.pure = true) : fin false S (.rt d S) = .ok d S := by rw [fin_pure hd (Kept.refl S), List.take_length]
theorem fin_ext {S T : Sto} {d : D} (hd : d.pure = true) : fin false S (.rt d (S ++ T)) = .ok d S := by rw [fin_pure hd (Kept.ext S T), List.take_left]
theorem fin_nx {keep : Bool} {ρ : Env} {S T : Sto} : fin keep S (.nx ρ (S ++ T)) = .ok .non S := by
  show finV S .non (S ++ T) = _
  unfold finV
  rw [if_pos ⟨Kept.ext S T, rfl⟩, List.take_left]
  rfl
theorem fin_nx0 {keep : Bool} {ρ : Env} {S : Sto} : fin keep S (.nx ρ S) = .ok .non S := by
  have := fin_nx (keep := keep) (ρ := ρ) (S := S) (T := [])
  simpa using this
/-- a call by what its body does -/
theorem call_sat {P : Nat → Def} {k f : Nat} {args : List D} {S : Sto} {Q : D → Sto → Prop} (hn : args.length = (P f).np) (hk : (P f).keep = false)
    (h : (execs (run P k) (P f).body (args.map some ++ List.replicate ((P f).ns - (P f).np) none) S).sat { rt := fun d S' => d.pure = true ∧ Kept S S' ∧ Q d (S'.take S.length), nx := fun _ S' => Kept S S' ∧ Q .non (S'.take S.length) }) :
    (run P (k + 1) f args S).sat Q := by
  rw [run_succ]
  unfold callD
  rw [if_pos hn, hk]
  cases q : execs (run P k) (P f).body (args.map some ++ List.replicate ((P f).ns - (P f).np) none) S with
  | rt d S' => rw [q] at h; rw [fin_pure h.1 h.2.1]; exact h.2.2
  | nx ρ S' =>
    rw [q] at h
    show (finV S .non S').sat Q
    unfold finV
    rw [if_pos ⟨h.1, rfl⟩]
    exact h.2
  | bk ρ S' => rw [q] at h; exact h.elim
  | ct ρ S' => rw [q] at h; exact h.elim
  | ex c x ρ S' => rw [q] at h; exact h.elim
  | stuck => rw [q] at h; exact h.elim
end Pf
end

section 
set_option Elab.async false
set_option linter.all false
set_option maxRecDepth 100000
set_option maxHeartbeats 1000000
/-! PhB: the interpreter's steps as rewriting. -/
namespace Pf
open PySem
section
variable (S : Sto) (i j : Int) (xs ys : List D) (z z2 : List Nat) (b c : Bool) (d x y : D)
@[simp] theorem s_idxT : idxOp S (.tup xs) (.int i) = atOf xs i := rfl
@[simp] theorem s_idxL : idxOp S (.lst xs) (.int i) = atOf xs i := rfl
@[simp] theorem s_idxS (ns : List Int) : idxOp S (.scr ns) (.int i) = (atOf ns i).map D.int := rfl
theorem s_idxR {n : Nat} (h : S[n]? = some (.lst xs)) : idxOp S (.ref n) (.int i) = atOf xs i := by simp [idxOp, res, h]
@[simp] theorem s_at0 {α : Type} (a : α) (l : List α) : atOf (a :: l) 0 = some a := by simp [atOf, ixOf]
@[simp] theorem s_at1 {α : Type} (a a2 : α) (l : List α) : atOf (a :: a2 :: l) 1 = some a2 := by
  simp only [atOf, ixOf, List.length_cons]
  rw [if_pos (by omega), if_pos (by omega)]
  rfl
theorem s_atN {α : Type} (l : List α) (n : Nat) : atOf l (n : Int) = l[n]? := by
  unfold atOf ixOf
  rw [if_pos (Int.natCast_nonneg n)]
  by_cases h : n < l.length
  · rw [if_pos (by omega)]; simp
  · rw [if_neg (by omega), List.getElem?_eq_none (by omega)]; rfl
theorem s_atI {α : Type} (l : List α) (i : Int) (h : 0 ≤ i) : atOf l i = l[i.toNat]? := by
  have := s_atN l i.toNat
  rwa [Int.toNat_of_nonneg h] at this
@[simp] theorem s_trB : truth S (.bl b) = some b := rfl
@[simp] theorem s_trN : truth S .non = some false := rfl
@[simp] theorem s_trT : truth S (.tup xs) = some (!xs.isEmpty) := rfl
@[simp] theorem s_trI : truth S (.int i) = some (i != 0) := rfl
@[simp] theorem s_le : cmpOp S .le (.int i) (.int j) = some (decide (i ≤ j)) := rfl
@[simp] theorem s_lt : cmpOp S .lt (.int i) (.int j) = some (decide (i < j)) := rfl
@[simp] theorem s_gt : cmpOp S .gt (.int i) (.int j) = some (decide (j < i)) := rfl
@[simp] theorem s_ge : cmpOp S .ge (.int i) (.int j) = some (decide (j ≤ i)) := rfl
@[simp] theorem s_eq : cmpOp S .eq (.int i) (.int j) = some (decide (i = j)) := by
  show (if ((D.int i).plain 60 && (D.int j).plain 60) = true then some ((D.int i).eqv (D.int j)) else none) = _
  simp [D.plain, D.eqv]
  rfl
@[simp] theorem s_ne : cmpOp S .ne (.int i) (.int j) = some (!decide (i = j)) := by
  show (cmpOp S .eq (.int i) (.int j)).map _ = _
  rw [s_eq]
  rfl
@[simp] theorem s_neS (hz : z.all (fun c => decide (c < 1114112)) = true) (hz2 : z2.all (fun c => decide (c < 1114112)) = true) : cmpOp S .ne (.str z) (.str z2) = some (!(z == z2)) := by
  show (eqOp S (.str z) (.str z2)).map _ = _
  unfold eqOp
  simp only [res, D.plain, hz, hz2, Bool.and_self, if_true, D.eqv, Option.map_some]
@[simp] theorem s_isNN : cmpOp S .is .non .non = some true := rfl
@[simp] theorem s_tyI : isTy S .int (.int i) = some true := rfl
@[simp] theorem s_tyB : isTy S .bool (.int i) = some false := rfl
@[simp] theorem s_tyT : isTy S .tuple (.tup xs) = some true := rfl
@[simp] theorem s_add : binOp S .add (.int i) (.int j) = some (.int (i + j)) := rfl
@[simp] theorem s_sub : binOp S .sub (.int i) (.int j) = some (.int (i - j)) := rfl
@[simp] theorem s_len : biOp S .len [.tup xs] = some (.int xs.length) := rfl
@[simp] theorem s_lenL : biOp S .len [.lst xs] = some (.int xs.length) := rfl
@[simp] theorem s_lenS (ns : List Int) : biOp S .len [.scr ns] = some (.int ns.length) := rfl
@[simp] theorem s_max2 : biOp S .max2 [.int i, .int j] = some (.int (if j > i then j else i)) := rfl
@[simp] theorem s_min2 : biOp S .min2 [.int i, .int j] = some (.int (if j < i then j else i)) := rfl
@[simp] theorem s_tupL : biOp S .tuple [.lst xs] = some (.tup xs) := rfl
@[simp] theorem s_tupT : biOp S .tuple [.tup xs] = some (.tup xs) := rfl
@[simp] theorem s_listT : biOp S .list [.tup xs] = some (.lst xs) := rfl
@[simp] theorem s_listL : biOp S .list [.lst xs] = some (.lst xs) := rfl
@[simp] theorem s_intB : biOp S .int [.bl b] = some (.int (if b then 1 else 0)) := rfl
@[simp] theorem s_walkT : walkOf S (.tup xs) = some ⟨xs, none⟩ := rfl
@[simp] theorem s_walkL : walkOf S (.lst xs) = some ⟨xs, none⟩ := rfl
theorem s_walkR {n : Nat} (h : S[n]? = some (.lst xs)) : walkOf S (.ref n) = some ⟨xs, some (n, .lst xs)⟩ := by simp [walkOf, h]
@[simp] theorem s_intOf : intOf (.int i) = some i := rfl
@[simp] theorem s_tupOf : tupOf (.tup xs) = some xs := rfl
@[simp] theorem s_putN (n : Nat) (ρ : Env) : (Tgt.nm n).put d ρ = some (ρ.set n (some d)) := rfl
@[simp] theorem s_putT2 (n m : Nat) (ρ : Env) : (Tgt.tp [n, m]).put (.tup [x, y]) ρ = some ((ρ.set n (some x)).set m (some y)) := rfl
@[simp] theorem s_bind_opt {α β : Type} (S : Sto) (o : Option α) (a : α) (k : α → Sto → Out β) (h : o = some a) : (Out.opt S o).bind k = k a S := by rw [h]; rfl
@[simp] theorem s_wkok (l : List D) : Wk.ok ⟨l, none⟩ S = True := rfl
end
/-- truths, numbers of a list -/
theorem allOf_map {α β : Type} {f : α → Option β} {g : β → α} (h : ∀ x, f (g x) = some x) : ∀ l : List β, allOf f (l.map g) = some l
  | [] => rfl
  | x :: l => by simp [allOf, h, allOf_map h l]
@[simp] theorem allOf_bl (l : List Bool) : allOf blOf (l.map D.bl) = some l := allOf_map (f := blOf) (g := D.bl) (fun _ => rfl) l
@[simp] theorem allOf_int (l : List Int) : allOf intOf (l.map D.int) = some l := allOf_map (f := intOf) (g := D.int) (fun _ => rfl) l
@[simp] theorem allOf_pair (l : List (Int × Int)) : allOf pairOf (l.map pairD) = some l := allOf_map (f := pairOf) (g := pairD) (fun _ => rfl) l
@[simp] theorem s_all (S : Sto) (l : List Bool) : biOp S .all [.lst (l.map D.bl)] = some (.bl (l.all id)) := by simp [biOp, lstOf, res]
theorem s_allT {α : Type} (S : Sto) (l : List α) : biOp S .all [.lst (l.map fun _ => D.bl true)] = some (.bl true) := by
  have h := s_all S (l.map fun _ => true)
  rw [List.map_map] at h
  have e : (l.map fun _ => true).all id = true := by simp
  rw [e] at h
  exact h
@[simp] theorem s_any (S : Sto) (l : List Bool) : biOp S .any [.lst (l.map D.bl)] = some (.bl (l.any id)) := by simp [biOp, lstOf, res]
@[simp] theorem s_sum (S : Sto) (l : List Int) : biOp S .sum [.lst (l.map D.int)] = some (.int l.sum) := by simp [biOp, lstOf, res]
@[simp] theorem s_sortI (S : Sto) (l : List Int) : biOp S .sorted [.lst (l.map D.int)] = some (.lst ((sortI l).map D.int)) := by simp [biOp, lstOf, res, sortOp]
theorem s_sortP (S : Sto) (l : List (Int × Int)) (h : l ≠ []) : biOp S .sorted [.lst (l.map pairD)] = some (.lst ((sortP l).map pairD)) := by
  have : allOf intOf (l.map pairD) = none := by
    cases l with
    | nil => exact absurd rfl h
    | cons p l => simp [allOf, pairD, intOf]
  simp [biOp, lstOf, res, sortOp, this]
theorem s_sortP' (S : Sto) (l : List (Int × Int)) : biOp S .sorted [.lst (l.map pairD)] = some (.lst ((sortP l).map pairD)) := by
  by_cases h : l = []
  · subst h
    simp [biOp, lstOf, res, sortOp, allOf, sortI, sortP]
  · exact s_sortP S l h
theorem s_max1 (S : Sto) (l : List Int) (x : Int) (h : maxI l = some x) : biOp S .max1 [.lst (l.map D.int)] = some (.int x) := by simp [biOp, lstOf, res, h]
theorem compL_nil0 {f : D → Sto → Out (Option D)} {xs : List D} {S : Sto} : compL f ⟨xs, none⟩ [] S = .ok [] S := by
  unfold compL
  rw [if_pos (show Wk.ok ⟨xs, none⟩ S from trivial)]
theorem compL_cons0 {f : D → Sto → Out (Option D)} {xs : List D} {S S1 : Sto} {d : D} {ds : List D} {o : Option D} (h : f d S = .ok o S1) : compL f ⟨xs, none⟩ (d :: ds) S = (compL f ⟨xs, none⟩ ds S1).bind fun ys S2 => .ok (o.toList ++ ys) S2 := by
  rw [compL.eq_2]
  rw [if_pos (show Wk.ok ⟨xs, none⟩ S from trivial), h]
/-- a comprehension of truths that are all true, and of values by a function -/
theorem comp_map {Φ : Nat → List D → Sto → Out D} {elt : Exp} {tg : Tgt} {it : Itr} {ρ : Env} {S S1 : Sto} {α : Type} (l : List α) (enc : α → D) (val : α → D) (hi : evIt Φ it ρ S = .ok ⟨l.map enc, none⟩ S1)
    (h : ∀ a ∈ l, ∃ ρ', tg.put (enc a) (wipe ρ tg.own) = some ρ' ∧ ev Φ elt ρ' S1 = .ok (val a) S1) : ev Φ (.comp elt tg it none) ρ S = .ok (.lst (l.map val)) S1 := by
  rw [ev_comp]
  unfold compS
  rw [hi]
  simp only [Out.ok_bind]
  have : ∀ l : List α, (∀ a ∈ l, ∃ ρ', tg.put (enc a) (wipe ρ tg.own) = some ρ' ∧ ev Φ elt ρ' S1 = .ok (val a) S1) → ∀ xs, compL (compB tg (evc Φ none) (ev Φ elt) ρ) ⟨xs, none⟩ (l.map enc) S1 = .ok (l.map val) S1 := by
    intro l
    induction l with
    | nil => intro _ xs; exact compL_nil0
    | cons a l ih =>
      intro h xs
      obtain ⟨ρ', e1, e2⟩ := h a (by simp)
      have : compB tg (evc Φ none) (ev Φ elt) ρ (enc a) S1 = .ok (some (val a)) S1 := by
        unfold compB
        simp [e1, evc, e2]
      rw [List.map_cons, compL_cons0 this, ih (fun a ha => h a (by simp [ha]))]
      rfl
  rw [this l h]
  rfl
/-- .. with a test -/
theorem comp_filter {Φ : Nat → List D → Sto → Out D} {elt c : Exp} {tg : Tgt} {it : Itr} {ρ : Env} {S S1 : Sto} {α : Type} (l : List α) (enc : α → D) (p : α → Bool) (val : α → D) (hi : evIt Φ it ρ S = .ok ⟨l.map enc, none⟩ S1)
    (h : ∀ a ∈ l, ∃ ρ', tg.put (enc a) (wipe ρ tg.own) = some ρ' ∧ evc Φ (some c) ρ' S1 = .ok (p a) S1 ∧ (p a = true → ev Φ elt ρ' S1 = .ok (val a) S1)) : ev Φ (.comp elt tg it (some c)) ρ S = .ok (.lst ((l.filter p).map val)) S1 := by
  rw [ev_comp]
  unfold compS
  rw [hi]
  simp only [Out.ok_bind]
  have : ∀ l : List α, (∀ a ∈ l, ∃ ρ', tg.put (enc a) (wipe ρ tg.own) = some ρ' ∧ evc Φ (some c) ρ' S1 = .ok (p a) S1 ∧ (p a = true → ev Φ elt ρ' S1 = .ok (val a) S1)) → ∀ xs, compL (compB tg (evc Φ (some c)) (ev Φ elt) ρ) ⟨xs, none⟩ (l.map enc) S1 = .ok ((l.filter p).map val) S1 := by
    intro l
    induction l with
    | nil => intro _ xs; exact compL_nil0
    | cons a l ih =>
      intro h xs
      obtain ⟨ρ', e1, e2, e3⟩ := h a (by simp)
      have ih := ih (fun a ha => h a (by simp [ha])) xs
      by_cases q : p a = true
      · have : compB tg (evc Φ (some c)) (ev Φ elt) ρ (enc a) S1 = .ok (some (val a)) S1 := by
          unfold compB
          simp [e1, e2, q, e3 q]
        rw [List.map_cons, compL_cons0 this, ih, List.filter_cons_of_pos q]
        rfl
      · have : compB tg (evc Φ (some c)) (ev Φ elt) ρ (enc a) S1 = .ok none S1 := by
          unfold compB
          simp [e1, e2, q]
        rw [List.map_cons, compL_cons0 this, ih, List.filter_cons_of_neg q]
        rfl
  rw [this l h]
  rfl
/-- a call whose body hands back pure data and leaves the caller's store -/
theorem call_rt {P : Nat → Def} {k f : Nat} {args : List D} {S : Sto} {d : D} (D0 : Def) (hP : P f = D0) (hn : args.length = D0.np) (hk : D0.keep = false) (hd : d.pure = true)
    (he : execs (run P k) D0.body (args.map some ++ List.replicate (D0.ns - D0.np) none) S = .rt d S) : run P (k + 1) f args S = .ok d S := by
  subst hP
  rw [run_succ]
  unfold callD
  rw [if_pos hn, hk, he]
  exact fin_same hd
theorem call_nx {P : Nat → Def} {k f : Nat} {args : List D} {S : Sto} {ρ : Env} (D0 : Def) (hP : P f = D0) (hn : args.length = D0.np)
    (he : execs (run P k) D0.body (args.map some ++ List.replicate (D0.ns - D0.np) none) S = .nx ρ S) : run P (k + 1) f args S = .ok .non S := by
  subst hP
  rw [run_succ]
  unfold callD
  rw [if_pos hn, he]
  exact fin_nx0
theorem call_satD {P : Nat → Def} {k f : Nat} {args : List D} {S : Sto} {Q : D → Sto → Prop} (D0 : Def) (hP : P f = D0) (hn : args.length = D0.np) (hk : D0.keep = false)
    (h : (execs (run P k) D0.body (args.map some ++ List.replicate (D0.ns - D0.np) none) S).sat { rt := fun d S' => d.pure = true ∧ Kept S S' ∧ Q d (S'.take S.length), nx := fun _ S' => Kept S S' ∧ Q .non (S'.take S.length) }) :
    (run P (k + 1) f args S).sat Q := by
  subst hP
  exact call_sat hn hk h
theorem big_val : big = 16777216 := rfl
theorem it_rng1 {Φ : Nat → List D → Sto → Out D} {ρ : Env} {S : Sto} {a : Exp} {j : Int} (h : ev Φ a ρ S = .ok (.int j) S) (hb : -1000000 < j ∧ j < big) : evIt Φ (.rng1 a) ρ S = .ok ⟨rangeI 0 j, none⟩ S := by
  simp only [evIt, h, Out.ok_bind, s_intOf, Option.bind_some]
  rw [if_pos hb]
  rfl
theorem lt_big {j : Int} (h : j < 1000) : j < big := by have := big_val; omega
theorem rangeI_nat (n : Nat) : rangeI 0 (n : Int) = (List.range n).map fun (j : Nat) => D.int (j : Int) := by
  unfold rangeI
  rw [show ((n : Int) - 0).toNat = n by omega]
  simp
theorem it_rngN {Φ : Nat → List D → Sto → Out D} {ρ : Env} {S : Sto} {a : Exp} {n : Nat} (h : ev Φ a ρ S = .ok (.int n) S) (hn : n < 1000) : evIt Φ (.rng1 a) ρ S = .ok ⟨(List.range n).map fun (j : Nat) => D.int (j : Int), none⟩ S := by
  rw [it_rng1 h ⟨by omega, lt_big (by omega)⟩, rangeI_nat]
end Pf
end

section 
set_option Elab.async false
set_option linter.all false
set_option maxRecDepth 100000
set_option maxHeartbeats 1000000
/-! PwA: a calculus of wishes; what stands behind (Q, X, E) is held by a token, so that rewriting does not look into it. -/
namespace Pf
structure Tok {α : Sort u} (a : α) : Type where
structure Tok2 {α : Sort u} {β : Sort v} (a : α) (b : β) : Type where
def optP {α : Type} (o : Option α) (f : α → Prop) (_ : Tok f) : Prop := match o with
  | some a => f a
  | none => False
@[simp ↓] theorem optP_some {α : Type} (a : α) (f : α → Prop) (t : Tok f) : optP (some a) f t = f a := by cases t; rfl
@[simp ↓] theorem optP_none {α : Type} (f : α → Prop) (t : Tok f) : optP none f t = False := by cases t; rfl
@[simp low] theorem optP_if {α : Type} (c : Prop) [Decidable c] (a : α) (f : α → Prop) (t : Tok f) : optP (if c then some a else none) f t = (c ∧ f a) := by
  by_cases h : c <;> simp [h, optP]
@[simp ↓] theorem optP_map {α β : Type} (o : Option α) (g : α → β) (f : β → Prop) (t : Tok f) : optP (o.map g) f t = optP o (fun a => f (g a)) ⟨⟩ := by cases o <;> rfl
@[simp ↓] theorem optP_bind {α β : Type} (o : Option α) (g : α → Option β) (f : β → Prop) (t : Tok f) : optP (o.bind g) f t = optP o (fun a => optP (g a) f ⟨⟩) ⟨⟩ := by cases o <;> rfl
theorem optP_of {α : Type} {o : Option α} {f : α → Prop} {t : Tok f} {a : α} (h : o = some a) (q : f a) : optP o f t := by subst h; exact q
def brP (o : Option Bool) (A B : Prop) (_ : Tok2 A B) : Prop := match o with
  | some true => A
  | some false => B
  | none => False
@[simp ↓] theorem brP_true (A B : Prop) (t : Tok2 A B) : brP (some true) A B t = A := by cases t; rfl
@[simp ↓] theorem brP_false (A B : Prop) (t : Tok2 A B) : brP (some false) A B t = B := by cases t; rfl
theorem brP_of {b : Bool} {A B : Prop} {t : Tok2 A B} (h1 : b = true → A) (h2 : b = false → B) : brP (some b) A B t := by
  cases b with
  | true => exact h1 rfl
  | false => exact h2 rfl
theorem brP_dec {p : Prop} [Decidable p] {A B : Prop} {t : Tok2 A B} (h1 : p → A) (h2 : ¬p → B) : brP (some (decide p)) A B t := by
  by_cases h : p
  · simp only [h, decide_true]; exact h1 h
  · simp only [h, decide_false]; exact h2 h
abbrev Qd := D → Sto → Prop
abbrev Xd := Nat → D → Sto → Prop
def OP {α : Type} (o : Out α) (Q : α → Sto → Prop) (X : Xd) (_ : Tok2 Q X) : Prop := match o with
  | .ok a S => Q a S
  | .exn c x S => X c x S
  | .stuck => False
@[simp ↓] theorem OP_ok {α : Type} (a : α) (S : Sto) (Q : α → Sto → Prop) (X : Xd) (t : Tok2 Q X) : OP (.ok a S) Q X t = Q a S := by cases t; rfl
@[simp ↓] theorem OP_exn {α : Type} (c : Nat) (x : D) (S : Sto) (Q : α → Sto → Prop) (X : Xd) (t : Tok2 Q X) : OP (.exn c x S) Q X t = X c x S := by cases t; rfl
theorem OP_bind {α β : Type} (o : Out α) (k : α → Sto → Out β) (Q : β → Sto → Prop) (X : Xd) (t : Tok2 Q X) : OP (o.bind k) Q X t = OP o (fun a S => OP (k a S) Q X ⟨⟩) X ⟨⟩ := by cases o <;> rfl
theorem OP_opt {α : Type} (S : Sto) (o : Option α) (Q : α → Sto → Prop) (X : Xd) (t : Tok2 Q X) : OP (Out.opt S o) Q X t = optP o (fun a => Q a S) ⟨⟩ := by cases o <;> rfl
theorem OP_ite {α : Type} (b : Bool) (u v : Out α) (Q : α → Sto → Prop) (X : Xd) (t : Tok2 Q X) : OP (if b = true then u else v) Q X t = brP (some b) (OP u Q X ⟨⟩) (OP v Q X ⟨⟩) ⟨⟩ := by cases b <;> rfl
theorem OP_brP {α : Type} (S : Sto) (o : Option Bool) (f : Bool → Sto → Out α) (Q : α → Sto → Prop) (X : Xd) (t : Tok2 Q X) : OP ((Out.opt S o).bind f) Q X t = brP o (OP (f true S) Q X ⟨⟩) (OP (f false S) Q X ⟨⟩) ⟨⟩ := by
  cases o with
  | none => rfl
  | some b => cases b <;> rfl
theorem OP_congr {α : Type} {o : Out α} {Q Q' : α → Sto → Prop} {X : Xd} {t : Tok2 Q X} {t' : Tok2 Q' X} (h : ∀ a S, Q a S = Q' a S) : OP o Q X t = OP o Q' X t' := by
  cases o with
  | ok a S => exact h a S
  | exn c x S => rfl
  | stuck => rfl
theorem OP_imp {α : Type} {o : Out α} {Q Q' : α → Sto → Prop} {X X' : Xd} {t : Tok2 Q X} {t' : Tok2 Q' X'} (h : OP o Q X t) (h1 : ∀ a S, Q a S → Q' a S) (h2 : ∀ c x S, X c x S → X' c x S) : OP o Q' X' t' := by
  cases o with
  | ok a S => exact h1 _ _ h
  | exn c x S => exact h2 _ _ _ h
  | stuck => exact h
theorem OP_ex {α : Type} {o : Out α} {Q : α → Sto → Prop} {t : Tok2 Q fun _ _ _ => False} (h : OP o Q (fun _ _ _ => False) t) : ∃ a S, o = .ok a S ∧ Q a S := by
  cases o with
  | ok a S => exact ⟨a, S, rfl, h⟩
  | exn c x S => exact h.elim
  | stuck => exact h.elim
structure Ex where
  nx : Env → Sto → Prop
  rt : D → Sto → Prop
  bk : Env → Sto → Prop
  ct : Env → Sto → Prop
  ex : Nat → D → Env → Sto → Prop
def RP (r : Res) (E : Ex) (_ : Tok E) : Prop := match r with
  | .nx ρ S => E.nx ρ S
  | .rt d S => E.rt d S
  | .bk ρ S => E.bk ρ S
  | .ct ρ S => E.ct ρ S
  | .ex c x ρ S => E.ex c x ρ S
  | .stuck => False
theorem RP_res {α : Type} (o : Out α) (ρ : Env) (k : α → Sto → Res) (E : Ex) (t : Tok E) : RP (o.res ρ k) E t = OP o (fun a S => RP (k a S) E ⟨⟩) (fun c x S => E.ex c x ρ S) ⟨⟩ := by cases o <;> rfl
theorem RP_seq (r : Res) (k : Env → Sto → Res) (E : Ex) (t : Tok E) : RP (r.seq k) E t = RP r { E with nx := fun ρ S => RP (k ρ S) E ⟨⟩ } ⟨⟩ := by cases r <;> rfl
theorem RP_imp {r : Res} {E E' : Ex} {t : Tok E} {t' : Tok E'} (h : RP r E t) (h1 : ∀ ρ S, E.nx ρ S → E'.nx ρ S) (h2 : ∀ d S, E.rt d S → E'.rt d S) (h3 : ∀ ρ S, E.bk ρ S → E'.bk ρ S) (h4 : ∀ ρ S, E.ct ρ S → E'.ct ρ S) (h5 : ∀ c x ρ S, E.ex c x ρ S → E'.ex c x ρ S) : RP r E' t' := by
  cases r with
  | nx ρ S => exact h1 _ _ h
  | rt d S => exact h2 _ _ h
  | bk ρ S => exact h3 _ _ h
  | ct ρ S => exact h4 _ _ h
  | ex c x ρ S => exact h5 _ _ _ _ h
  | stuck => exact h
abbrev Fn := Nat → List D → Sto → Out D
@[irreducible] def W (Φ : Fn) (e : Exp) (ρ : Env) (S : Sto) (Q : Qd) (X : Xd) (t : Tok2 Q X) : Prop := OP (ev Φ e ρ S) Q X t
@[irreducible] def WS (Φ : Fn) (es : List Exp) (ρ : Env) (S : Sto) (Q : List D → Sto → Prop) (X : Xd) (t : Tok2 Q X) : Prop := OP (evs Φ es ρ S) Q X t
@[irreducible] def WO (Φ : Fn) (e : Option Exp) (ρ : Env) (S : Sto) (Q : Option Int → Sto → Prop) (X : Xd) (t : Tok2 Q X) : Prop := OP (evo Φ e ρ S) Q X t
@[irreducible] def WC (Φ : Fn) (e : Option Exp) (ρ : Env) (S : Sto) (Q : Bool → Sto → Prop) (X : Xd) (t : Tok2 Q X) : Prop := OP (evc Φ e ρ S) Q X t
@[irreducible] def WI (Φ : Fn) (it : Itr) (ρ : Env) (S : Sto) (Q : Wk → Sto → Prop) (X : Xd) (t : Tok2 Q X) : Prop := OP (evIt Φ it ρ S) Q X t
@[irreducible] def XS (Φ : Fn) (ss : List Stm) (ρ : Env) (S : Sto) (E : Ex) (t : Tok E) : Prop := RP (execs Φ ss ρ S) E t
theorem W_def (Φ : Fn) (e : Exp) (ρ : Env) (S : Sto) (Q : Qd) (X : Xd) (t : Tok2 Q X) : W Φ e ρ S Q X t = OP (ev Φ e ρ S) Q X t := by unfold W; rfl
theorem WS_def (Φ : Fn) (e : List Exp) (ρ : Env) (S : Sto) (Q : List D → Sto → Prop) (X : Xd) (t : Tok2 Q X) : WS Φ e ρ S Q X t = OP (evs Φ e ρ S) Q X t := by unfold WS; rfl
theorem WO_def (Φ : Fn) (e : Option Exp) (ρ : Env) (S : Sto) (Q : Option Int → Sto → Prop) (X : Xd) (t : Tok2 Q X) : WO Φ e ρ S Q X t = OP (evo Φ e ρ S) Q X t := by unfold WO; rfl
theorem WC_def (Φ : Fn) (e : Option Exp) (ρ : Env) (S : Sto) (Q : Bool → Sto → Prop) (X : Xd) (t : Tok2 Q X) : WC Φ e ρ S Q X t = OP (evc Φ e ρ S) Q X t := by unfold WC; rfl
theorem WI_def (Φ : Fn) (e : Itr) (ρ : Env) (S : Sto) (Q : Wk → Sto → Prop) (X : Xd) (t : Tok2 Q X) : WI Φ e ρ S Q X t = OP (evIt Φ e ρ S) Q X t := by unfold WI; rfl
theorem XS_def (Φ : Fn) (ss : List Stm) (ρ : Env) (S : Sto) (E : Ex) (t : Tok E) : XS Φ ss ρ S E t = RP (execs Φ ss ρ S) E t := by unfold XS; rfl
@[irreducible] def rngV (j : Int) : Option Wk := if -1000000 < j ∧ j < big then some ⟨rangeI 0 j, none⟩ else none
@[irreducible] def rngW (i j : Int) : Option Wk := if rgOk i j then some ⟨rangeI i j, none⟩ else none
theorem rngV_def (j : Int) : rngV j = if -1000000 < j ∧ j < big then some ⟨rangeI 0 j, none⟩ else none := by unfold rngV; rfl
theorem rngW_def (i j : Int) : rngW i j = if rgOk i j then some ⟨rangeI i j, none⟩ else none := by unfold rngW; rfl
section
variable (Φ : Fn) (ρ : Env) (S : Sto) (Q : Qd) (X : Xd) (t : Tok2 Q X) (E : Ex) (u : Tok E)

@[simp ↓] theorem W_v0 (d : D) : W Φ (.var 0) (some d :: ρ) S Q X t = Q d S := by rw [W_def, ev]; rfl
@[simp ↓] theorem W_v1 (o0 : Option D) (d : D) : W Φ (.var 1) (o0 :: some d :: ρ) S Q X t = Q d S := by rw [W_def, ev]; rfl
@[simp ↓] theorem W_v2 (o0 o1 : Option D) (d : D) : W Φ (.var 2) (o0 :: o1 :: some d :: ρ) S Q X t = Q d S := by rw [W_def, ev]; rfl
@[simp ↓] theorem W_v3 (o0 o1 o2 : Option D) (d : D) : W Φ (.var 3) (o0 :: o1 :: o2 :: some d :: ρ) S Q X t = Q d S := by rw [W_def, ev]; rfl
@[simp ↓] theorem W_v4 (o0 o1 o2 o3 : Option D) (d : D) : W Φ (.var 4) (o0 :: o1 :: o2 :: o3 :: some d :: ρ) S Q X t = Q d S := by rw [W_def, ev]; rfl
@[simp ↓] theorem W_v5 (o0 o1 o2 o3 o4 : Option D) (d : D) : W Φ (.var 5) (o0 :: o1 :: o2 :: o3 :: o4 :: some d :: ρ) S Q X t = Q d S := by rw [W_def, ev]; rfl
@[simp ↓] theorem W_v6 (o0 o1 o2 o3 o4 o5 : Option D) (d : D) : W Φ (.var 6) (o0 :: o1 :: o2 :: o3 :: o4 :: o5 :: some d :: ρ) S Q X t = Q d S := by rw [W_def, ev]; rfl
@[simp ↓] theorem W_v7 (o0 o1 o2 o3 o4 o5 o6 : Option D) (d : D) : W Φ (.var 7) (o0 :: o1 :: o2 :: o3 :: o4 :: o5 :: o6 :: some d :: ρ) S Q X t = Q d S := by rw [W_def, ev]; rfl
@[simp ↓] theorem W_v8 (o0 o1 o2 o3 o4 o5 o6 o7 : Option D) (d : D) : W Φ (.var 8) (o0 :: o1 :: o2 :: o3 :: o4 :: o5 :: o6 :: o7 :: some d :: ρ) S Q X t = Q d S := by rw [W_def, ev]; rfl
@[simp ↓] theorem W_v9 (o0 o1 o2 o3 o4 o5 o6 o7 o8 : Option D) (d : D) : W Φ (.var 9) (o0 :: o1 :: o2 :: o3 :: o4 :: o5 :: o6 :: o7 :: o8 :: some d :: ρ) S Q X t = Q d S := by rw [W_def, ev]; rfl
@[simp ↓] theorem W_v10 (o0 o1 o2 o3 o4 o5 o6 o7 o8 o9 : Option D) (d : D) : W Φ (.var 10) (o0 :: o1 :: o2 :: o3 :: o4 :: o5 :: o6 :: o7 :: o8 :: o9 :: some d :: ρ) S Q X t = Q d S := by rw [W_def, ev]; rfl
@[simp ↓] theorem W_v11 (o0 o1 o2 o3 o4 o5 o6 o7 o8 o9 o10 : Option D) (d : D) : W Φ (.var 11) (o0 :: o1 :: o2 :: o3 :: o4 :: o5 :: o6 :: o7 :: o8 :: o9 :: o10 :: some d :: ρ) S Q X t = Q d S := by rw [W_def, ev]; rfl
@[simp ↓] theorem W_v12 (o0 o1 o2 o3 o4 o5 o6 o7 o8 o9 o10 o11 : Option D) (d : D) : W Φ (.var 12) (o0 :: o1 :: o2 :: o3 :: o4 :: o5 :: o6 :: o7 :: o8 :: o9 :: o10 :: o11 :: some d :: ρ) S Q X t = Q d S := by rw [W_def, ev]; rfl
@[simp ↓] theorem W_v13 (o0 o1 o2 o3 o4 o5 o6 o7 o8 o9 o10 o11 o12 : Option D) (d : D) : W Φ (.var 13) (o0 :: o1 :: o2 :: o3 :: o4 :: o5 :: o6 :: o7 :: o8 :: o9 :: o10 :: o11 :: o12 :: some d :: ρ) S Q X t = Q d S := by rw [W_def, ev]; rfl
@[simp ↓] theorem W_v14 (o0 o1 o2 o3 o4 o5 o6 o7 o8 o9 o10 o11 o12 o13 : Option D) (d : D) : W Φ (.var 14) (o0 :: o1 :: o2 :: o3 :: o4 :: o5 :: o6 :: o7 :: o8 :: o9 :: o10 :: o11 :: o12 :: o13 :: some d :: ρ) S Q X t = Q d S := by rw [W_def, ev]; rfl
@[simp ↓] theorem W_v15 (o0 o1 o2 o3 o4 o5 o6 o7 o8 o9 o10 o11 o12 o13 o14 : Option D) (d : D) : W Φ (.var 15) (o0 :: o1 :: o2 :: o3 :: o4 :: o5 :: o6 :: o7 :: o8 :: o9 :: o10 :: o11 :: o12 :: o13 :: o14 :: some d :: ρ) S Q X t = Q d S := by rw [W_def, ev]; rfl
@[simp ↓] theorem W_v16 (o0 o1 o2 o3 o4 o5 o6 o7 o8 o9 o10 o11 o12 o13 o14 o15 : Option D) (d : D) : W Φ (.var 16) (o0 :: o1 :: o2 :: o3 :: o4 :: o5 :: o6 :: o7 :: o8 :: o9 :: o10 :: o11 :: o12 :: o13 :: o14 :: o15 :: some d :: ρ) S Q X t = Q d S := by rw [W_def, ev]; rfl
@[simp ↓] theorem W_v17 (o0 o1 o2 o3 o4 o5 o6 o7 o8 o9 o10 o11 o12 o13 o14 o15 o16 : Option D) (d : D) : W Φ (.var 17) (o0 :: o1 :: o2 :: o3 :: o4 :: o5 :: o6 :: o7 :: o8 :: o9 :: o10 :: o11 :: o12 :: o13 :: o14 :: o15 :: o16 :: some d :: ρ) S Q X t = Q d S := by rw [W_def, ev]; rfl
@[simp ↓] theorem W_v18 (o0 o1 o2 o3 o4 o5 o6 o7 o8 o9 o10 o11 o12 o13 o14 o15 o16 o17 : Option D) (d : D) : W Φ (.var 18) (o0 :: o1 :: o2 :: o3 :: o4 :: o5 :: o6 :: o7 :: o8 :: o9 :: o10 :: o11 :: o12 :: o13 :: o14 :: o15 :: o16 :: o17 :: some d :: ρ) S Q X t = Q d S := by rw [W_def, ev]; rfl
@[simp ↓] theorem W_v19 (o0 o1 o2 o3 o4 o5 o6 o7 o8 o9 o10 o11 o12 o13 o14 o15 o16 o17 o18 : Option D) (d : D) : W Φ (.var 19) (o0 :: o1 :: o2 :: o3 :: o4 :: o5 :: o6 :: o7 :: o8 :: o9 :: o10 :: o11 :: o12 :: o13 :: o14 :: o15 :: o16 :: o17 :: o18 :: some d :: ρ) S Q X t = Q d S := by rw [W_def, ev]; rfl
@[simp ↓] theorem W_v20 (o0 o1 o2 o3 o4 o5 o6 o7 o8 o9 o10 o11 o12 o13 o14 o15 o16 o17 o18 o19 : Option D) (d : D) : W Φ (.var 20) (o0 :: o1 :: o2 :: o3 :: o4 :: o5 :: o6 :: o7 :: o8 :: o9 :: o10 :: o11 :: o12 :: o13 :: o14 :: o15 :: o16 :: o17 :: o18 :: o19 :: some d :: ρ) S Q X t = Q d S := by rw [W_def, ev]; rfl
@[simp ↓] theorem W_v21 (o0 o1 o2 o3 o4 o5 o6 o7 o8 o9 o10 o11 o12 o13 o14 o15 o16 o17 o18 o19 o20 : Option D) (d : D) : W Φ (.var 21) (o0 :: o1 :: o2 :: o3 :: o4 :: o5 :: o6 :: o7 :: o8 :: o9 :: o10 :: o11 :: o12 :: o13 :: o14 :: o15 :: o16 :: o17 :: o18 :: o19 :: o20 :: some d :: ρ) S Q X t = Q d S := by rw [W_def, ev]; rfl
@[simp ↓] theorem W_v22 (o0 o1 o2 o3 o4 o5 o6 o7 o8 o9 o10 o11 o12 o13 o14 o15 o16 o17 o18 o19 o20 o21 : Option D) (d : D) : W Φ (.var 22) (o0 :: o1 :: o2 :: o3 :: o4 :: o5 :: o6 :: o7 :: o8 :: o9 :: o10 :: o11 :: o12 :: o13 :: o14 :: o15 :: o16 :: o17 :: o18 :: o19 :: o20 :: o21 :: some d :: ρ) S Q X t = Q d S := by rw [W_def, ev]; rfl
@[simp ↓] theorem W_v23 (o0 o1 o2 o3 o4 o5 o6 o7 o8 o9 o10 o11 o12 o13 o14 o15 o16 o17 o18 o19 o20 o21 o22 : Option D) (d : D) : W Φ (.var 23) (o0 :: o1 :: o2 :: o3 :: o4 :: o5 :: o6 :: o7 :: o8 :: o9 :: o10 :: o11 :: o12 :: o13 :: o14 :: o15 :: o16 :: o17 :: o18 :: o19 :: o20 :: o21 :: o22 :: some d :: ρ) S Q X t = Q d S := by rw [W_def, ev]; rfl
@[simp ↓] theorem W_v24 (o0 o1 o2 o3 o4 o5 o6 o7 o8 o9 o10 o11 o12 o13 o14 o15 o16 o17 o18 o19 o20 o21 o22 o23 : Option D) (d : D) : W Φ (.var 24) (o0 :: o1 :: o2 :: o3 :: o4 :: o5 :: o6 :: o7 :: o8 :: o9 :: o10 :: o11 :: o12 :: o13 :: o14 :: o15 :: o16 :: o17 :: o18 :: o19 :: o20 :: o21 :: o22 :: o23 :: some d :: ρ) S Q X t = Q d S := by rw [W_def, ev]; rfl
@[simp ↓] theorem W_v25 (o0 o1 o2 o3 o4 o5 o6 o7 o8 o9 o10 o11 o12 o13 o14 o15 o16 o17 o18 o19 o20 o21 o22 o23 o24 : Option D) (d : D) : W Φ (.var 25) (o0 :: o1 :: o2 :: o3 :: o4 :: o5 :: o6 :: o7 :: o8 :: o9 :: o10 :: o11 :: o12 :: o13 :: o14 :: o15 :: o16 :: o17 :: o18 :: o19 :: o20 :: o21 :: o22 :: o23 :: o24 :: some d :: ρ) S Q X t = Q d S := by rw [W_def, ev]; rfl
@[simp ↓] theorem W_cst (d : D) : W Φ (.cst d) ρ S Q X t = Q d S := by rw [W_def, ev]; rfl
@[simp ↓] theorem W_glb (x : String) (d : D) : W Φ (.glb x d) ρ S Q X t = Q d S := by rw [W_def, ev]; rfl
@[simp ↓] theorem W_tup (es : List Exp) : W Φ (.tup es) ρ S Q X t = WS Φ es ρ S (fun ds S1 => Q (.tup ds) S1) X ⟨⟩ := by
  simp only [W_def, WS_def, WO_def, WC_def, WI_def, ev, OP_bind, OP_opt, OP_ok]
  repeat (refine OP_congr (fun x S1 => ?_); try simp only [W_def, WS_def, WO_def, OP_bind, OP_opt, OP_ok])
@[simp ↓] theorem W_lst (es : List Exp) : W Φ (.lst es) ρ S Q X t = WS Φ es ρ S (fun ds S1 => Q (.lst ds) S1) X ⟨⟩ := by
  simp only [W_def, WS_def, WO_def, WC_def, WI_def, ev, OP_bind, OP_opt, OP_ok]
  repeat (refine OP_congr (fun x S1 => ?_); try simp only [W_def, WS_def, WO_def, OP_bind, OP_opt, OP_ok])
@[simp ↓] theorem W_dic (b : Bool) (es : List Exp) : W Φ (.dic b es) ρ S Q X t = WS Φ es ρ S (fun ds S1 => optP ((putAll b [] [] (pairUp ds)).map fun p => D.dic b p.1 p.2) (fun d => Q d S1) ⟨⟩) X ⟨⟩ := by
  simp only [W_def, WS_def, WO_def, WC_def, WI_def, ev, OP_bind, OP_opt, OP_ok]
  repeat (refine OP_congr (fun x S1 => ?_); try simp only [W_def, WS_def, WO_def, OP_bind, OP_opt, OP_ok])
@[simp ↓] theorem W_bin (op : Bop) (a b : Exp) : W Φ (.bin op a b) ρ S Q X t = W Φ a ρ S (fun x S1 => W Φ b ρ S1 (fun y S2 => optP (binOp S2 op x y) (fun d => Q d S2) ⟨⟩) X ⟨⟩) X ⟨⟩ := by
  simp only [W_def, WS_def, WO_def, WC_def, WI_def, ev, OP_bind, OP_opt, OP_ok]
  repeat (refine OP_congr (fun x S1 => ?_); try simp only [W_def, WS_def, WO_def, OP_bind, OP_opt, OP_ok])
@[simp ↓] theorem W_neg (a : Exp) : W Φ (.neg a) ρ S Q X t = W Φ a ρ S (fun x S1 => optP ((intOf x).map fun i => D.int (-i)) (fun d => Q d S1) ⟨⟩) X ⟨⟩ := by
  simp only [W_def, WS_def, WO_def, WC_def, WI_def, ev, OP_bind, OP_opt, OP_ok]
  repeat (refine OP_congr (fun x S1 => ?_); try simp only [W_def, WS_def, WO_def, OP_bind, OP_opt, OP_ok])
@[simp ↓] theorem W_not (a : Exp) : W Φ (.not a) ρ S Q X t = W Φ a ρ S (fun x S1 => optP ((truth S1 x).map fun b => D.bl (!b)) (fun d => Q d S1) ⟨⟩) X ⟨⟩ := by
  simp only [W_def, WS_def, WO_def, WC_def, WI_def, ev, OP_bind, OP_opt, OP_ok]
  repeat (refine OP_congr (fun x S1 => ?_); try simp only [W_def, WS_def, WO_def, OP_bind, OP_opt, OP_ok])
@[simp ↓] theorem W_and (a b : Exp) : W Φ (.and a b) ρ S Q X t = W Φ a ρ S (fun x S1 => brP (truth S1 x) (W Φ b ρ S1 Q X ⟨⟩) (Q x S1) ⟨⟩) X ⟨⟩ := by
  simp only [W_def, ev, OP_bind]
  refine OP_congr fun x S1 => ?_
  try simp only [OP_bind, W_def, WS_def]
  cases truth S1 x with
  | none => rfl
  | some b => cases b <;> first | rfl | exact (W_def ..).symm
@[simp ↓] theorem W_or (a b : Exp) : W Φ (.or a b) ρ S Q X t = W Φ a ρ S (fun x S1 => brP (truth S1 x) (Q x S1) (W Φ b ρ S1 Q X ⟨⟩) ⟨⟩) X ⟨⟩ := by
  simp only [W_def, ev, OP_bind]
  refine OP_congr fun x S1 => ?_
  try simp only [OP_bind, W_def, WS_def]
  cases truth S1 x with
  | none => rfl
  | some b => cases b <;> first | rfl | exact (W_def ..).symm
@[simp ↓] theorem W_ite (c a b : Exp) : W Φ (.ite c a b) ρ S Q X t = W Φ c ρ S (fun x S1 => brP (truth S1 x) (W Φ a ρ S1 Q X ⟨⟩) (W Φ b ρ S1 Q X ⟨⟩) ⟨⟩) X ⟨⟩ := by
  simp only [W_def, ev, OP_bind]
  refine OP_congr fun x S1 => ?_
  try simp only [OP_bind, W_def, WS_def]
  cases truth S1 x with
  | none => rfl
  | some b => cases b <;> first | rfl | exact (W_def ..).symm
@[simp ↓] theorem W_cmp (op : Cop) (a b : Exp) : W Φ (.cmp op a b) ρ S Q X t = W Φ a ρ S (fun x S1 => W Φ b ρ S1 (fun y S2 => optP ((cmpOp S2 op x y).map D.bl) (fun d => Q d S2) ⟨⟩) X ⟨⟩) X ⟨⟩ := by
  simp only [W_def, WS_def, WO_def, WC_def, WI_def, ev, OP_bind, OP_opt, OP_ok]
  repeat (refine OP_congr (fun x S1 => ?_); try simp only [W_def, WS_def, WO_def, OP_bind, OP_opt, OP_ok])
@[simp ↓] theorem W_chain (op op2 : Cop) (a b c : Exp) : W Φ (.chain op op2 a b c) ρ S Q X t = W Φ a ρ S (fun x S1 => W Φ b ρ S1 (fun y S2 => brP (cmpOp S2 op x y) (W Φ c ρ S2 (fun z S4 => optP ((cmpOp S4 op2 y z).map D.bl) (fun d => Q d S4) ⟨⟩) X ⟨⟩) (Q (.bl false) S2) ⟨⟩) X ⟨⟩) X ⟨⟩ := by
  simp only [W_def, ev, OP_bind]
  refine OP_congr fun x S1 => ?_
  try simp only [OP_bind, W_def, WS_def]
  refine OP_congr fun y S2 => ?_
  cases cmpOp S2 op x y with
  | none => rfl
  | some b => cases b with
    | false => rfl
    | true =>
      show OP ((ev Φ c ρ S2).bind _) Q X _ = W Φ c ρ S2 _ X _
      rw [OP_bind, W_def]
      exact OP_congr fun z S4 => OP_opt ..
@[simp ↓] theorem W_idx (a b : Exp) : W Φ (.idx a b) ρ S Q X t = W Φ a ρ S (fun x S1 => W Φ b ρ S1 (fun y S2 => optP (idxOp S2 x y) (fun d => Q d S2) ⟨⟩) X ⟨⟩) X ⟨⟩ := by
  simp only [W_def, WS_def, WO_def, WC_def, WI_def, ev, OP_bind, OP_opt, OP_ok]
  repeat (refine OP_congr (fun x S1 => ?_); try simp only [W_def, WS_def, WO_def, OP_bind, OP_opt, OP_ok])
@[simp ↓] theorem W_slc (a : Exp) (lo hi : Option Exp) : W Φ (.slc a lo hi) ρ S Q X t = W Φ a ρ S (fun x S1 => WO Φ lo ρ S1 (fun l S2 => WO Φ hi ρ S2 (fun h S3 => optP (slcOp S3 x l h) (fun d => Q d S3) ⟨⟩) X ⟨⟩) X ⟨⟩) X ⟨⟩ := by
  simp only [W_def, WS_def, WO_def, WC_def, WI_def, ev, OP_bind, OP_opt, OP_ok]
  repeat (refine OP_congr (fun x S1 => ?_); try simp only [W_def, WS_def, WO_def, OP_bind, OP_opt, OP_ok])
@[simp ↓] theorem W_rev (a : Exp) : W Φ (.rev a) ρ S Q X t = W Φ a ρ S (fun x S1 => optP (revOp S1 x) (fun d => Q d S1) ⟨⟩) X ⟨⟩ := by
  simp only [W_def, WS_def, WO_def, WC_def, WI_def, ev, OP_bind, OP_opt, OP_ok]
  repeat (refine OP_congr (fun x S1 => ?_); try simp only [W_def, WS_def, WO_def, OP_bind, OP_opt, OP_ok])
@[simp ↓] theorem W_call (f : Nat) (es : List Exp) : W Φ (.call f es) ρ S Q X t = WS Φ es ρ S (fun ds S1 => OP (Φ f ds S1) Q X ⟨⟩) X ⟨⟩ := by
  simp only [W_def, WS_def, WO_def, WC_def, WI_def, ev, OP_bind, OP_opt, OP_ok]
  repeat (refine OP_congr (fun x S1 => ?_); try simp only [W_def, WS_def, WO_def, OP_bind, OP_opt, OP_ok])
@[simp ↓] theorem W_bi (f : Bi) (es : List Exp) : W Φ (.bi f es) ρ S Q X t = WS Φ es ρ S (fun ds S1 => optP (biOp S1 f ds) (fun d => Q d S1) ⟨⟩) X ⟨⟩ := by
  simp only [W_def, WS_def, WO_def, WC_def, WI_def, ev, OP_bind, OP_opt, OP_ok]
  repeat (refine OP_congr (fun x S1 => ?_); try simp only [W_def, WS_def, WO_def, OP_bind, OP_opt, OP_ok])
@[simp ↓] theorem W_isi (k : Ty) (a : Exp) : W Φ (.isi k a) ρ S Q X t = W Φ a ρ S (fun x S1 => optP ((isTy S1 k x).map D.bl) (fun d => Q d S1) ⟨⟩) X ⟨⟩ := by
  simp only [W_def, WS_def, WO_def, WC_def, WI_def, ev, OP_bind, OP_opt, OP_ok]
  repeat (refine OP_congr (fun x S1 => ?_); try simp only [W_def, WS_def, WO_def, OP_bind, OP_opt, OP_ok])
@[simp ↓] theorem W_isx (c : Nat) (a : Exp) : W Φ (.isx c a) ρ S Q X t = W Φ a ρ S (fun x S1 => optP ((isXc c x).map D.bl) (fun d => Q d S1) ⟨⟩) X ⟨⟩ := by
  simp only [W_def, WS_def, WO_def, WC_def, WI_def, ev, OP_bind, OP_opt, OP_ok]
  repeat (refine OP_congr (fun x S1 => ?_); try simp only [W_def, WS_def, WO_def, OP_bind, OP_opt, OP_ok])
noncomputable def mtP (S : Sto) (m : Mt) (x : D) (ds : List D) : Option (D × Sto) := mtOp S m x ds
@[simp ↓] theorem W_meth (m : Mt) (o : Exp) (es : List Exp) : W Φ (.meth m o es) ρ S Q X t = W Φ o ρ S (fun x S1 => brP (some (mtTy S1 m x)) (WS Φ es ρ S1 (fun ds S2 => optP (mtOp S2 m x ds) (fun p => Q p.1 p.2) ⟨⟩) X ⟨⟩) False ⟨⟩) X ⟨⟩ := by
  simp only [W_def, WS_def, ev, OP_bind]
  refine OP_congr fun x S1 => ?_
  try simp only [OP_bind, W_def, WS_def]
  cases mtTy S1 m x with
  | false => rfl
  | true =>
    simp only [if_true, OP_bind, brP_true, WS_def]
    refine OP_congr fun ds S2 => ?_
    cases mtOp S2 m x ds <;> rfl
def mutP (d : D) : Option O := match d with
  | .lst xs => some (.lst xs)
  | .dic t ks vs => some (.dic t ks vs)
  | _ => none
@[simp] theorem mutP_lst (xs : List D) : mutP (.lst xs) = some (.lst xs) := rfl
@[simp] theorem mutP_dic (b : Bool) (ks vs : List D) : mutP (.dic b ks vs) = some (.dic b ks vs) := rfl
@[simp ↓] theorem W_mut (e : Exp) : W Φ (.mut e) ρ S Q X t = W Φ e ρ S (fun x S1 => optP (mutP x) (fun o => Q (.ref S1.length) (S1 ++ [o])) ⟨⟩) X ⟨⟩ := by
  simp only [W_def, ev, OP_bind]
  refine OP_congr fun x S1 => ?_
  try simp only [W_def]
  cases x <;> rfl
@[simp ↓] theorem WS_nil (Q : List D → Sto → Prop) (t : Tok2 Q X) : WS Φ [] ρ S Q X t = Q [] S := by simp only [WS_def, evs, OP_ok]
@[simp ↓] theorem WS_cons (e : Exp) (es : List Exp) (Q : List D → Sto → Prop) (t : Tok2 Q X) : WS Φ (e :: es) ρ S Q X t = W Φ e ρ S (fun d S1 => WS Φ es ρ S1 (fun ds S2 => Q (d :: ds) S2) X ⟨⟩) X ⟨⟩ := by
  simp only [WS_def, W_def, evs, OP_bind, OP_ok]
  repeat (refine OP_congr (fun x S1 => ?_); try simp only [WS_def, OP_bind, OP_opt, OP_ok])
@[simp ↓] theorem WO_none (Q : Option Int → Sto → Prop) (t : Tok2 Q X) : WO Φ none ρ S Q X t = Q none S := by simp only [WO_def, evo, OP_ok]
@[simp ↓] theorem WO_some (e : Exp) (Q : Option Int → Sto → Prop) (t : Tok2 Q X) : WO Φ (some e) ρ S Q X t = W Φ e ρ S (fun d S1 => optP ((intOf d).map some) (fun o => Q o S1) ⟨⟩) X ⟨⟩ := by
  simp only [WO_def, W_def, evo, OP_bind, OP_opt]
  repeat (refine OP_congr (fun x S1 => ?_); try simp only [OP_bind, OP_opt, OP_ok])
@[simp ↓] theorem WC_none (Q : Bool → Sto → Prop) (t : Tok2 Q X) : WC Φ none ρ S Q X t = Q true S := by simp only [WC_def, evc, OP_ok]
@[simp ↓] theorem WC_some (e : Exp) (Q : Bool → Sto → Prop) (t : Tok2 Q X) : WC Φ (some e) ρ S Q X t = W Φ e ρ S (fun d S1 => optP (truth S1 d) (fun o => Q o S1) ⟨⟩) X ⟨⟩ := by
  simp only [WC_def, W_def, evc, OP_bind, OP_opt]
  repeat (refine OP_congr (fun x S1 => ?_); try simp only [OP_bind, OP_opt, OP_ok])
@[simp ↓] theorem WI_it (e : Exp) (Q : Wk → Sto → Prop) (t : Tok2 Q X) : WI Φ (.it e) ρ S Q X t = W Φ e ρ S (fun d S1 => optP (walkOf S1 d) (fun o => Q o S1) ⟨⟩) X ⟨⟩ := by
  simp only [WI_def, W_def, evIt, OP_bind, OP_opt]
  repeat (refine OP_congr (fun x S1 => ?_); try simp only [W_def, OP_bind, OP_opt, OP_ok])
@[simp ↓] theorem WI_rng1 (e : Exp) (Q : Wk → Sto → Prop) (t : Tok2 Q X) : WI Φ (.rng1 e) ρ S Q X t = W Φ e ρ S (fun d S1 => optP ((intOf d).bind rngV) (fun o => Q o S1) ⟨⟩) X ⟨⟩ := by
  rw [show rngV = fun (j : Int) => if -1000000 < j ∧ j < big then some ⟨rangeI 0 j, none⟩ else none from funext rngV_def]
  simp only [WI_def, W_def, evIt, OP_bind, OP_opt]
  repeat (refine OP_congr (fun x S1 => ?_); try simp only [W_def, OP_bind, OP_opt, OP_ok])
@[simp ↓] theorem WI_rng2 (a b : Exp) (Q : Wk → Sto → Prop) (t : Tok2 Q X) : WI Φ (.rng2 a b) ρ S Q X t = W Φ a ρ S (fun x S1 => W Φ b ρ S1 (fun y S2 => optP ((intOf x).bind fun i => (intOf y).bind fun j => rngW i j) (fun o => Q o S2) ⟨⟩) X ⟨⟩) X ⟨⟩ := by
  rw [show rngW = fun (i j : Int) => if rgOk i j then some ⟨rangeI i j, none⟩ else none from funext fun i => funext fun j => rngW_def i j]
  simp only [WI_def, W_def, evIt, OP_bind, OP_opt]
  repeat (refine OP_congr (fun x S1 => ?_); try simp only [W_def, OP_bind, OP_opt, OP_ok])
@[simp ↓] theorem WI_enum (e : Exp) (Q : Wk → Sto → Prop) (t : Tok2 Q X) : WI Φ (.enum e) ρ S Q X t = W Φ e ρ S (fun d S1 => optP (walkEnum S1 d) (fun o => Q o S1) ⟨⟩) X ⟨⟩ := by
  simp only [WI_def, W_def, evIt, OP_bind, OP_opt]
  repeat (refine OP_congr (fun x S1 => ?_); try simp only [W_def, OP_bind, OP_opt, OP_ok])
@[simp ↓] theorem WI_zip (a b : Exp) (Q : Wk → Sto → Prop) (t : Tok2 Q X) : WI Φ (.zip a b) ρ S Q X t = W Φ a ρ S (fun x S1 => W Φ b ρ S1 (fun y S2 => optP (walkZip S2 x y) (fun o => Q o S2) ⟨⟩) X ⟨⟩) X ⟨⟩ := by
  simp only [WI_def, W_def, evIt, OP_bind, OP_opt]
  repeat (refine OP_congr (fun x S1 => ?_); try simp only [W_def, OP_bind, OP_opt, OP_ok])
abbrev exX (E : Ex) (ρ : Env) : Xd := fun c x S => E.ex c x ρ S
theorem XS_cons (s : Stm) (ss : List Stm) : XS Φ (s :: ss) ρ S E u = RP (exec Φ s ρ S) { E with nx := fun ρ S => XS Φ ss ρ S E ⟨⟩ } ⟨⟩ := by
  rw [XS_def, execs, RP_seq]
  cases exec Φ s ρ S <;> first | rfl | exact (XS_def ..).symm
@[simp ↓] theorem XS_nil : XS Φ [] ρ S E u = E.nx ρ S := by simp only [XS_def, execs]; rfl
@[simp ↓] theorem XS_pass (ss : List Stm) : XS Φ (.pass :: ss) ρ S E u = XS Φ ss ρ S E ⟨⟩ := by simp only [XS_cons, exec]; rfl
@[simp ↓] theorem XS_never (ss : List Stm) : XS Φ (.never :: ss) ρ S E u = False := by simp only [XS_cons, exec]; rfl
@[simp ↓] theorem XS_expr (e : Exp) (ss : List Stm) : XS Φ (.expr e :: ss) ρ S E u = W Φ e ρ S (fun _ S1 => XS Φ ss ρ S1 E ⟨⟩) (fun c x S => E.ex c x ρ S) ⟨⟩ := by
  simp only [XS_cons, W_def, WS_def, exec, RP_res] <;> rfl
theorem XS_asg (i : Nat) (e : Exp) (ss : List Stm) : XS Φ (.asg i e :: ss) ρ S E u = W Φ e ρ S (fun d S1 => XS Φ ss (ρ.set i (some d)) S1 E ⟨⟩) (fun c x S => E.ex c x ρ S) ⟨⟩ := by
  simp only [XS_cons, W_def, WS_def, exec, RP_res] <;> rfl
def putP (o : Option Env) (f : Env → Prop) (_ : Tok f) : Prop := match o with
  | some ρ => f ρ
  | none => False
@[simp ↓] theorem putP_some (ρ : Env) (f : Env → Prop) (t : Tok f) : putP (some ρ) f t = f ρ := by cases t; rfl
theorem XS_asgT (is : List Nat) (e : Exp) (ss : List Stm) : XS Φ (.asgT is e :: ss) ρ S E u = W Φ e ρ S (fun d S1 => putP ((Tgt.tp is).put d ρ) (fun ρ' => XS Φ ss ρ' S1 E ⟨⟩) ⟨⟩) (fun c x S => E.ex c x ρ S) ⟨⟩ := by
  simp only [XS_cons, W_def, exec_asgT, RP_res]
  refine OP_congr fun d S1 => ?_
  cases (Tgt.tp is).put d ρ <;> rfl
theorem XS_par (is : List Nat) (es : List Exp) (ss : List Stm) : XS Φ (.par is es :: ss) ρ S E u = WS Φ es ρ S (fun ds S1 => putP (setL is ds ρ) (fun ρ' => XS Φ ss ρ' S1 E ⟨⟩) ⟨⟩) (fun c x S => E.ex c x ρ S) ⟨⟩ := by
  simp only [XS_cons, WS_def, exec, RP_res]
  refine OP_congr fun d S1 => ?_
  cases setL is d ρ <;> rfl
theorem XS_asgSub (o kk e : Exp) (ss : List Stm) : XS Φ (.asgSub o kk e :: ss) ρ S E u = W Φ e ρ S (fun v S1 => W Φ o ρ S1 (fun x S2 => W Φ kk ρ S2 (fun y S3 => optP (putOp S3 x y v) (fun S4 => XS Φ ss ρ S4 E ⟨⟩) ⟨⟩) (fun c x S => E.ex c x ρ S) ⟨⟩) (fun c x S => E.ex c x ρ S) ⟨⟩) (fun c x S => E.ex c x ρ S) ⟨⟩ := by
  simp only [XS_cons, W_def, exec_asgSub, RP_res]
  refine OP_congr fun v S1 => ?_
  rw [RP_res, W_def]
  refine OP_congr fun x S2 => ?_
  rw [RP_res, W_def]
  refine OP_congr fun y S3 => ?_
  cases putOp S3 x y v <;> rfl
@[simp ↓] theorem XS_ret (e : Exp) (ss : List Stm) : XS Φ (.ret e :: ss) ρ S E u = W Φ e ρ S (fun d S1 => E.rt d S1) (fun c x S => E.ex c x ρ S) ⟨⟩ := by
  simp only [XS_cons, W_def, exec, RP_res]; rfl
@[simp ↓] theorem XS_retN (ss : List Stm) : XS Φ (.retN :: ss) ρ S E u = E.rt .non S := by simp only [XS_cons, exec]; rfl
@[simp ↓] theorem XS_brk (ss : List Stm) : XS Φ (.brk :: ss) ρ S E u = E.bk ρ S := by simp only [XS_cons, exec]; rfl
@[simp ↓] theorem XS_cnt (ss : List Stm) : XS Φ (.cnt :: ss) ρ S E u = E.ct ρ S := by simp only [XS_cons, exec]; rfl
@[simp ↓] theorem XS_raise0 (c : Nat) (ss : List Stm) : XS Φ (.raise c none :: ss) ρ S E u = E.ex c .non ρ S := by simp only [XS_cons, exec]; rfl
@[simp ↓] theorem XS_raise1 (c : Nat) (e : Exp) (ss : List Stm) : XS Φ (.raise c (some e) :: ss) ρ S E u = W Φ e ρ S (fun d S1 => E.ex c d ρ S1) (fun c x S => E.ex c x ρ S) ⟨⟩ := by
  simp only [XS_cons, W_def, exec, RP_res]; rfl
@[simp ↓] theorem XS_ite (c : Exp) (a b : List Stm) (ss : List Stm) : XS Φ (.ite c a b :: ss) ρ S E u = W Φ c ρ S (fun x S1 => brP (truth S1 x) (XS Φ a ρ S1 { E with nx := fun ρ S => XS Φ ss ρ S E ⟨⟩ } ⟨⟩) (XS Φ b ρ S1 { E with nx := fun ρ S => XS Φ ss ρ S E ⟨⟩ } ⟨⟩) ⟨⟩) (fun c x S => E.ex c x ρ S) ⟨⟩ := by
  rw [XS_cons, exec_ite, RP_res, W_def]
  refine OP_congr fun x S1 => ?_
  cases truth S1 x with
  | none => rfl
  | some b => cases b <;> exact (XS_def ..).symm
@[simp ↓] theorem XS_try (b : List Stm) (i : Nat) (cs : List Nat) (h : List Stm) (ss : List Stm) : XS Φ (.try b i cs h :: ss) ρ S E u = XS Φ b ρ S { E with nx := fun ρ S => XS Φ ss ρ S E ⟨⟩, ex := fun c x ρ' S' => x = .non ∧ c ∈ cs ∧ XS Φ h (ρ'.set i (some (.exc c .non))) S' ⟨fun _ _ => False, fun d S2 => S2 = S' ∧ d.nx = true ∧ E.rt d S', fun _ _ => False, fun _ _ => False, fun _ _ _ _ => False⟩ ⟨⟩ } ⟨⟩ := by
  rw [XS_cons, XS_def, exec]
  cases execs Φ b ρ S with
  | ex c x ρ' S' =>
    have key : RP (tryR cs i (.ex c x ρ' S') fun ρ S => execs Φ h ρ S) { E with nx := fun ρ S => XS Φ ss ρ S E ⟨⟩ } ⟨⟩ = (x = .non ∧ c ∈ cs ∧ XS Φ h (ρ'.set i (some (.exc c .non))) S' ⟨fun _ _ => False, fun d S2 => S2 = S' ∧ d.nx = true ∧ E.rt d S', fun _ _ => False, fun _ _ => False, fun _ _ _ _ => False⟩ ⟨⟩) := by
      cases x with
      | non =>
        by_cases hc : c ∈ cs
        · have e : tryR cs i (.ex c .non ρ' S') (fun ρ S => execs Φ h ρ S) = tryEnd S' (execs Φ h (ρ'.set i (some (.exc c .non))) S') := if_pos hc
          rw [e, XS_def]
          cases execs Φ h (ρ'.set i (some (.exc c .non))) S' with
          | rt d S2 =>
            unfold tryEnd
            by_cases hz : S2 = S' ∧ d.nx = true
            · simp only [hz]
              simp [hc, RP, hz.2]
            · simp only [hz, if_false]
              simp only [RP, hc, true_and]
              exact propext ⟨False.elim, fun q => hz ⟨q.1, q.2.1⟩⟩
          | _ => simp [tryEnd, RP, hc]
        · have e : tryR cs i (.ex c .non ρ' S') (fun ρ S => execs Φ h ρ S) = .stuck := if_neg hc
          rw [e]
          simp [RP, hc]
      | _ => simp [tryR, RP]
    exact key
  | _ => rfl
end

@[simp ↓] theorem XS_a0 (Φ : Fn) (ρ : Env) (S : Sto) (E : Ex) (u : Tok E) (o0 : Option D) (e : Exp) (ss : List Stm) : XS Φ (.asg 0 e :: ss) (o0 :: ρ) S E u = W Φ e (o0 :: ρ) S (fun d S1 => XS Φ ss (some d :: ρ) S1 E ⟨⟩) (fun c x S => E.ex c x (o0 :: ρ) S) ⟨⟩ := XS_asg Φ _ S E u 0 e ss
@[simp ↓] theorem XS_a1 (Φ : Fn) (ρ : Env) (S : Sto) (E : Ex) (u : Tok E) (o0 o1 : Option D) (e : Exp) (ss : List Stm) : XS Φ (.asg 1 e :: ss) (o0 :: o1 :: ρ) S E u = W Φ e (o0 :: o1 :: ρ) S (fun d S1 => XS Φ ss (o0 :: some d :: ρ) S1 E ⟨⟩) (fun c x S => E.ex c x (o0 :: o1 :: ρ) S) ⟨⟩ := XS_asg Φ _ S E u 1 e ss
@[simp ↓] theorem XS_a2 (Φ : Fn) (ρ : Env) (S : Sto) (E : Ex) (u : Tok E) (o0 o1 o2 : Option D) (e : Exp) (ss : List Stm) : XS Φ (.asg 2 e :: ss) (o0 :: o1 :: o2 :: ρ) S E u = W Φ e (o0 :: o1 :: o2 :: ρ) S (fun d S1 => XS Φ ss (o0 :: o1 :: some d :: ρ) S1 E ⟨⟩) (fun c x S => E.ex c x (o0 :: o1 :: o2 :: ρ) S) ⟨⟩ := XS_asg Φ _ S E u 2 e ss
@[simp ↓] theorem XS_a3 (Φ : Fn) (ρ : Env) (S : Sto) (E : Ex) (u : Tok E) (o0 o1 o2 o3 : Option D) (e : Exp) (ss : List Stm) : XS Φ (.asg 3 e :: ss) (o0 :: o1 :: o2 :: o3 :: ρ) S E u = W Φ e (o0 :: o1 :: o2 :: o3 :: ρ) S (fun d S1 => XS Φ ss (o0 :: o1 :: o2 :: some d :: ρ) S1 E ⟨⟩) (fun c x S => E.ex c x (o0 :: o1 :: o2 :: o3 :: ρ) S) ⟨⟩ := XS_asg Φ _ S E u 3 e ss
@[simp ↓] theorem XS_a4 (Φ : Fn) (ρ : Env) (S : Sto) (E : Ex) (u : Tok E) (o0 o1 o2 o3 o4 : Option D) (e : Exp) (ss : List Stm) : XS Φ (.asg 4 e :: ss) (o0 :: o1 :: o2 :: o3 :: o4 :: ρ) S E u = W Φ e (o0 :: o1 :: o2 :: o3 :: o4 :: ρ) S (fun d S1 => XS Φ ss (o0 :: o1 :: o2 :: o3 :: some d :: ρ) S1 E ⟨⟩) (fun c x S => E.ex c x (o0 :: o1 :: o2 :: o3 :: o4 :: ρ) S) ⟨⟩ := XS_asg Φ _ S E u 4 e ss
@[simp ↓] theorem XS_a5 (Φ : Fn) (ρ : Env) (S : Sto) (E : Ex) (u : Tok E) (o0 o1 o2 o3 o4 o5 : Option D) (e : Exp) (ss : List Stm) : XS Φ (.asg 5 e :: ss) (o0 :: o1 :: o2 :: o3 :: o4 :: o5 :: ρ) S E u = W Φ e (o0 :: o1 :: o2 :: o3 :: o4 :: o5 :: ρ) S (fun d S1 => XS Φ ss (o0 :: o1 :: o2 :: o3 :: o4 :: some d :: ρ) S1 E ⟨⟩) (fun c x S => E.ex c x (o0 :: o1 :: o2 :: o3 :: o4 :: o5 :: ρ) S) ⟨⟩ := XS_asg Φ _ S E u 5 e ss
@[simp ↓] theorem XS_a6 (Φ : Fn) (ρ : Env) (S : Sto) (E : Ex) (u : Tok E) (o0 o1 o2 o3 o4 o5 o6 : Option D) (e : Exp) (ss : List Stm) : XS Φ (.asg 6 e :: ss) (o0 :: o1 :: o2 :: o3 :: o4 :: o5 :: o6 :: ρ) S E u = W Φ e (o0 :: o1 :: o2 :: o3 :: o4 :: o5 :: o6 :: ρ) S (fun d S1 => XS Φ ss (o0 :: o1 :: o2 :: o3 :: o4 :: o5 :: some d :: ρ) S1 E ⟨⟩) (fun c x S => E.ex c x (o0 :: o1 :: o2 :: o3 :: o4 :: o5 :: o6 :: ρ) S) ⟨⟩ := XS_asg Φ _ S E u 6 e ss
@[simp ↓] theorem XS_a7 (Φ : Fn) (ρ : Env) (S : Sto) (E : Ex) (u : Tok E) (o0 o1 o2 o3 o4 o5 o6 o7 : Option D) (e : Exp) (ss : List Stm) : XS Φ (.asg 7 e :: ss) (o0 :: o1 :: o2 :: o3 :: o4 :: o5 :: o6 :: o7 :: ρ) S E u = W Φ e (o0 :: o1 :: o2 :: o3 :: o4 :: o5 :: o6 :: o7 :: ρ) S (fun d S1 => XS Φ ss (o0 :: o1 :: o2 :: o3 :: o4 :: o5 :: o6 :: some d :: ρ) S1 E ⟨⟩) (fun c x S => E.ex c x (o0 :: o1 :: o2 :: o3 :: o4 :: o5 :: o6 :: o7 :: ρ) S) ⟨⟩ := XS_asg Φ _ S E u 7 e ss
@[simp ↓] theorem XS_a8 (Φ : Fn) (ρ : Env) (S : Sto) (E : Ex) (u : Tok E) (o0 o1 o2 o3 o4 o5 o6 o7 o8 : Option D) (e : Exp) (ss : List Stm) : XS Φ (.asg 8 e :: ss) (o0 :: o1 :: o2 :: o3 :: o4 :: o5 :: o6 :: o7 :: o8 :: ρ) S E u = W Φ e (o0 :: o1 :: o2 :: o3 :: o4 :: o5 :: o6 :: o7 :: o8 :: ρ) S (fun d S1 => XS Φ ss (o0 :: o1 :: o2 :: o3 :: o4 :: o5 :: o6 :: o7 :: some d :: ρ) S1 E ⟨⟩) (fun c x S => E.ex c x (o0 :: o1 :: o2 :: o3 :: o4 :: o5 :: o6 :: o7 :: o8 :: ρ) S) ⟨⟩ := XS_asg Φ _ S E u 8 e ss
@[simp ↓] theorem XS_a9 (Φ : Fn) (ρ : Env) (S : Sto) (E : Ex) (u : Tok E) (o0 o1 o2 o3 o4 o5 o6 o7 o8 o9 : Option D) (e : Exp) (ss : List Stm) : XS Φ (.asg 9 e :: ss) (o0 :: o1 :: o2 :: o3 :: o4 :: o5 :: o6 :: o7 :: o8 :: o9 :: ρ) S E u = W Φ e (o0 :: o1 :: o2 :: o3 :: o4 :: o5 :: o6 :: o7 :: o8 :: o9 :: ρ) S (fun d S1 => XS Φ ss (o0 :: o1 :: o2 :: o3 :: o4 :: o5 :: o6 :: o7 :: o8 :: some d :: ρ) S1 E ⟨⟩) (fun c x S => E.ex c x (o0 :: o1 :: o2 :: o3 :: o4 :: o5 :: o6 :: o7 :: o8 :: o9 :: ρ) S) ⟨⟩ := XS_asg Φ _ S E u 9 e ss
@[simp ↓] theorem XS_a10 (Φ : Fn) (ρ : Env) (S : Sto) (E : Ex) (u : Tok E) (o0 o1 o2 o3 o4 o5 o6 o7 o8 o9 o10 : Option D) (e : Exp) (ss : List Stm) : XS Φ (.asg 10 e :: ss) (o0 :: o1 :: o2 :: o3 :: o4 :: o5 :: o6 :: o7 :: o8 :: o9 :: o10 :: ρ) S E u = W Φ e (o0 :: o1 :: o2 :: o3 :: o4 :: o5 :: o6 :: o7 :: o8 :: o9 :: o10 :: ρ) S (fun d S1 => XS Φ ss (o0 :: o1 :: o2 :: o3 :: o4 :: o5 :: o6 :: o7 :: o8 :: o9 :: some d :: ρ) S1 E ⟨⟩) (fun c x S => E.ex c x (o0 :: o1 :: o2 :: o3 :: o4 :: o5 :: o6 :: o7 :: o8 :: o9 :: o10 :: ρ) S) ⟨⟩ := XS_asg Φ _ S E u 10 e ss
@[simp ↓] theorem XS_a11 (Φ : Fn) (ρ : Env) (S : Sto) (E : Ex) (u : Tok E) (o0 o1 o2 o3 o4 o5 o6 o7 o8 o9 o10 o11 : Option D) (e : Exp) (ss : List Stm) : XS Φ (.asg 11 e :: ss) (o0 :: o1 :: o2 :: o3 :: o4 :: o5 :: o6 :: o7 :: o8 :: o9 :: o10 :: o11 :: ρ) S E u = W Φ e (o0 :: o1 :: o2 :: o3 :: o4 :: o5 :: o6 :: o7 :: o8 :: o9 :: o10 :: o11 :: ρ) S (fun d S1 => XS Φ ss (o0 :: o1 :: o2 :: o3 :: o4 :: o5 :: o6 :: o7 :: o8 :: o9 :: o10 :: some d :: ρ) S1 E ⟨⟩) (fun c x S => E.ex c x (o0 :: o1 :: o2 :: o3 :: o4 :: o5 :: o6 :: o7 :: o8 :: o9 :: o10 :: o11 :: ρ) S) ⟨⟩ := XS_asg Φ _ S E u 11 e ss
@[simp ↓] theorem XS_a12 (Φ : Fn) (ρ : Env) (S : Sto) (E : Ex) (u : Tok E) (o0 o1 o2 o3 o4 o5 o6 o7 o8 o9 o10 o11 o12 : Option D) (e : Exp) (ss : List Stm) : XS Φ (.asg 12 e :: ss) (o0 :: o1 :: o2 :: o3 :: o4 :: o5 :: o6 :: o7 :: o8 :: o9 :: o10 :: o11 :: o12 :: ρ) S E u = W Φ e (o0 :: o1 :: o2 :: o3 :: o4 :: o5 :: o6 :: o7 :: o8 :: o9 :: o10 :: o11 :: o12 :: ρ) S (fun d S1 => XS Φ ss (o0 :: o1 :: o2 :: o3 :: o4 :: o5 :: o6 :: o7 :: o8 :: o9 :: o10 :: o11 :: some d :: ρ) S1 E ⟨⟩) (fun c x S => E.ex c x (o0 :: o1 :: o2 :: o3 :: o4 :: o5 :: o6 :: o7 :: o8 :: o9 :: o10 :: o11 :: o12 :: ρ) S) ⟨⟩ := XS_asg Φ _ S E u 12 e ss
@[simp ↓] theorem XS_a13 (Φ : Fn) (ρ : Env) (S : Sto) (E : Ex) (u : Tok E) (o0 o1 o2 o3 o4 o5 o6 o7 o8 o9 o10 o11 o12 o13 : Option D) (e : Exp) (ss : List Stm) : XS Φ (.asg 13 e :: ss) (o0 :: o1 :: o2 :: o3 :: o4 :: o5 :: o6 :: o7 :: o8 :: o9 :: o10 :: o11 :: o12 :: o13 :: ρ) S E u = W Φ e (o0 :: o1 :: o2 :: o3 :: o4 :: o5 :: o6 :: o7 :: o8 :: o9 :: o10 :: o11 :: o12 :: o13 :: ρ) S (fun d S1 => XS Φ ss (o0 :: o1 :: o2 :: o3 :: o4 :: o5 :: o6 :: o7 :: o8 :: o9 :: o10 :: o11 :: o12 :: some d :: ρ) S1 E ⟨⟩) (fun c x S => E.ex c x (o0 :: o1 :: o2 :: o3 :: o4 :: o5 :: o6 :: o7 :: o8 :: o9 :: o10 :: o11 :: o12 :: o13 :: ρ) S) ⟨⟩ := XS_asg Φ _ S E u 13 e ss
@[simp ↓] theorem XS_a14 (Φ : Fn) (ρ : Env) (S : Sto) (E : Ex) (u : Tok E) (o0 o1 o2 o3 o4 o5 o6 o7 o8 o9 o10 o11 o12 o13 o14 : Option D) (e : Exp) (ss : List Stm) : XS Φ (.asg 14 e :: ss) (o0 :: o1 :: o2 :: o3 :: o4 :: o5 :: o6 :: o7 :: o8 :: o9 :: o10 :: o11 :: o12 :: o13 :: o14 :: ρ) S E u = W Φ e (o0 :: o1 :: o2 :: o3 :: o4 :: o5 :: o6 :: o7 :: o8 :: o9 :: o10 :: o11 :: o12 :: o13 :: o14 :: ρ) S (fun d S1 => XS Φ ss (o0 :: o1 :: o2 :: o3 :: o4 :: o5 :: o6 :: o7 :: o8 :: o9 :: o10 :: o11 :: o12 :: o13 :: some d :: ρ) S1 E ⟨⟩) (fun c x S => E.ex c x (o0 :: o1 :: o2 :: o3 :: o4 :: o5 :: o6 :: o7 :: o8 :: o9 :: o10 :: o11 :: o12 :: o13 :: o14 :: ρ) S) ⟨⟩ := XS_asg Φ _ S E u 14 e ss
@[simp ↓] theorem XS_a15 (Φ : Fn) (ρ : Env) (S : Sto) (E : Ex) (u : Tok E) (o0 o1 o2 o3 o4 o5 o6 o7 o8 o9 o10 o11 o12 o13 o14 o15 : Option D) (e : Exp) (ss : List Stm) : XS Φ (.asg 15 e :: ss) (o0 :: o1 :: o2 :: o3 :: o4 :: o5 :: o6 :: o7 :: o8 :: o9 :: o10 :: o11 :: o12 :: o13 :: o14 :: o15 :: ρ) S E u = W Φ e (o0 :: o1 :: o2 :: o3 :: o4 :: o5 :: o6 :: o7 :: o8 :: o9 :: o10 :: o11 :: o12 :: o13 :: o14 :: o15 :: ρ) S (fun d S1 => XS Φ ss (o0 :: o1 :: o2 :: o3 :: o4 :: o5 :: o6 :: o7 :: o8 :: o9 :: o10 :: o11 :: o12 :: o13 :: o14 :: some d :: ρ) S1 E ⟨⟩) (fun c x S => E.ex c x (o0 :: o1 :: o2 :: o3 :: o4 :: o5 :: o6 :: o7 :: o8 :: o9 :: o10 :: o11 :: o12 :: o13 :: o14 :: o15 :: ρ) S) ⟨⟩ := XS_asg Φ _ S E u 15 e ss
@[simp ↓] theorem XS_a16 (Φ : Fn) (ρ : Env) (S : Sto) (E : Ex) (u : Tok E) (o0 o1 o2 o3 o4 o5 o6 o7 o8 o9 o10 o11 o12 o13 o14 o15 o16 : Option D) (e : Exp) (ss : List Stm) : XS Φ (.asg 16 e :: ss) (o0 :: o1 :: o2 :: o3 :: o4 :: o5 :: o6 :: o7 :: o8 :: o9 :: o10 :: o11 :: o12 :: o13 :: o14 :: o15 :: o16 :: ρ) S E u = W Φ e (o0 :: o1 :: o2 :: o3 :: o4 :: o5 :: o6 :: o7 :: o8 :: o9 :: o10 :: o11 :: o12 :: o13 :: o14 :: o15 :: o16 :: ρ) S (fun d S1 => XS Φ ss (o0 :: o1 :: o2 :: o3 :: o4 :: o5 :: o6 :: o7 :: o8 :: o9 :: o10 :: o11 :: o12 :: o13 :: o14 :: o15 :: some d :: ρ) S1 E ⟨⟩) (fun c x S => E.ex c x (o0 :: o1 :: o2 :: o3 :: o4 :: o5 :: o6 :: o7 :: o8 :: o9 :: o10 :: o11 :: o12 :: o13 :: o14 :: o15 :: o16 :: ρ) S) ⟨⟩ := XS_asg Φ _ S E u 16 e ss
@[simp ↓] theorem XS_a17 (Φ : Fn) (ρ : Env) (S : Sto) (E : Ex) (u : Tok E) (o0 o1 o2 o3 o4 o5 o6 o7 o8 o9 o10 o11 o12 o13 o14 o15 o16 o17 : Option D) (e : Exp) (ss : List Stm) : XS Φ (.asg 17 e :: ss) (o0 :: o1 :: o2 :: o3 :: o4 :: o5 :: o6 :: o7 :: o8 :: o9 :: o10 :: o11 :: o12 :: o13 :: o14 :: o15 :: o16 :: o17 :: ρ) S E u = W Φ e (o0 :: o1 :: o2 :: o3 :: o4 :: o5 :: o6 :: o7 :: o8 :: o9 :: o10 :: o11 :: o12 :: o13 :: o14 :: o15 :: o16 :: o17 :: ρ) S (fun d S1 => XS Φ ss (o0 :: o1 :: o2 :: o3 :: o4 :: o5 :: o6 :: o7 :: o8 :: o9 :: o10 :: o11 :: o12 :: o13 :: o14 :: o15 :: o16 :: some d :: ρ) S1 E ⟨⟩) (fun c x S => E.ex c x (o0 :: o1 :: o2 :: o3 :: o4 :: o5 :: o6 :: o7 :: o8 :: o9 :: o10 :: o11 :: o12 :: o13 :: o14 :: o15 :: o16 :: o17 :: ρ) S) ⟨⟩ := XS_asg Φ _ S E u 17 e ss
@[simp ↓] theorem XS_a18 (Φ : Fn) (ρ : Env) (S : Sto) (E : Ex) (u : Tok E) (o0 o1 o2 o3 o4 o5 o6 o7 o8 o9 o10 o11 o12 o13 o14 o15 o16 o17 o18 : Option D) (e : Exp) (ss : List Stm) : XS Φ (.asg 18 e :: ss) (o0 :: o1 :: o2 :: o3 :: o4 :: o5 :: o6 :: o7 :: o8 :: o9 :: o10 :: o11 :: o12 :: o13 :: o14 :: o15 :: o16 :: o17 :: o18 :: ρ) S E u = W Φ e (o0 :: o1 :: o2 :: o3 :: o4 :: o5 :: o6 :: o7 :: o8 :: o9 :: o10 :: o11 :: o12 :: o13 :: o14 :: o15 :: o16 :: o17 :: o18 :: ρ) S (fun d S1 => XS Φ ss (o0 :: o1 :: o2 :: o3 :: o4 :: o5 :: o6 :: o7 :: o8 :: o9 :: o10 :: o11 :: o12 :: o13 :: o14 :: o15 :: o16 :: o17 :: some d :: ρ) S1 E ⟨⟩) (fun c x S => E.ex c x (o0 :: o1 :: o2 :: o3 :: o4 :: o5 :: o6 :: o7 :: o8 :: o9 :: o10 :: o11 :: o12 :: o13 :: o14 :: o15 :: o16 :: o17 :: o18 :: ρ) S) ⟨⟩ := XS_asg Φ _ S E u 18 e ss
@[simp ↓] theorem XS_a19 (Φ : Fn) (ρ : Env) (S : Sto) (E : Ex) (u : Tok E) (o0 o1 o2 o3 o4 o5 o6 o7 o8 o9 o10 o11 o12 o13 o14 o15 o16 o17 o18 o19 : Option D) (e : Exp) (ss : List Stm) : XS Φ (.asg 19 e :: ss) (o0 :: o1 :: o2 :: o3 :: o4 :: o5 :: o6 :: o7 :: o8 :: o9 :: o10 :: o11 :: o12 :: o13 :: o14 :: o15 :: o16 :: o17 :: o18 :: o19 :: ρ) S E u = W Φ e (o0 :: o1 :: o2 :: o3 :: o4 :: o5 :: o6 :: o7 :: o8 :: o9 :: o10 :: o11 :: o12 :: o13 :: o14 :: o15 :: o16 :: o17 :: o18 :: o19 :: ρ) S (fun d S1 => XS Φ ss (o0 :: o1 :: o2 :: o3 :: o4 :: o5 :: o6 :: o7 :: o8 :: o9 :: o10 :: o11 :: o12 :: o13 :: o14 :: o15 :: o16 :: o17 :: o18 :: some d :: ρ) S1 E ⟨⟩) (fun c x S => E.ex c x (o0 :: o1 :: o2 :: o3 :: o4 :: o5 :: o6 :: o7 :: o8 :: o9 :: o10 :: o11 :: o12 :: o13 :: o14 :: o15 :: o16 :: o17 :: o18 :: o19 :: ρ) S) ⟨⟩ := XS_asg Φ _ S E u 19 e ss
@[simp ↓] theorem XS_a20 (Φ : Fn) (ρ : Env) (S : Sto) (E : Ex) (u : Tok E) (o0 o1 o2 o3 o4 o5 o6 o7 o8 o9 o10 o11 o12 o13 o14 o15 o16 o17 o18 o19 o20 : Option D) (e : Exp) (ss : List Stm) : XS Φ (.asg 20 e :: ss) (o0 :: o1 :: o2 :: o3 :: o4 :: o5 :: o6 :: o7 :: o8 :: o9 :: o10 :: o11 :: o12 :: o13 :: o14 :: o15 :: o16 :: o17 :: o18 :: o19 :: o20 :: ρ) S E u = W Φ e (o0 :: o1 :: o2 :: o3 :: o4 :: o5 :: o6 :: o7 :: o8 :: o9 :: o10 :: o11 :: o12 :: o13 :: o14 :: o15 :: o16 :: o17 :: o18 :: o19 :: o20 :: ρ) S (fun d S1 => XS Φ ss (o0 :: o1 :: o2 :: o3 :: o4 :: o5 :: o6 :: o7 :: o8 :: o9 :: o10 :: o11 :: o12 :: o13 :: o14 :: o15 :: o16 :: o17 :: o18 :: o19 :: some d :: ρ) S1 E ⟨⟩) (fun c x S => E.ex c x (o0 :: o1 :: o2 :: o3 :: o4 :: o5 :: o6 :: o7 :: o8 :: o9 :: o10 :: o11 :: o12 :: o13 :: o14 :: o15 :: o16 :: o17 :: o18 :: o19 :: o20 :: ρ) S) ⟨⟩ := XS_asg Φ _ S E u 20 e ss
@[simp ↓] theorem XS_a21 (Φ : Fn) (ρ : Env) (S : Sto) (E : Ex) (u : Tok E) (o0 o1 o2 o3 o4 o5 o6 o7 o8 o9 o10 o11 o12 o13 o14 o15 o16 o17 o18 o19 o20 o21 : Option D) (e : Exp) (ss : List Stm) : XS Φ (.asg 21 e :: ss) (o0 :: o1 :: o2 :: o3 :: o4 :: o5 :: o6 :: o7 :: o8 :: o9 :: o10 :: o11 :: o12 :: o13 :: o14 :: o15 :: o16 :: o17 :: o18 :: o19 :: o20 :: o21 :: ρ) S E u = W Φ e (o0 :: o1 :: o2 :: o3 :: o4 :: o5 :: o6 :: o7 :: o8 :: o9 :: o10 :: o11 :: o12 :: o13 :: o14 :: o15 :: o16 :: o17 :: o18 :: o19 :: o20 :: o21 :: ρ) S (fun d S1 => XS Φ ss (o0 :: o1 :: o2 :: o3 :: o4 :: o5 :: o6 :: o7 :: o8 :: o9 :: o10 :: o11 :: o12 :: o13 :: o14 :: o15 :: o16 :: o17 :: o18 :: o19 :: o20 :: some d :: ρ) S1 E ⟨⟩) (fun c x S => E.ex c x (o0 :: o1 :: o2 :: o3 :: o4 :: o5 :: o6 :: o7 :: o8 :: o9 :: o10 :: o11 :: o12 :: o13 :: o14 :: o15 :: o16 :: o17 :: o18 :: o19 :: o20 :: o21 :: ρ) S) ⟨⟩ := XS_asg Φ _ S E u 21 e ss
@[simp ↓] theorem XS_a22 (Φ : Fn) (ρ : Env) (S : Sto) (E : Ex) (u : Tok E) (o0 o1 o2 o3 o4 o5 o6 o7 o8 o9 o10 o11 o12 o13 o14 o15 o16 o17 o18 o19 o20 o21 o22 : Option D) (e : Exp) (ss : List Stm) : XS Φ (.asg 22 e :: ss) (o0 :: o1 :: o2 :: o3 :: o4 :: o5 :: o6 :: o7 :: o8 :: o9 :: o10 :: o11 :: o12 :: o13 :: o14 :: o15 :: o16 :: o17 :: o18 :: o19 :: o20 :: o21 :: o22 :: ρ) S E u = W Φ e (o0 :: o1 :: o2 :: o3 :: o4 :: o5 :: o6 :: o7 :: o8 :: o9 :: o10 :: o11 :: o12 :: o13 :: o14 :: o15 :: o16 :: o17 :: o18 :: o19 :: o20 :: o21 :: o22 :: ρ) S (fun d S1 => XS Φ ss (o0 :: o1 :: o2 :: o3 :: o4 :: o5 :: o6 :: o7 :: o8 :: o9 :: o10 :: o11 :: o12 :: o13 :: o14 :: o15 :: o16 :: o17 :: o18 :: o19 :: o20 :: o21 :: some d :: ρ) S1 E ⟨⟩) (fun c x S => E.ex c x (o0 :: o1 :: o2 :: o3 :: o4 :: o5 :: o6 :: o7 :: o8 :: o9 :: o10 :: o11 :: o12 :: o13 :: o14 :: o15 :: o16 :: o17 :: o18 :: o19 :: o20 :: o21 :: o22 :: ρ) S) ⟨⟩ := XS_asg Φ _ S E u 22 e ss
@[simp ↓] theorem XS_a23 (Φ : Fn) (ρ : Env) (S : Sto) (E : Ex) (u : Tok E) (o0 o1 o2 o3 o4 o5 o6 o7 o8 o9 o10 o11 o12 o13 o14 o15 o16 o17 o18 o19 o20 o21 o22 o23 : Option D) (e : Exp) (ss : List Stm) : XS Φ (.asg 23 e :: ss) (o0 :: o1 :: o2 :: o3 :: o4 :: o5 :: o6 :: o7 :: o8 :: o9 :: o10 :: o11 :: o12 :: o13 :: o14 :: o15 :: o16 :: o17 :: o18 :: o19 :: o20 :: o21 :: o22 :: o23 :: ρ) S E u = W Φ e (o0 :: o1 :: o2 :: o3 :: o4 :: o5 :: o6 :: o7 :: o8 :: o9 :: o10 :: o11 :: o12 :: o13 :: o14 :: o15 :: o16 :: o17 :: o18 :: o19 :: o20 :: o21 :: o22 :: o23 :: ρ) S (fun d S1 => XS Φ ss (o0 :: o1 :: o2 :: o3 :: o4 :: o5 :: o6 :: o7 :: o8 :: o9 :: o10 :: o11 :: o12 :: o13 :: o14 :: o15 :: o16 :: o17 :: o18 :: o19 :: o20 :: o21 :: o22 :: some d :: ρ) S1 E ⟨⟩) (fun c x S => E.ex c x (o0 :: o1 :: o2 :: o3 :: o4 :: o5 :: o6 :: o7 :: o8 :: o9 :: o10 :: o11 :: o12 :: o13 :: o14 :: o15 :: o16 :: o17 :: o18 :: o19 :: o20 :: o21 :: o22 :: o23 :: ρ) S) ⟨⟩ := XS_asg Φ _ S E u 23 e ss
@[simp ↓] theorem XS_a24 (Φ : Fn) (ρ : Env) (S : Sto) (E : Ex) (u : Tok E) (o0 o1 o2 o3 o4 o5 o6 o7 o8 o9 o10 o11 o12 o13 o14 o15 o16 o17 o18 o19 o20 o21 o22 o23 o24 : Option D) (e : Exp) (ss : List Stm) : XS Φ (.asg 24 e :: ss) (o0 :: o1 :: o2 :: o3 :: o4 :: o5 :: o6 :: o7 :: o8 :: o9 :: o10 :: o11 :: o12 :: o13 :: o14 :: o15 :: o16 :: o17 :: o18 :: o19 :: o20 :: o21 :: o22 :: o23 :: o24 :: ρ) S E u = W Φ e (o0 :: o1 :: o2 :: o3 :: o4 :: o5 :: o6 :: o7 :: o8 :: o9 :: o10 :: o11 :: o12 :: o13 :: o14 :: o15 :: o16 :: o17 :: o18 :: o19 :: o20 :: o21 :: o22 :: o23 :: o24 :: ρ) S (fun d S1 => XS Φ ss (o0 :: o1 :: o2 :: o3 :: o4 :: o5 :: o6 :: o7 :: o8 :: o9 :: o10 :: o11 :: o12 :: o13 :: o14 :: o15 :: o16 :: o17 :: o18 :: o19 :: o20 :: o21 :: o22 :: o23 :: some d :: ρ) S1 E ⟨⟩) (fun c x S => E.ex c x (o0 :: o1 :: o2 :: o3 :: o4 :: o5 :: o6 :: o7 :: o8 :: o9 :: o10 :: o11 :: o12 :: o13 :: o14 :: o15 :: o16 :: o17 :: o18 :: o19 :: o20 :: o21 :: o22 :: o23 :: o24 :: ρ) S) ⟨⟩ := XS_asg Φ _ S E u 24 e ss
@[simp ↓] theorem XS_a25 (Φ : Fn) (ρ : Env) (S : Sto) (E : Ex) (u : Tok E) (o0 o1 o2 o3 o4 o5 o6 o7 o8 o9 o10 o11 o12 o13 o14 o15 o16 o17 o18 o19 o20 o21 o22 o23 o24 o25 : Option D) (e : Exp) (ss : List Stm) : XS Φ (.asg 25 e :: ss) (o0 :: o1 :: o2 :: o3 :: o4 :: o5 :: o6 :: o7 :: o8 :: o9 :: o10 :: o11 :: o12 :: o13 :: o14 :: o15 :: o16 :: o17 :: o18 :: o19 :: o20 :: o21 :: o22 :: o23 :: o24 :: o25 :: ρ) S E u = W Φ e (o0 :: o1 :: o2 :: o3 :: o4 :: o5 :: o6 :: o7 :: o8 :: o9 :: o10 :: o11 :: o12 :: o13 :: o14 :: o15 :: o16 :: o17 :: o18 :: o19 :: o20 :: o21 :: o22 :: o23 :: o24 :: o25 :: ρ) S (fun d S1 => XS Φ ss (o0 :: o1 :: o2 :: o3 :: o4 :: o5 :: o6 :: o7 :: o8 :: o9 :: o10 :: o11 :: o12 :: o13 :: o14 :: o15 :: o16 :: o17 :: o18 :: o19 :: o20 :: o21 :: o22 :: o23 :: o24 :: some d :: ρ) S1 E ⟨⟩) (fun c x S => E.ex c x (o0 :: o1 :: o2 :: o3 :: o4 :: o5 :: o6 :: o7 :: o8 :: o9 :: o10 :: o11 :: o12 :: o13 :: o14 :: o15 :: o16 :: o17 :: o18 :: o19 :: o20 :: o21 :: o22 :: o23 :: o24 :: o25 :: ρ) S) ⟨⟩ := XS_asg Φ _ S E u 25 e ss
end Pf
end

section 
set_option Elab.async false
set_option linter.all false
set_option maxHeartbeats 4000000
set_option maxRecDepth 100000
/-! PiA: steps by wishes; drawing (_law_take, _law_box), whatever the program's numbers are. -/
namespace Pf
def dTake : Def := ⟨2, 4, false, [(.asgT [2, 3] (.bi .divmod [(.idx (.var 0) (.cst (.int 0))), (.var 1)])), (.asgSub (.var 0) (.cst (.int 0)) (.var 2)), (.ret (.var 3))]⟩
def dBox : Def := ⟨2, 6, true, [(.asg 2 (.bin .add (.bin .mul (.cst (.int 7919)) (.var 1)) (.cst (.int 13)))), (.ite (.cmp .lt (.var 1) (.bi .len [(.var 0)])) [(.asg 2 (.idx (.var 0) (.var 1)))] []), (.ite (.cmp .eq (.bin .mod (.var 2) (.cst (.int 2))) (.cst (.int 0))) [(.ret (.mut (.lst [(.bin .fdiv (.var 2) (.cst (.int 2)))])))] []), (.asg 3 (.cst (.int 0))), (.for (.nm 4) (.rng1 (.cst (.int 16))) [(.asg 5 (.bin .mod (.bin .add (.bin .add (.bin .mul (.bin .mod (.var 2) (.cst (.int 2147483647))) (.cst (.int 48271))) (.bin .mul (.cst (.int 7919)) (.var 4))) (.cst (.int 1))) (.cst (.int 2147483647)))), (.asg 5 (.bin .mod (.bin .mul (.var 5) (.var 5)) (.cst (.int 2147483629)))), (.asg 3 (.bin .add (.bin .mul (.var 3) (.cst (.int 2147483647))) (.bin .mod (.bin .mul (.var 5) (.bin .add (.var 5) (.cst (.int 13)))) (.cst (.int 2147483647)))))]), (.ret (.mut (.lst [(.var 3)])))]⟩
theorem in_pair (S : Sto) (a b c : Int) : cmpOp S .isin (.int a) (.tup [.int b, .int c]) = some (decide (a = b ∨ a = c)) := by
  simp [cmpOp, inOp, res, D.plain, D.eqv]
  rw [Bool.eq_iff_iff]
  simp
  constructor
  · rintro (h | h) <;> simp [h]
  · rintro (h | h) <;> simp [h]
section
variable {Φ : Nat → List D → Sto → Out D} {ρ : Env} {S S1 : Sto} {E : En}
theorem sat_asg {i : Nat} {e : Exp} {d : D} (h : ev Φ e ρ S = .ok d S1) (q : E.nx (ρ.set i (some d)) S1) : (exec Φ (.asg i e) ρ S).sat E := by
  simp only [exec, h, Out.res_ok, Res.sat_nx]; exact q
theorem sat_expr {e : Exp} {d : D} (h : ev Φ e ρ S = .ok d S1) (q : E.nx ρ S1) : (exec Φ (.expr e) ρ S).sat E := by
  simp only [exec, h, Out.res_ok, Res.sat_nx]; exact q
theorem sat_ret {e : Exp} {d : D} (h : ev Φ e ρ S = .ok d S1) (q : E.rt d S1) : (exec Φ (.ret e) ρ S).sat E := by
  simp only [exec, h, Out.res_ok, Res.sat_rt]; exact q
theorem sat_iteB {c : Exp} {a b : List Stm} {t : Bool} (h : ev Φ c ρ S = .ok (.bl t) S1) (q1 : t = true → (execs Φ a ρ S1).sat E) (q2 : t = false → (execs Φ b ρ S1).sat E) : (exec Φ (.ite c a b) ρ S).sat E := by
  rw [exec_ite]
  simp only [h, Out.res_ok, s_trB]
  cases t with
  | true => exact q1 rfl
  | false => exact q2 rfl
theorem isb_and {a b : Exp} (h1 : ∃ t, ev Φ a ρ S = .ok (.bl t) S) (h2 : ∃ t, ev Φ b ρ S = .ok (.bl t) S) : ∃ t, ev Φ (.and a b) ρ S = .ok (.bl t) S := by
  obtain ⟨t1, e1⟩ := h1
  obtain ⟨t2, e2⟩ := h2
  cases t1 <;> simp [ev, e1, e2]
theorem isb_or {a b : Exp} (h1 : ∃ t, ev Φ a ρ S = .ok (.bl t) S) (h2 : ∃ t, ev Φ b ρ S = .ok (.bl t) S) : ∃ t, ev Φ (.or a b) ρ S = .ok (.bl t) S := by
  obtain ⟨t1, e1⟩ := h1
  obtain ⟨t2, e2⟩ := h2
  cases t1 <;> simp [ev, e1, e2]
theorem isb_eq {a b : Exp} (h1 : ∃ i, ev Φ a ρ S = .ok (.int i) S) (h2 : ∃ i, ev Φ b ρ S = .ok (.int i) S) : ∃ t, ev Φ (.cmp .eq a b) ρ S = .ok (.bl t) S := by
  obtain ⟨t1, e1⟩ := h1
  obtain ⟨t2, e2⟩ := h2
  simp [ev, e1, e2]
theorem isb_in {a b c : Exp} (h1 : ∃ i, ev Φ a ρ S = .ok (.int i) S) (h2 : ∃ i, ev Φ b ρ S = .ok (.int i) S) (h3 : ∃ i, ev Φ c ρ S = .ok (.int i) S) : ∃ t, ev Φ (.cmp .isin a (.tup [b, c])) ρ S = .ok (.bl t) S := by
  obtain ⟨t1, e1⟩ := h1
  obtain ⟨t2, e2⟩ := h2
  obtain ⟨t3, e3⟩ := h3
  simp [ev, evs, e1, e2, e3, in_pair]
theorem isi_add {a b : Exp} (h1 : ∃ i, ev Φ a ρ S = .ok (.int i) S) (h2 : ∃ i, ev Φ b ρ S = .ok (.int i) S) : ∃ t, ev Φ (.bin .add a b) ρ S = .ok (.int t) S := by
  obtain ⟨t1, e1⟩ := h1
  obtain ⟨t2, e2⟩ := h2
  simp [ev, e1, e2]
theorem isi_sub {a b : Exp} (h1 : ∃ i, ev Φ a ρ S = .ok (.int i) S) (h2 : ∃ i, ev Φ b ρ S = .ok (.int i) S) : ∃ t, ev Φ (.bin .sub a b) ρ S = .ok (.int t) S := by
  obtain ⟨t1, e1⟩ := h1
  obtain ⟨t2, e2⟩ := h2
  simp [ev, e1, e2]
theorem s_mod {i j : Int} (h : 0 < j) : binOp S .mod (.int i) (.int j) = some (.int (i % j)) := by
  show (if 0 < j then some (D.int (i % j)) else none) = _
  rw [if_pos h]
theorem s_mul {i j : Int} (h : mulOk i j = true) : binOp S .mul (.int i) (.int j) = some (.int (i * j)) := by
  show (if mulOk i j then some (D.int (i * j)) else none) = _
  rw [if_pos h]
theorem s_fdiv {i j : Int} (h : 0 < j ∧ j < 1073741824) : binOp S .fdiv (.int i) (.int j) = some (.int (i / j)) := by
  show (if 0 < j ∧ j < 1073741824 then some (D.int (i / j)) else none) = _
  rw [if_pos h]
theorem s_divmod {i j : Int} (h : 0 < j ∧ j < 1073741824) : biOp S .divmod [.int i, .int j] = some (.tup [.int (i / j), .int (i % j)]) := by
  show (if 0 < j ∧ j < 1073741824 then some (D.tup [.int (i / j), .int (i % j)]) else none) = _
  rw [if_pos h]
theorem isi_mod {a : Exp} {j : Int} (hj : 0 < j) (h1 : ∃ i, ev Φ a ρ S = .ok (.int i) S) : ∃ t, ev Φ (.bin .mod a (.cst (.int j))) ρ S = .ok (.int t) S := by
  obtain ⟨t1, e1⟩ := h1
  simp [ev, e1, s_mod hj]
theorem isi_cst (j : Int) : ∃ i, ev Φ (.cst (.int j)) ρ S = .ok (.int i) S := ⟨j, by simp [ev]⟩
end
theorem mulR {i j : Int} (h : j.natAbs < 2 ^ 64) : mulOk i j = true := by simp [mulOk, h]
theorem mulL {i j : Int} (h : i.natAbs < 2 ^ 64) : mulOk i j = true := by simp [mulOk, h]
/-! ### drawing -/
theorem take_spec {prog : Nat → Def} {fT : Nat} (hT : prog fT = dTake) (k : Nat) {S : Sto} {b : Nat} {x m : Int} (h : S[b]? = some (.lst [.int x])) (hm : 0 < m ∧ m < 1073741824) : run prog (k + 1) fT [.ref b, .int m] S = .ok (.int (x % m)) (S.set b (.lst [.int (x / m)])) := by
  have hb : b < S.length := by
    rcases Nat.lt_or_ge b S.length with q | q
    · exact q
    · rw [List.getElem?_eq_none q] at h; cases h
  have q : (run prog (k + 1) fT [.ref b, .int m] S).sat fun d S' => d = .int (x % m) ∧ S' = S.set b (.lst [.int (x / m)]) := by
    refine call_satD dTake hT rfl rfl ?_
    have e : execs (run prog k) dTake.body (List.map some [D.ref b, D.int m] ++ List.replicate (dTake.ns - dTake.np) none) S = .rt (.int (x % m)) (S.set b (.lst [.int (x / m)])) := by
      have hx : idxOp S (.ref b) (.int 0) = some (.int x) := by simp [idxOp, res, h]
      simp [dTake, execs, exec, ev, evs, hx, s_divmod hm, Tgt.put, setL, putOp, h, ixOf]
    rw [e]
    refine ⟨rfl, ⟨by simp, fun i hi => ?_⟩, rfl, ?_⟩
    · by_cases z : i = b
      · right
        refine ⟨_, by rw [z, List.getElem?_set_self hb], rfl⟩
      · left; rw [List.getElem?_set_ne (by omega)]
    · rw [List.take_of_length_le (by simp)]
  obtain ⟨d, S', e, rfl, rfl⟩ := Out.sat_ex q
  exact e
def sx (S : Sto) (b : Nat) (x : Int) (T : Sto) : Sto := S.set b (.lst [.int x]) ++ T
theorem take_sx {prog : Nat → Def} {fT : Nat} (hT : prog fT = dTake) (k : Nat) {S T : Sto} {b : Nat} {x m : Int} (hb : b < S.length) (hm : 0 < m ∧ m < 1073741824) : run prog (k + 1) fT [.ref b, .int m] (sx S b x T) = .ok (.int (x % m)) (sx S b (x / m) T) := by
  rw [take_spec hT k (x := x) (by unfold sx; rw [List.getElem?_append_left (by simpa using hb), List.getElem?_set_self hb]) hm]
  congr 1
  unfold sx
  rw [List.set_append_left _ _ (by simpa using hb), List.set_set]
theorem sx_len {S T : Sto} {b : Nat} {x : Int} : (sx S b x T).length = S.length + T.length := by simp [sx]
theorem sx_at {S T : Sto} {b : Nat} {x : Int} {i : Nat} : (sx S b x T)[S.length + i]? = T[i]? := by
  unfold sx
  rw [List.getElem?_append_right (by simp)]
  simp
theorem sx_set {S T : Sto} {b : Nat} {x : Int} {i : Nat} {o : O} : (sx S b x T).set (S.length + i) o = sx S b x (T.set i o) := by
  unfold sx
  rw [List.set_append_right _ _ (by simp)]
  simp
theorem sx_app {S T : Sto} {b : Nat} {x : Int} {o : O} : sx S b x T ++ [o] = sx S b x (T ++ [o]) := by simp [sx]
theorem sx_kept {S T : Sto} {b : Nat} {x y : Int} (hb : b < S.length) : Kept (sx S b x []) (sx S b y T) := by
  refine ⟨by simp [sx], fun i hi => ?_⟩
  rw [sx_len] at hi
  have hi' : i < S.length := by simpa using hi
  by_cases z : i = b
  · right
    refine ⟨.lst [.int y], ?_, rfl⟩
    unfold sx
    rw [z, List.getElem?_append_left (by simpa using hb), List.getElem?_set_self hb]
  · left
    unfold sx
    rw [List.getElem?_append_left (by simpa using hi'), List.getElem?_append_left (by simpa using hi'), List.getElem?_set_ne (by omega), List.getElem?_set_ne (by omega)]
theorem sx_take {S T : Sto} {b : Nat} {x y : Int} : (sx S b y T).take (sx S b x []).length = sx S b y [] := by
  rw [sx_len]
  unfold sx
  simp
/-! ### the box -/
theorem call_keep {P : Nat → Def} {k f : Nat} {args : List D} {S : Sto} (D0 : Def) (hP : P f = D0) (hn : args.length = D0.np) (hk : D0.keep = true)
    (h : (execs (run P k) D0.body (args.map some ++ List.replicate (D0.ns - D0.np) none) S).sat { rt := fun d S' => d = .ref S.length ∧ ∃ x, S' = S ++ [.lst [.int x]] }) : ∃ x, run P (k + 1) f args S = .ok (.ref S.length) (S ++ [.lst [.int x]]) := by
  subst hP
  rw [run_succ]
  unfold callD
  rw [if_pos hn, hk]
  cases q : execs (run P k) (P f).body (args.map some ++ List.replicate ((P f).ns - (P f).np) none) S with
  | rt d S' =>
    rw [q] at h
    obtain ⟨rfl, x, rfl⟩ := h
    refine ⟨x, ?_⟩
    show finK S (.ref S.length) (S ++ [.lst [.int x]]) = _
    unfold finK
    simp only [List.getElem?_append_right (Nat.le_refl _), Nat.sub_self, List.getElem?_cons_zero]
    rw [if_pos ⟨Kept.ext _ _, Nat.le_refl _, rfl⟩, List.take_left]
  | nx ρ S' => rw [q] at h; exact h.elim
  | bk ρ S' => rw [q] at h; exact h.elim
  | ct ρ S' => rw [q] at h; exact h.elim
  | ex c x ρ S' => rw [q] at h; exact h.elim
  | stuck => rw [q] at h; exact h.elim
theorem box_spec {prog : Nat → Def} {fB : Nat} (hB : prog fB = dBox) (k : Nat) (ns : List Int) (j : Nat) (S : Sto) : ∃ x, run prog (k + 1) fB [.scr ns, .int j] S = .ok (.ref S.length) (S ++ [.lst [.int x]]) := by
  refine call_keep dBox hB rfl rfl ?_
  show (execs (run prog k) dBox.body [some (.scr ns), some (.int j), none, none, none, none] S).sat _
  refine sat_cons (sat_asg (d := .int (7919 * j + 13)) (S1 := S) ?_ ?_)
  · simp [ev, s_mul (mulL (i := 7919) (j := j) (by decide))]
  refine sat_cons ?_
  have rest : ∀ v : Int, (execs (run prog k) (dBox.body.drop 2) [some (.scr ns), some (.int j), some (.int v), none, none, none] S).sat { rt := fun d S' => d = .ref S.length ∧ ∃ x, S' = S ++ [.lst [.int x]] } := by
    intro v
    refine sat_cons (sat_iteB (S1 := S) (t := decide (v % 2 = 0)) ?_ (fun _ => ?_) (fun _ => ?_))
    · simp [ev, s_mod]
    · refine sat_cons (sat_ret (d := .ref S.length) (S1 := S ++ [.lst [.int (v / 2)]]) ?_ ⟨rfl, _, rfl⟩)
      simp [ev, evs, s_fdiv]
    · refine sat_nil (Φ := run prog k) ?_
      refine sat_cons (sat_asg (d := .int 0) (S1 := S) (by simp [ev]) ?_)
      refine sat_cons ?_
      refine sat_for (fun _ ρ S' => S' = S ∧ ∃ y o4 o5, ρ = [some (.scr ns), some (.int j), some (.int v), some (.int y), o4, o5]) (w := ⟨(List.range 16).map fun (j : Nat) => D.int (j : Int), none⟩) (S1 := S) (it_rngN (n := 16) (by simp [ev]) (by omega)) ⟨rfl, 0, none, none, rfl⟩ (fun _ _ _ _ => trivial) ?_ ?_
      · rintro jj d ρ S' hd ⟨rfl, y, o4, o5, rfl⟩
        simp only [List.getElem?_map] at hd
        obtain ⟨a, _, rfl⟩ := Option.map_eq_some_iff.mp hd
        refine ⟨_, rfl, ?_⟩
        have e1 : ∀ z : Int, (z % 2147483647).natAbs < 2 ^ 64 := fun z => by have : (2 : Nat) ^ 64 = 18446744073709551616 := by decide
                                                                             omega
        have e2 : ∀ z : Int, (z % 2147483629).natAbs < 2 ^ 64 := fun z => by have : (2 : Nat) ^ 64 = 18446744073709551616 := by decide
                                                                             omega
        refine sat_cons (sat_asg (d := .int ((v % 2147483647 * 48271 + 7919 * a + 1) % 2147483647)) (S1 := S') ?_ ?_)
        · simp [ev, s_mod, s_mul (mulL (e1 _)), s_mul (mulL (i := 7919) (j := a) (by decide))]
        generalize hu : (v % 2147483647 * 48271 + 7919 * (a : Int) + 1) % 2147483647 = u
        have hu' : u.natAbs < 2 ^ 64 := by rw [← hu]; exact e1 _
        refine sat_cons (sat_asg (d := .int (u * u % 2147483629)) (S1 := S') ?_ ?_)
        · simp [ev, s_mod, s_mul (mulL hu')]
        generalize hu2 : u * u % 2147483629 = u2
        have hu2' : u2.natAbs < 2 ^ 64 := by rw [← hu2]; exact e2 _
        refine sat_cons (sat_asg (d := .int (y * 2147483647 + u2 * (u2 + 13) % 2147483647)) (S1 := S') ?_ ?_)
        · simp [ev, s_mod, s_mul (mulL hu2'), s_mul (mulR (i := y) (j := 2147483647) (by decide))]
        exact sat_nil (Φ := run prog k) ⟨rfl, _, _, _, rfl⟩
      · rintro ρ S' ⟨rfl, y, o4, o5, rfl⟩
        dsimp only
        refine sat_cons (sat_ret (d := .ref S'.length) (S1 := S' ++ [.lst [.int y]]) ?_ ?_)
        · simp [ev, evs]
        · exact ⟨rfl, _, rfl⟩
  refine sat_iteB (S1 := S) (t := decide ((j : Int) < ns.length)) (by simp [ev, evs]) (fun h => ?_) (fun _ => ?_)
  · have hj : j < ns.length := by simpa using h
    refine sat_cons (sat_asg (d := .int ns[j]) (S1 := S) ?_ ?_)
    · simp [ev, s_atN, hj]
    exact sat_nil (Φ := run prog k) (rest _)
  · exact sat_nil (Φ := run prog k) (rest _)
end Pf
end

section 
set_option Elab.async false
set_option linter.all false
set_option maxHeartbeats 4000000
set_option maxRecDepth 100000
/-! PiB: webs as data, pairs drawn, orders, steps on the store. -/
namespace Pf
def webD (n : Int) (ts : List (Int × Int)) : D := .tup [.int n, .tup (ts.map pairD)]
theorem pairs_pure : ∀ ts : List (Int × Int), D.pureL (ts.map pairD) = true
  | [] => rfl
  | t :: ts => by simp [D.pureL, pairD, D.pure, pairs_pure ts]
theorem ints_pure : ∀ ts : List Int, D.pureL (ts.map D.int) = true
  | [] => rfl
  | t :: ts => by simp [D.pureL, D.pure, ints_pure ts]
theorem web_pure (n : Int) (ts : List (Int × Int)) : (webD n ts).pure = true := by simp [webD, D.pure, D.pureL, pairs_pure]
structure Web (n : Int) (ts : List (Int × Int)) : Prop where
  lo : 1 ≤ n
  hi : n ≤ 6
  tie : ∀ p ∈ ts, 0 ≤ p.1 ∧ p.1 < p.2 ∧ p.2 < n
  up : ts.Pairwise fun p q => p.1 < q.1 ∨ (p.1 = q.1 ∧ p.2 < q.2)
  few : ts.length ≤ 1000
/-! ### pairs drawn -/
structure Pr (i jj : Int) (A : List (Int × Int)) : Prop where
  nd : A.Nodup
  lie : ∀ p ∈ A, 0 ≤ p.1 ∧ p.1 < p.2 ∧ (p.2 < i ∨ (p.2 = i ∧ p.1 < jj))
  few : (A.length : Int) ≤ 10 * i + jj
theorem Pr.nil {i : Int} (h : 0 ≤ i) : Pr i 0 [] := ⟨List.nodup_nil, by simp, by simp; omega⟩
theorem Pr.skip {i jj : Int} {A : List (Int × Int)} (h : Pr i jj A) : Pr i (jj + 1) A :=
  ⟨h.nd, fun p hp => by have := h.lie p hp; omega, by have := h.few; omega⟩
theorem Pr.add {i jj : Int} {A : List (Int × Int)} (h : Pr i jj A) (h0 : 0 ≤ jj) (h1 : jj < i) : Pr i (jj + 1) (A ++ [(jj, i)]) := by
  refine ⟨?_, ?_, ?_⟩
  · rw [List.nodup_append]
    refine ⟨h.nd, by simp, ?_⟩
    rintro p hp q hq rfl
    rw [List.mem_singleton] at hq
    have := h.lie p hp
    rw [hq] at this
    simp at this
  · intro p hp
    rw [List.mem_append, List.mem_singleton] at hp
    rcases hp with hp | rfl
    · have := h.lie p hp; omega
    · simp; omega
  · have := h.few
    simp
    omega
theorem Pr.next {i jj : Int} {A : List (Int × Int)} (h : Pr i jj A) (h1 : jj ≤ i) (h2 : i ≤ 6) : Pr (i + 1) 0 A :=
  ⟨h.nd, fun p hp => by have := h.lie p hp; omega, by have := h.few; omega⟩
theorem web_sort {n : Int} {C : List (Int × Int)} (h1 : 1 ≤ n) (h2 : n ≤ 6) (nd : C.Nodup) (h3 : ∀ p ∈ C, 0 ≤ p.1 ∧ p.1 < p.2 ∧ p.2 < n) (h4 : C.length ≤ 1000) : Web n (sortP C) := by
  have P := sortP_perm C
  refine ⟨h1, h2, fun p hp => h3 p (P.mem_iff.mp hp), ?_, by rw [P.length_eq]; exact h4⟩
  have a := sortP_sorted C
  have b : (sortP C).Nodup := P.nodup_iff.mpr nd
  have c := a.and b
  refine c.imp ?_
  rintro p q ⟨x, y⟩
  rw [pairLe_iff] at x
  rcases x with x | ⟨x, z⟩
  · exact .inl x
  · refine .inr ⟨x, ?_⟩
    have : p.2 ≠ q.2 := fun e => y (Prod.ext x e)
    omega
/-! ### an order -/
def og (o : List Int) (i : Int) : Int := o[i.toNat]?.getD 0
def ft (o : List Int) (p : Int × Int) : Int × Int := (if og o p.2 < og o p.1 then og o p.2 else og o p.1, if og o p.2 > og o p.1 then og o p.2 else og o p.1)
def o0 (n : Nat) : List Int := (List.range n).map fun (k : Nat) => (k : Int)
theorem og_in {n : Nat} {o : List Int} (h : o.Perm (o0 n)) {i : Int} (h0 : 0 ≤ i) (h1 : i < n) : 0 ≤ og o i ∧ og o i < n := by
  have hl : o.length = n := by rw [h.length_eq]; simp [o0]
  have hi : i.toNat < o.length := by omega
  have m : og o i ∈ o := by
    unfold og
    rw [List.getElem?_eq_getElem hi]
    exact List.getElem_mem hi
  have := h.mem_iff.mp m
  simp only [o0, List.mem_map, List.mem_range] at this
  obtain ⟨k, hk, e⟩ := this
  omega
theorem og_inj {n : Nat} {o : List Int} (h : o.Perm (o0 n)) {i j : Int} (h0 : 0 ≤ i) (h1 : i < n) (h2 : 0 ≤ j) (h3 : j < n) (e : og o i = og o j) : i = j := by
  have hl : o.length = n := by rw [h.length_eq]; simp [o0]
  have hi : i.toNat < o.length := by omega
  have hj : j.toNat < o.length := by omega
  have nd0 : (o0 n).Nodup := by
    unfold o0
    rw [List.Nodup, List.pairwise_map]
    refine List.nodup_range.imp fun {a b} x y => x (by omega)
  have nd : o.Nodup := h.nodup_iff.mpr nd0
  unfold og at e
  rw [List.getElem?_eq_getElem hi, List.getElem?_eq_getElem hj] at e
  have e' : o[i.toNat] = o[j.toNat] := e
  have pw := List.pairwise_iff_getElem.mp nd
  rcases Nat.lt_trichotomy i.toNat j.toNat with q | q | q
  · exact absurd e' (pw _ _ hi hj q)
  · omega
  · exact absurd e'.symm (pw _ _ hj hi q)
theorem ft_web {n : Nat} {o : List Int} {A : List (Int × Int)} (h : o.Perm (o0 n)) (hn : 1 ≤ n ∧ n ≤ 6) (hA : Pr n 0 A) : Web n (sortP (A.map (ft o))) := by
  have lie : ∀ p ∈ A, 0 ≤ p.1 ∧ p.1 < p.2 ∧ p.2 < n := fun p hp => by have := hA.lie p hp; omega
  refine web_sort (by omega) (by omega) ?_ ?_ (by have := hA.few; rw [List.length_map]; omega)
  · rw [List.Nodup, List.pairwise_map]
    refine hA.nd.imp_of_mem fun {p q} hp hq ne e => ne ?_
    have h1 := lie p hp
    have h2 := lie q hq
    simp only [ft, Prod.mk.injEq] at e
    have a1 := @og_inj n o h p.1 q.1 (by omega) (by omega) (by omega) (by omega)
    have a2 := @og_inj n o h p.2 q.2 (by omega) (by omega) (by omega) (by omega)
    have a3 := @og_inj n o h p.1 q.2 (by omega) (by omega) (by omega) (by omega)
    have a4 := @og_inj n o h p.2 q.1 (by omega) (by omega) (by omega) (by omega)
    refine Prod.ext ?_ ?_ <;> omega
  · intro q hq
    rw [List.mem_map] at hq
    obtain ⟨p, hp, rfl⟩ := hq
    have h1 := lie p hp
    have b1 := og_in h (i := p.1) (by omega) (by omega)
    have b2 := og_in h (i := p.2) (by omega) (by omega)
    have a2 := @og_inj n o h p.1 p.2 (by omega) (by omega) (by omega) (by omega)
    simp only [ft]
    omega
/-! ### steps on the store -/
section
variable {Φ : Nat → List D → Sto → Out D} {ρ : Env} {S T : Sto} {E : En} {b : Nat} {x : Int}
theorem isi_var {i : Nat} {t : Int} (h : ρ[i]? = some (some (.int t))) : ∃ j, ev Φ (.var i) ρ S = .ok (.int j) S := ⟨t, by simp [ev, h]⟩
theorem isb_var {i : Nat} {t : Bool} (h : ρ[i]? = some (some (.bl t))) : ∃ j, ev Φ (.var i) ρ S = .ok (.bl j) S := ⟨t, by simp [ev, h]⟩
theorem ix_nat {n a : Nat} (h : a < n) : ixOf n (a : Int) = some a := by
  unfold ixOf
  rw [if_pos (by omega), if_pos (by omega)]
  simp
theorem app_sx {o i : Nat} {e : Exp} {xs : List D} {d : D} (h1 : ρ[o]? = some (some (.ref (S.length + i)))) (h2 : T[i]? = some (.lst xs)) (hl : xs.length < 1000) (h3 : ev Φ e ρ (sx S b x T) = .ok d (sx S b x T)) :
    ev Φ (.meth .append (.var o) [e]) ρ (sx S b x T) = .ok .non (sx S b x (T.set i (.lst (xs ++ [d])))) := by
  have a1 : (sx S b x T)[S.length + i]? = some (.lst xs) := by rw [sx_at, h2]
  have a2 : mtTy (sx S b x T) .append (.ref (S.length + i)) = true := by simp [mtTy, res, a1]
  have a3 : mtOp (sx S b x T) .append (.ref (S.length + i)) [d] = some (.non, sx S b x (T.set i (.lst (xs ++ [d])))) := by
    have := big_val
    simp only [mtOp, a1]
    rw [if_pos (by omega), sx_set]
  simp [ev, evs, h1, a2, h3, a3]
theorem mut_sx {e : Exp} {xs : List D} (h : ev Φ e ρ (sx S b x T) = .ok (.lst xs) (sx S b x T)) : ev Φ (.mut e) ρ (sx S b x T) = .ok (.ref (S.length + T.length)) (sx S b x (T ++ [.lst xs])) := by
  simp only [ev, h, Out.ok_bind, sx_len, sx_app]
theorem idx_sx {i a : Nat} {o : List Int} (hT : T[i]? = some (.lst (o.map D.int))) (ha : a < o.length) : idxOp (sx S b x T) (.ref (S.length + i)) (.int a) = some (.int o[a]) := by
  have a1 : (sx S b x T)[S.length + i]? = some (.lst (o.map D.int)) := by rw [sx_at, hT]
  simp [idxOp, res, a1, s_atN, ha]
theorem swp_sx {a c i : Nat} {o : List Int} (h8 : ρ[8]? = some (some (.ref (S.length + i)))) (hT : T[i]? = some (.lst (o.map D.int))) (h9 : ρ[9]? = some (some (.int a))) (h13 : ρ[13]? = some (some (.int c))) (ha : a < o.length) (hc : c < o.length) :
    exec Φ (.swp (.var 8) (.var 9) (.var 8) (.var 13) (.idx (.var 8) (.var 13)) (.idx (.var 8) (.var 9))) ρ (sx S b x T) = .nx ρ (sx S b x (T.set i (.lst (((o.set a o[c]).set c o[a]).map D.int)))) := by
  have hi : i < T.length := by
    rcases Nat.lt_or_ge i T.length with q | q
    · exact q
    · rw [List.getElem?_eq_none q] at hT; cases hT
  have a1 : (sx S b x T)[S.length + i]? = some (.lst (o.map D.int)) := by rw [sx_at, hT]
  have a2 : putL (sx S b x T) (.ref (S.length + i)) (.int a) (.int o[c]) = some (sx S b x (T.set i (.lst ((o.set a o[c]).map D.int)))) := by
    simp only [putL, a1, List.length_map, ix_nat ha, Option.map_some, sx_set, List.map_set]
  have a3 : (sx S b x (T.set i (.lst ((o.set a o[c]).map D.int))))[S.length + i]? = some (.lst ((o.set a o[c]).map D.int)) := by rw [sx_at, List.getElem?_set_self hi]
  have a4 : putL (sx S b x (T.set i (.lst ((o.set a o[c]).map D.int)))) (.ref (S.length + i)) (.int c) (.int o[a]) = some (sx S b x (T.set i (.lst (((o.set a o[c]).set c o[a]).map D.int)))) := by
    have hc' : c < (o.set a o[c]).length := by simpa using hc
    simp only [putL, a3, List.length_map, ix_nat hc', Option.map_some, sx_set, List.set_set]
    simp only [List.map_set]
  have b1 := idx_sx (S := S) (b := b) (x := x) hT ha
  have b2 := idx_sx (S := S) (b := b) (x := x) hT hc
  simp only [exec, ev, h8, h9, h13, Option.join_some, Out.opt_some, Out.ok_bind, b1, b2, Out.res_ok, a2, a4]
end
end Pf
end

section 
set_option Elab.async false
set_option linter.all false
set_option maxRecDepth 100000
set_option maxHeartbeats 1000000
/-! PwB: loops, comprehensions, calls by wishes. -/
namespace Pf
abbrev noX : Xd := fun _ _ _ => False
theorem Ex.ext' {E : Ex} : E = ⟨E.nx, E.rt, E.bk, E.ct, E.ex⟩ := rfl
/-! ### for -/
theorem forL_RP {f : D → Env → Sto → Res} {w : Wk} {E : Ex} {α : Type} {enc : α → D} (I : List α → Env → Sto → Prop) (hw : ∀ pre ρ S, I pre ρ S → w.ok S) : ∀ (l pre : List α) {ρ : Env} {S : Sto}, I pre ρ S →
    (∀ pr a post ρ S, l = pr ++ a :: post → I (pre ++ pr) ρ S → RP (f (enc a) ρ S) { E with nx := I (pre ++ pr ++ [a]), ct := I (pre ++ pr ++ [a]), bk := E.nx } ⟨⟩) → (∀ ρ S, I (pre ++ l) ρ S → E.nx ρ S) → RP (forL f w (l.map enc) ρ S) E ⟨⟩
  | [], pre, ρ, S, h0, hs, hd => by
    simp only [List.map_nil]
    unfold forL
    rw [if_pos (hw pre ρ S h0)]
    exact hd ρ S (by simpa using h0)
  | a :: l, pre, ρ, S, h0, hs, hd => by
    simp only [List.map_cons]
    unfold forL
    rw [if_pos (hw pre ρ S h0)]
    have h1 : RP (f (enc a) ρ S) { E with nx := I (pre ++ [a]), ct := I (pre ++ [a]), bk := E.nx } ⟨⟩ := RP_imp (hs [] a l ρ S rfl (by simpa using h0)) (fun ρ S h => by simpa using h) (fun d S h => h) (fun ρ S h => h) (fun ρ S h => by simpa using h) (fun c x ρ S h => h)
    have next : ∀ ρ' S', I (pre ++ [a]) ρ' S' → RP (forL f w (l.map enc) ρ' S') E ⟨⟩ := fun ρ' S' h' =>
      forL_RP I hw l (pre ++ [a]) h' (fun pr b post ρ S e hI => by
        exact RP_imp (hs (a :: pr) b post ρ S (by rw [e]; rfl) (by simpa using hI)) (fun ρ S h => by simpa using h) (fun d S h => h) (fun ρ S h => h) (fun ρ S h => by simpa using h) (fun c x ρ S h => h)) fun ρ S hI => hd ρ S (by simpa using hI)
    cases q : f (enc a) ρ S with
    | nx ρ' S' => rw [q] at h1; exact next ρ' S' h1
    | ct ρ' S' => rw [q] at h1; exact next ρ' S' h1
    | bk ρ' S' => rw [q] at h1; exact h1
    | rt v S' => rw [q] at h1; exact h1
    | ex c x ρ' S' => rw [q] at h1; exact h1
    | stuck => rw [q] at h1; exact h1
section
variable {Φ : Fn} {ρ : Env} {S : Sto} {E : Ex} {u : Tok E}
theorem XS_forW {α : Type} {tg : Tgt} {it : Itr} {b ss : List Stm} (l : List α) (enc : α → D) (I : List α → Env → Sto → Prop) (w : Wk) (hx : w.xs = l.map enc) (hw : ∀ pre ρ S, I pre ρ S → w.ok S)
    (hi : WI Φ it ρ S (fun w' S1 => w' = w ∧ I [] ρ S1) (fun c x S => E.ex c x ρ S) ⟨⟩)
    (hs : ∀ pre a post ρ S, l = pre ++ a :: post → I pre ρ S → putP (tg.put (enc a) ρ) (fun ρ' => XS Φ b ρ' S { E with nx := I (pre ++ [a]), ct := I (pre ++ [a]), bk := fun ρ S => XS Φ ss ρ S E ⟨⟩ } ⟨⟩) ⟨⟩)
    (hd : ∀ ρ S, I l ρ S → XS Φ ss ρ S E ⟨⟩) : XS Φ (.for tg it b :: ss) ρ S E u := by
  rw [XS_cons, exec_for, RP_res]
  rw [WI_def] at hi
  refine OP_imp hi (fun w' S1 h => ?_) (fun c x S h => h)
  obtain ⟨rfl, h0⟩ := h
  show RP (forL (forB tg (execs Φ b)) w' w'.xs ρ S1) _ ⟨⟩
  rw [hx]
  refine forL_RP I hw l [] h0 (fun pr a post ρ S e hI => ?_) (fun ρ S hI => hd ρ S hI)
  have := hs pr a post ρ S e (by simpa using hI)
  unfold forB
  cases q : tg.put (enc a) ρ with
  | none => rw [q] at this; exact this.elim
  | some ρ' =>
    rw [q] at this
    simp only [putP_some, XS_def] at this
    refine RP_imp this (fun ρ S h => by simpa using h) (fun d S h => h) (fun ρ S h => ?_) (fun ρ S h => by simpa using h) (fun c x ρ S h => h)
    simpa [XS_def] using h
theorem XS_for {α : Type} {tg : Tgt} {it : Itr} {b ss : List Stm} (l : List α) (enc : α → D) (I : List α → Env → Sto → Prop)
    (hi : WI Φ it ρ S (fun w' S1 => w' = ⟨l.map enc, none⟩ ∧ I [] ρ S1) (fun c x S => E.ex c x ρ S) ⟨⟩)
    (hs : ∀ pre a post ρ S, l = pre ++ a :: post → I pre ρ S → putP (tg.put (enc a) ρ) (fun ρ' => XS Φ b ρ' S { E with nx := I (pre ++ [a]), ct := I (pre ++ [a]), bk := fun ρ S => XS Φ ss ρ S E ⟨⟩ } ⟨⟩) ⟨⟩)
    (hd : ∀ ρ S, I l ρ S → XS Φ ss ρ S E ⟨⟩) : XS Φ (.for tg it b :: ss) ρ S E u :=
  XS_forW l enc I ⟨l.map enc, none⟩ rfl (fun _ _ _ _ => trivial) hi hs hd
/-! ### while -/
theorem XS_wh {c : Exp} {b ss : List Stm} (I : Nat → Env → Sto → Prop) (m : Nat) (h0 : I m ρ S)
    (hs : ∀ m ρ S, I m ρ S → W Φ c ρ S (fun x S1 => brP (truth S1 x) (XS Φ b ρ S1 { E with nx := fun ρ' S' => ∃ m', m' < m ∧ I m' ρ' S', ct := fun ρ' S' => ∃ m', m' < m ∧ I m' ρ' S', bk := fun ρ S => XS Φ ss ρ S E ⟨⟩ } ⟨⟩) (XS Φ ss ρ S1 E ⟨⟩) ⟨⟩) (fun c x S => E.ex c x ρ S) ⟨⟩) :
    XS Φ (.wh c b :: ss) ρ S E u := by
  rw [XS_cons, exec_wh]
  have key : ∀ (m : Nat) {ρ : Env} {S : Sto}, I m ρ S → ∃ n r, whileN (tst (ev Φ c)) (execs Φ b) n ρ S = some r ∧ RP r { E with nx := fun ρ S => XS Φ ss ρ S E ⟨⟩ } ⟨⟩ := by
    intro m
    induction m using Nat.strongRecOn with
    | _ m ih =>
      intro ρ S h
      have h1 := hs m ρ S h
      rw [W_def] at h1
      cases q : ev Φ c ρ S with
      | stuck => rw [q] at h1; exact h1.elim
      | exn k x S1 =>
        rw [q] at h1
        exact ⟨1, .ex k x ρ S1, by simp [whileN, tst, q], h1⟩
      | ok x S1 =>
        rw [q] at h1
        simp only [OP_ok] at h1
        cases q2 : truth S1 x with
        | none => rw [q2] at h1; exact h1.elim
        | some t =>
          rw [q2] at h1
          have e : tst (ev Φ c) ρ S = .ok t S1 := by simp [tst, q, q2]
          cases t with
          | false =>
            simp only [brP_false] at h1
            exact ⟨1, .nx ρ S1, by simp [whileN, e], h1⟩
          | true =>
            simp only [brP_true, XS_def Φ b] at h1
            cases q3 : execs Φ b ρ S1 with
            | nx ρ' S' =>
              rw [q3] at h1
              obtain ⟨m', hm, hI⟩ := h1
              obtain ⟨n, r, e2, h3⟩ := ih m' hm hI
              exact ⟨n + 1, r, by simp [whileN, e, q3, e2], h3⟩
            | ct ρ' S' =>
              rw [q3] at h1
              obtain ⟨m', hm, hI⟩ := h1
              obtain ⟨n, r, e2, h3⟩ := ih m' hm hI
              exact ⟨n + 1, r, by simp [whileN, e, q3, e2], h3⟩
            | bk ρ' S' => rw [q3] at h1; exact ⟨1, .nx ρ' S', by simp [whileN, e, q3], h1⟩
            | rt v S' => rw [q3] at h1; exact ⟨1, .rt v S', by simp [whileN, e, q3], h1⟩
            | ex k x ρ' S' => rw [q3] at h1; exact ⟨1, .ex k x ρ' S', by simp [whileN, e, q3], h1⟩
            | stuck => rw [q3] at h1; exact h1.elim
  obtain ⟨n, r, e, h⟩ := key m h0
  show RP (whileL (tst (ev Φ c)) (execs Φ b) ρ S) _ ⟨⟩
  rw [whileL_eq e]
  exact h
end
/-! ### comprehensions -/
section
variable {Φ : Fn} {ρ : Env} {S : Sto} {Q : Qd} {X : Xd} {t : Tok2 Q X}
theorem OP_eq {α : Type} {o : Out α} {a : α} {S' : Sto} {t} (h : OP o (fun b S1 => b = a ∧ S1 = S') noX t) : o = .ok a S' := by
  cases o with
  | ok b S1 => obtain ⟨rfl, rfl⟩ := h; rfl
  | exn c x S1 => exact h.elim
  | stuck => exact h.elim
theorem compL_I {f : D → Sto → Out (Option D)} {α : Type} {enc : α → D} {xs : List D} (I : List α → List D → Sto → Prop) : ∀ (l pre : List α) (ys : List D) {S : Sto}, I pre ys S →
    (∀ pr a post ys S, l = pr ++ a :: post → I (pre ++ pr) ys S → OP (f (enc a) S) (fun o S1 => I (pre ++ pr ++ [a]) (ys ++ o.toList) S1) noX ⟨⟩) → OP (compL f ⟨xs, none⟩ (l.map enc) S) (fun zs S1 => I (pre ++ l) (ys ++ zs) S1) noX ⟨⟩
  | [], pre, ys, S, h0, hs => by rw [List.map_nil, compL_nil0]; simpa using h0
  | a :: l, pre, ys, S, h0, hs => by
    have h1 : OP (f (enc a) S) (fun o S1 => I (pre ++ [a]) (ys ++ o.toList) S1) noX ⟨⟩ := OP_imp (hs [] a l ys S rfl (by simpa using h0)) (fun o S1 h => by simpa using h) fun c x S h => h
    cases q : f (enc a) S with
    | exn c x S1 => rw [q] at h1; exact h1.elim
    | stuck => rw [q] at h1; exact h1.elim
    | ok o S1 =>
      rw [q] at h1
      rw [List.map_cons, compL_cons0 q, OP_bind]
      refine OP_imp (compL_I I l (pre ++ [a]) (ys ++ o.toList) h1 fun pr b post ys' S' e hI => ?_) (fun zs S2 h => ?_) fun c x S h => h
      · exact OP_imp (hs (a :: pr) b post ys' S' (by rw [e]; rfl) (by simpa using hI)) (fun o S1 h => by simpa using h) fun c x S h => h
      · simpa using h
/-- a comprehension that may change the store -/
theorem W_compS {α : Type} {elt : Exp} {tg : Tgt} {it : Itr} {c : Option Exp} (l : List α) (enc : α → D) (I : List α → List D → Sto → Prop)
    (hi : WI Φ it ρ S (fun w S1 => w = ⟨l.map enc, none⟩ ∧ I [] [] S1) noX ⟨⟩)
    (hb : ∀ pre a post ys S, l = pre ++ a :: post → I pre ys S → putP (tg.put (enc a) (wipe ρ tg.own)) (fun ρ' => WC Φ c ρ' S (fun b S2 => brP (some b) (W Φ elt ρ' S2 (fun d S3 => I (pre ++ [a]) (ys ++ [d]) S3) noX ⟨⟩) (I (pre ++ [a]) ys S2) ⟨⟩) noX ⟨⟩) ⟨⟩)
    (hq : ∀ ys S, I l ys S → Q (.lst ys) S) : W Φ (.comp elt tg it c) ρ S Q X t := by
  rw [W_def, ev_comp]
  unfold compS
  rw [OP_bind]
  rw [WI_def] at hi
  refine OP_imp hi (fun w S1 h => ?_) fun c x S h => h.elim
  obtain ⟨rfl, h0⟩ := h
  rw [OP_bind]
  refine OP_imp (compL_I (enc := enc) I l [] [] h0 fun pr a post ys S' e hI => ?_) (fun zs S2 h => hq zs S2 (by simpa using h)) fun c x S h => h.elim
  have := hb pr a post ys S' e (by simpa using hI)
  unfold compB
  cases q : tg.put (enc a) (wipe ρ tg.own) with
  | none => rw [q] at this; exact this.elim
  | some ρ' =>
    rw [q] at this
    simp only [putP_some, WC_def] at this
    show OP ((evc Φ c ρ' S').bind _) _ _ _
    rw [OP_bind]
    refine OP_imp this (fun b S2 h => ?_) fun c x S h => h.elim
    cases b with
    | true =>
      simp only [brP_true, W_def] at h
      simp only [if_true, OP_bind]
      refine OP_imp h (fun d S3 h => by simpa using h) fun c x S h => h.elim
    | false =>
      simp only [brP_false] at h
      simp only [Bool.false_eq_true, if_false, OP_ok]
      simpa using h
/-- a comprehension that leaves the store -/
theorem W_comp {α : Type} {elt : Exp} {tg : Tgt} {it : Itr} {c : Option Exp} (l : List α) (enc : α → D) (p : α → Bool) (g : α → D)
    (hi : WI Φ it ρ S (fun w S1 => w = ⟨l.map enc, none⟩ ∧ S1 = S) noX ⟨⟩)
    (hb : ∀ a ∈ l, putP (tg.put (enc a) (wipe ρ tg.own)) (fun ρ' => WC Φ c ρ' S (fun b S2 => b = p a ∧ S2 = S ∧ (p a = true → W Φ elt ρ' S (fun d S3 => d = g a ∧ S3 = S) noX ⟨⟩)) noX ⟨⟩) ⟨⟩)
    (hq : Q (.lst ((l.filter p).map g)) S) : W Φ (.comp elt tg it c) ρ S Q X t := by
  refine W_compS l enc (fun pre ys S' => ys = (pre.filter p).map g ∧ S' = S) ?_ ?_ ?_
  · rw [WI_def] at hi ⊢
    exact OP_imp hi (fun w S1 h => ⟨h.1, rfl, h.2⟩) fun c x S h => h
  · rintro pre a post ys S' e ⟨rfl, rfl⟩
    have := hb a (by rw [e]; simp)
    cases q : tg.put (enc a) (wipe ρ tg.own) with
    | none => rw [q] at this; exact this.elim
    | some ρ' =>
      rw [q] at this
      simp only [putP_some, WC_def] at this ⊢
      refine OP_imp this (fun b S2 h => ?_) fun c x S h => h
      obtain ⟨rfl, rfl, h⟩ := h
      cases q2 : p a with
      | true =>
        simp only [brP_true]
        have h := h q2
        rw [W_def] at h ⊢
        refine OP_imp h (fun d S3 h => ?_) fun c x S h => h
        obtain ⟨rfl, rfl⟩ := h
        exact ⟨by simp [q2], rfl⟩
      | false =>
        simp only [brP_false]
        exact ⟨by simp [q2], trivial⟩
  · rintro ys S' ⟨rfl, rfl⟩
    exact hq
theorem W_compN {α : Type} {elt : Exp} {tg : Tgt} {it : Itr} (l : List α) (enc : α → D) (g : α → D)
    (hi : WI Φ it ρ S (fun w S1 => w = ⟨l.map enc, none⟩ ∧ S1 = S) noX ⟨⟩)
    (hb : ∀ a ∈ l, putP (tg.put (enc a) (wipe ρ tg.own)) (fun ρ' => W Φ elt ρ' S (fun d S3 => d = g a ∧ S3 = S) noX ⟨⟩) ⟨⟩)
    (hq : Q (.lst (l.map g)) S) : W Φ (.comp elt tg it none) ρ S Q X t := by
  refine W_comp l enc (fun _ => true) g hi (fun a ha => ?_) (by rw [List.filter_eq_self.mpr (fun _ _ => rfl)]; exact hq)
  have := hb a ha
  cases q : tg.put (enc a) (wipe ρ tg.own) with
  | none => rw [q] at this; exact this.elim
  | some ρ' =>
    rw [q] at this
    simp only [putP_some, WC_none] at this ⊢
    exact ⟨trivial, trivial, fun _ => this⟩
end
/-! ### calls -/
section
variable {P : Nat → Def} {k f np ns : Nat} {args : List D} {S : Sto} {body : List Stm}
/-- a call that leaves the caller's store -/
theorem run_ok {d : D} (hP : P f = ⟨np, ns, false, body⟩) (hn : args.length = np) (hd : d.pure = true)
    (h : XS (run P k) body (args.map some ++ List.replicate (ns - np) none) S ⟨fun _ S' => d = .non ∧ ∃ T, S' = S ++ T, fun d' S' => d' = d ∧ ∃ T, S' = S ++ T, fun _ _ => False, fun _ _ => False, fun _ _ _ _ => False⟩ ⟨⟩) :
    run P (k + 1) f args S = .ok d S := by
  rw [run_succ, hP]
  unfold callD
  rw [if_pos hn]
  rw [XS_def] at h
  cases q : execs (run P k) body (args.map some ++ List.replicate (ns - np) none) S with
  | rt d' S' =>
    rw [q] at h
    obtain ⟨rfl, T, rfl⟩ := h
    exact fin_ext hd
  | nx ρ S' =>
    rw [q] at h
    obtain ⟨rfl, T, rfl⟩ := h
    exact fin_nx
  | bk ρ S' => rw [q] at h; exact h.elim
  | ct ρ S' => rw [q] at h; exact h.elim
  | ex c x ρ S' => rw [q] at h; exact h.elim
  | stuck => rw [q] at h; exact h.elim
/-- a call that may change the caller's store -/
theorem run_op {Q : Qd} {X : Xd} {t : Tok2 Q X} (hP : P f = ⟨np, ns, false, body⟩) (hn : args.length = np)
    (h : XS (run P k) body (args.map some ++ List.replicate (ns - np) none) S ⟨fun _ S' => Kept S S' ∧ Q .non (S'.take S.length), fun d S' => d.pure = true ∧ Kept S S' ∧ Q d (S'.take S.length), fun _ _ => False, fun _ _ => False, fun c x _ S' => x.pure = true ∧ Kept S S' ∧ X c x (S'.take S.length)⟩ ⟨⟩) :
    OP (run P (k + 1) f args S) Q X t := by
  rw [run_succ, hP]
  unfold callD
  rw [if_pos hn]
  rw [XS_def] at h
  cases q : execs (run P k) body (args.map some ++ List.replicate (ns - np) none) S with
  | rt d S' => rw [q] at h; simp only [fin_pure h.1 h.2.1, OP_ok]; exact h.2.2
  | nx ρ S' =>
    rw [q] at h
    show OP (finV S .non S') Q X t
    unfold finV
    rw [if_pos ⟨h.1, rfl⟩]
    exact h.2
  | bk ρ S' => rw [q] at h; exact h.elim
  | ct ρ S' => rw [q] at h; exact h.elim
  | ex c x ρ S' =>
    rw [q] at h
    have e : fin false S (.ex c x ρ S') = .exn c x (S'.take S.length) := by
      unfold fin
      exact if_pos ⟨h.2.1, pure_lo _ h.1⟩
    simp only [e, OP_exn]
    exact h.2.2
  | stuck => rw [q] at h; exact h.elim
end
end Pf
end

section 
set_option Elab.async false
set_option linter.all false
set_option maxRecDepth 100000
set_option maxHeartbeats 4000000
/-! PB: defs that laws share, by numbers of their own (printed by base.py). -/
namespace Pf
abbrev F_is_upto : Nat := 0
abbrev F_is_tie : Nat := 1
abbrev F_rises : Nat := 2
abbrev F_is_web : Nat := 3
abbrev F_need_web : Nat := 4
abbrev F_is_list : Nat := 5
abbrev F_are_lists_of : Nat := 6
abbrev F_are_lists : Nat := 7
abbrev F_are_sizes : Nat := 8
abbrev F__law_cell : Nat := 9
abbrev F__law_mix : Nat := 10
abbrev F__law_box : Nat := 11
abbrev F__law_take : Nat := 12
abbrev F__law_whole : Nat := 13
abbrev F__law_truth : Nat := 14
abbrev F__law_pairs : Nat := 15
abbrev F__law_drawn_web : Nat := 16
abbrev F__law_drawn_list : Nat := 17
abbrev F__law_drawn_lists : Nat := 18
abbrev F__law_tied : Nat := 19
abbrev F__law_drawn_sizes : Nat := 20
abbrev F__law_thing : Nat := 21
abbrev F__law_are_lists : Nat := 22
abbrev F__law_marks : Nat := 23
abbrev F_need_lists : Nat := 24
abbrev F_is_choice_of : Nat := 25
abbrev F_is_choice : Nat := 26
abbrev F_tied_to : Nat := 27
abbrev F_near : Nat := 28
abbrev F_sizes_by : Nat := 29
abbrev F_sizes_of : Nat := 30
abbrev F_list_text : Nat := 31
abbrev F_show : Nat := 32
abbrev F_number_in : Nat := 33
abbrev F_tie_in : Nat := 34
abbrev F_list_in : Nat := 35
abbrev F_read : Nat := 36
abbrev F_fits : Nat := 37
abbrev F_many_of : Nat := 38
abbrev F_first_of : Nat := 39
abbrev F_first_choice : Nat := 40
abbrev F_choices_many : Nat := 41
abbrev F__law_all_choices : Nat := 42
abbrev F_open_hues : Nat := 43
abbrev F_with_one : Nat := 44
abbrev F_is_none : Nat := 45
abbrev F_is_none_paper : Nat := 46
abbrev F_none_by : Nat := 47
abbrev F_none_paper : Nat := 48
abbrev F__law_has_choice : Nat := 49
abbrev F_choice_at : Nat := 50
abbrev F_number_of : Nat := 51
abbrev F_begun_many : Nat := 52
abbrev F__law_sets : Nat := 53
abbrev F__law_some_bar : Nat := 54
abbrev F__law_left_over : Nat := 55
abbrev F__law_always : Nat := 56
abbrev F_need_sizes : Nat := 57
abbrev F_peeled : Nat := 58
abbrev F_narrowness : Nat := 59
abbrev F_need_small : Nat := 60
abbrev F_sets_of : Nat := 61
abbrev F_part_web : Nat := 62
abbrev F_bar_here : Nat := 63
abbrev F_bar_of : Nat := 64
abbrev F_need_asked : Nat := 65
abbrev F_always : Nat := 66
abbrev F_is_bar : Nat := 67
abbrev F_bar_for : Nat := 68
abbrev F_least_length : Nat := 69
abbrev F_hues_many : Nat := 70
abbrev F_is_order_of : Nat := 71
abbrev F_is_order : Nat := 72
abbrev F_order_for : Nat := 73
abbrev F__law_mixed_up : Nat := 74
abbrev F__law_is_order : Nat := 75
abbrev F_core : Nat := 76
abbrev F_choice_by : Nat := 77
abbrev F__law_all_terms : Nat := 78
abbrev F_is_from_nought : Nat := 79
abbrev F_need_few : Nat := 80
abbrev F_raised : Nat := 81
abbrev F_terms_of : Nat := 82
abbrev F_terms : Nat := 83
abbrev F_are_powers : Nat := 84
abbrev F_need_powers : Nat := 85
abbrev F_term : Nat := 86
abbrev F_lesser : Nat := 87
abbrev F_is_term_paper : Nat := 88
abbrev F_term_for : Nat := 89
abbrev F_runs_many : Nat := 90
abbrev F__law_few_ties : Nat := 91
abbrev F_are_tie_lists_of : Nat := 92
abbrev F_are_tie_lists : Nat := 93
abbrev F__law_classes : Nat := 94
abbrev F__law_only : Nat := 95
abbrev F_need_tie_lists : Nat := 96
abbrev F_meet : Nat := 97
abbrev F_may_have : Nat := 98
abbrev F_first_from : Nat := 99
abbrev F_first_tie_choice : Nat := 100
abbrev F_many_from : Nat := 101
abbrev F_tie_choices_many : Nat := 102
abbrev F__law_box_v2 : Nat := 103
abbrev F__law_web : Nat := 104
abbrev F__law_lists : Nat := 105
abbrev F__law_meet : Nat := 106
abbrev F__law_tie_choices : Nat := 107
abbrev F_width_of : Nat := 108
abbrev F_width : Nat := 109
abbrev F_part_of : Nat := 110
abbrev F_first_part : Nat := 111
abbrev F__law_near : Nat := 112
abbrev F__law_part : Nat := 113
abbrev F__law_two_sided : Nat := 114
abbrev F_need_two_sided : Nat := 115
abbrev F_are_ranks : Nat := 116
abbrev F_are_some : Nat := 117
abbrev F_need_some : Nat := 118
abbrev F_ends : Nat := 119
abbrev F_is_beaten : Nat := 120
abbrev F_is_stable : Nat := 121
abbrev F_stable_of : Nat := 122
abbrev F_stable_ones : Nat := 123
abbrev F_lots_many : Nat := 124
abbrev F_times : Nat := 125
abbrev F_sum_of : Nat := 126
abbrev F_worth_at : Nat := 127
abbrev F_count_at : Nat := 128
abbrev F__law_odd : Nat := 129
abbrev F__law_no_web : Nat := 130
abbrev F_is_tie_choice : Nat := 131
abbrev F_long_choice : Nat := 132
abbrev F_no_rounds_many : Nat := 133
abbrev F_longer : Nat := 134
abbrev F_lists_from : Nat := 135
abbrev F_best_of : Nat := 136
abbrev F_need_asked_v2 : Nat := 137
abbrev F_fewest : Nat := 138
abbrev F_fewest_lists : Nat := 139
abbrev F__law_choices : Nat := 140
abbrev F_powers_of : Nat := 141
abbrev F_pieces_of : Nat := 142
abbrev F_pieces : Nat := 143
abbrev F_pieces_v2 : Nat := 144
abbrev F_taken_by : Nat := 145
abbrev F_sure_of : Nat := 146
abbrev F_sure : Nat := 147
abbrev F_taken : Nat := 148
abbrev F_named : Nat := 149
abbrev F_without : Nat := 150
abbrev F_sure_of_v2 : Nat := 151
abbrev F_sure_v2 : Nat := 152
abbrev F_come_to : Nat := 153
abbrev F_joins : Nat := 154
abbrev F_blocks_of : Nat := 155
abbrev F_blocks : Nat := 156
abbrev F_within : Nat := 157
abbrev F_is_full : Nat := 158
abbrev F_is_plain : Nat := 159
abbrev F_plain_blocks : Nat := 160
abbrev F__law_box_v3 : Nat := 161
abbrev F__law_plain : Nat := 162
abbrev F_sizes_near : Nat := 163
abbrev F_near_sizes : Nat := 164
abbrev F_plain_piece : Nat := 165
abbrev F_always_near : Nat := 166
abbrev F_near_bar : Nat := 167
abbrev F__law_come : Nat := 168
abbrev F__law_text : Nat := 169
abbrev F_number_in_v2 : Nat := 170
abbrev F_spaced : Nat := 171
abbrev F__law_box_v4 : Nat := 172
abbrev F__law_more : Nat := 173
abbrev F__law_take_v2 : Nat := 174
def d_is_upto : Def := ⟨3, 3, false, [(.ret (.and (.isi .int (.var 0)) (.and (.not (.isi .bool (.var 0))) (.chain .le .le (.var 1) (.var 0) (.var 2)))))]⟩
def d_is_tie : Def := ⟨2, 3, false, [(.ite (.or (.not (.isi .tuple (.var 0))) (.cmp .ne (.bi .len [(.var 0)]) (.cst (.int 2)))) [(.ret (.cst (.bl false)))] []), (.ret (.and (.bi .all [(.comp (.call F_is_upto [(.var 2), (.cst (.int 0)), (.bin .sub (.var 1) (.cst (.int 1)))]) (.nm 2) (.it (.var 0)) none)]) (.cmp .lt (.idx (.var 0) (.cst (.int 0))) (.idx (.var 0) (.cst (.int 1))))))]⟩
def d_rises : Def := ⟨1, 2, false, [(.ret (.bi .all [(.comp (.cmp .lt (.idx (.var 0) (.bin .sub (.var 1) (.cst (.int 1)))) (.idx (.var 0) (.var 1))) (.nm 1) (.rng2 (.cst (.int 1)) (.bi .len [(.var 0)])) none)]))]⟩
def d_is_web : Def := ⟨1, 2, false, [(.ite (.or (.not (.isi .tuple (.var 0))) (.or (.cmp .ne (.bi .len [(.var 0)]) (.cst (.int 2))) (.not (.call F_is_upto [(.idx (.var 0) (.cst (.int 0))), (.cst (.int 1)), (.glb "MOST_PLACES" (.int 6))])))) [(.ret (.cst (.bl false)))] []), (.ite (.or (.not (.isi .tuple (.idx (.var 0) (.cst (.int 1))))) (.not (.bi .all [(.comp (.call F_is_tie [(.var 1), (.idx (.var 0) (.cst (.int 0)))]) (.nm 1) (.it (.idx (.var 0) (.cst (.int 1)))) none)]))) [(.ret (.cst (.bl false)))] []), (.ret (.call F_rises [(.idx (.var 0) (.cst (.int 1)))]))]⟩
def d_need_web : Def := ⟨1, 1, false, [(.ite (.not (.call F_is_web [(.var 0)])) [(.raise 1 none)] [])]⟩
def d_is_list : Def := ⟨1, 2, false, [(.ite (.or (.not (.isi .tuple (.var 0))) (.cmp .gt (.bi .len [(.var 0)]) (.glb "MOST_LONG" (.int 8)))) [(.ret (.cst (.bl false)))] []), (.ret (.and (.bi .all [(.comp (.call F_is_upto [(.var 1), (.cst (.int 0)), (.glb "MOST_HUE" (.int 99))]) (.nm 1) (.it (.var 0)) none)]) (.call F_rises [(.var 0)])))]⟩
def d_are_lists_of : Def := ⟨2, 3, false, [(.ret (.and (.isi .tuple (.var 0)) (.and (.cmp .eq (.bi .len [(.var 0)]) (.idx (.var 1) (.cst (.int 0)))) (.bi .all [(.comp (.call F_is_list [(.var 2)]) (.nm 2) (.it (.var 0)) none)]))))]⟩
def d_are_lists : Def := ⟨2, 2, false, [(.expr (.call F_need_web [(.var 1)])), (.ret (.call F_are_lists_of [(.var 0), (.var 1)]))]⟩
def d_are_sizes : Def := ⟨2, 3, false, [(.expr (.call F_need_web [(.var 1)])), (.ret (.and (.isi .tuple (.var 0)) (.and (.cmp .eq (.bi .len [(.var 0)]) (.idx (.var 1) (.cst (.int 0)))) (.bi .all [(.comp (.call F_is_upto [(.var 2), (.cst (.int 0)), (.glb "MOST_LONG" (.int 8))]) (.nm 2) (.it (.var 0)) none)]))))]⟩
def d__law_cell : Def := ⟨2, 2, false, [(.ite (.cmp .lt (.var 1) (.bi .len [(.var 0)])) [(.ret (.idx (.var 0) (.var 1)))] []), (.ret (.cst (.int 0)))]⟩
def d__law_mix : Def := ⟨2, 4, false, [(.asg 2 (.lst [(.cst (.int 48271)), (.cst (.int 69621)), (.cst (.int 16807)), (.cst (.int 39373)), (.cst (.int 30269)), (.cst (.int 40014)), (.cst (.int 40692)), (.cst (.int 50021)), (.cst (.int 61687)), (.cst (.int 71993)), (.cst (.int 83869)), (.cst (.int 95561)), (.cst (.int 30307))])), (.asg 3 (.bin .add (.bin .add (.bin .mul (.bin .add (.bin .mod (.var 0) (.cst (.int 2147483647))) (.cst (.int 12345))) (.idx (.var 2) (.bin .mod (.var 1) (.cst (.int 13))))) (.bin .mul (.cst (.int 977)) (.var 1))) (.bin .mul (.cst (.int 7919)) (.bin .fdiv (.var 1) (.cst (.int 13)))))), (.asg 3 (.bin .mod (.var 3) (.cst (.int 1000000007)))), (.ret (.bin .fdiv (.bin .mod (.bin .add (.bin .mul (.var 3) (.var 3)) (.bin .mul (.cst (.int 48271)) (.var 1))) (.cst (.int 1000000007))) (.cst (.int 7))))]⟩
def d__law_box : Def := ⟨2, 5, true, [(.asg 2 (.call F__law_cell [(.var 0), (.var 1)])), (.ite (.cmp .eq (.bin .mod (.var 2) (.cst (.int 2))) (.cst (.int 0))) [(.ret (.mut (.lst [(.bin .fdiv (.bi .abs [(.var 2)]) (.cst (.int 2)))])))] []), (.asg 3 (.cst (.int 0))), (.for (.nm 4) (.rng1 (.cst (.int 40))) [(.asg 3 (.bin .add (.bin .mul (.var 3) (.cst (.int 142857143))) (.call F__law_mix [(.var 2), (.var 4)])))]), (.ret (.mut (.lst [(.var 3)])))]⟩
def d__law_take : Def := ⟨2, 4, false, [(.asgT [2, 3] (.bi .divmod [(.idx (.var 0) (.cst (.int 0))), (.var 1)])), (.asgSub (.var 0) (.cst (.int 0)) (.var 2)), (.ret (.var 3))]⟩
def d__law_whole : Def := ⟨1, 1, false, [(.ret (.and (.isi .int (.var 0)) (.not (.isi .bool (.var 0)))))]⟩
def d__law_truth : Def := ⟨2, 2, false, [(.ret (.and (.isi .bool (.var 0)) (.cmp .eq (.var 0) (.var 1))))]⟩
def d__law_pairs : Def := ⟨1, 4, false, [(.asg 1 (.lst [])), (.for (.nm 2) (.rng1 (.var 0)) [(.asg 1 (.bin .add (.var 1) (.comp (.tup [(.var 2), (.var 3)]) (.nm 3) (.rng2 (.bin .add (.var 2) (.cst (.int 1))) (.var 0)) none)))]), (.ret (.var 1))]⟩
def d__law_drawn_web : Def := ⟨2, 8, false, [(.asg 2 (.bin .add (.cst (.int 1)) (.call F__law_take [(.var 0), (.var 1)]))), (.asg 3 (.call F__law_take [(.var 0), (.cst (.int 6))])), (.asg 4 (.idx (.lst [(.cst (.int 2)), (.cst (.int 4)), (.cst (.int 6)), (.cst (.int 7))]) (.call F__law_take [(.var 0), (.cst (.int 4))]))), (.asg 5 (.comp (.var 6) (.nm 6) (.it (.call F__law_pairs [(.var 2)])) (some (.cmp .lt (.call F__law_take [(.var 0), (.cst (.int 8))]) (.var 4))))), (.ite (.cmp .eq (.var 3) (.cst (.int 1))) [(.asg 5 (.comp (.tup [(.call F__law_take [(.var 0), (.var 7)]), (.var 7)]) (.nm 7) (.rng2 (.cst (.int 1)) (.var 2)) none))] []), (.ite (.and (.cmp .eq (.var 3) (.cst (.int 2))) (.cmp .gt (.var 2) (.cst (.int 2)))) [(.asg 5 (.bin .add (.comp (.tup [(.var 7), (.bin .add (.var 7) (.cst (.int 1)))]) (.nm 7) (.rng1 (.bin .sub (.var 2) (.cst (.int 1)))) none) (.lst [(.tup [(.cst (.int 0)), (.bin .sub (.var 2) (.cst (.int 1)))])])))] []), (.ite (.cmp .eq (.var 3) (.cst (.int 3))) [(.asg 5 (.comp (.var 6) (.nm 6) (.it (.call F__law_pairs [(.var 2)])) (some (.or (.cmp .ne (.bin .mod (.idx (.var 6) (.cst (.int 0))) (.cst (.int 2))) (.bin .mod (.idx (.var 6) (.cst (.int 1))) (.cst (.int 2)))) (.cmp .eq (.bin .add (.idx (.var 6) (.cst (.int 0))) (.idx (.var 6) (.cst (.int 1)))) (.var 4))))))] []), (.ret (.tup [(.var 2), (.bi .tuple [(.bi .sortedSet [(.var 5)])])]))]⟩
def d__law_drawn_list : Def := ⟨3, 5, false, [(.asg 3 (.mut (.lst []))), (.for (.nm 4) (.rng1 (.call F__law_take [(.var 0), (.bin .add (.var 1) (.cst (.int 1)))])) [(.expr (.meth .append (.var 3) [(.call F__law_take [(.var 0), (.var 2)])]))]), (.ret (.bi .tuple [(.bi .sortedSet [(.var 3)])]))]⟩
def d__law_drawn_lists : Def := ⟨2, 7, false, [(.asg 2 (.bin .add (.cst (.int 1)) (.call F__law_take [(.var 0), (.cst (.int 4))]))), (.asg 3 (.idx (.lst [(.cst (.int 2)), (.cst (.int 3)), (.cst (.int 5)), (.cst (.int 100))]) (.call F__law_take [(.var 0), (.cst (.int 4))]))), (.asg 4 (.mut (.lst []))), (.for (.nm 5) (.rng1 (.idx (.var 1) (.cst (.int 0)))) [(.asg 6 (.call F__law_drawn_list [(.var 0), (.var 2), (.var 3)])), (.ite (.and (.cmp .eq (.var 6) (.tup [])) (.cmp .gt (.call F__law_take [(.var 0), (.cst (.int 4))]) (.cst (.int 0)))) [(.asg 6 (.tup [(.call F__law_take [(.var 0), (.var 3)])]))] []), (.expr (.meth .append (.var 4) [(.var 6)]))]), (.ret (.bi .tuple [(.var 4)]))]⟩
def d__law_tied : Def := ⟨2, 5, false, [(.asg 2 (.mut (.lst []))), (.for (.tp [3, 4]) (.it (.idx (.var 0) (.cst (.int 1)))) [(.ite (.cmp .eq (.var 3) (.var 1)) [(.expr (.meth .append (.var 2) [(.var 4)]))] []), (.ite (.cmp .eq (.var 4) (.var 1)) [(.expr (.meth .append (.var 2) [(.var 3)]))] [])]), (.ret (.bi .tuple [(.bi .sorted [(.var 2)])]))]⟩
def d__law_drawn_sizes : Def := ⟨3, 7, false, [(.asg 3 (.call F__law_take [(.var 0), (.cst (.int 4))])), (.ite (.cmp .eq (.var 3) (.cst (.int 0))) [(.ret (.bin .mul (.tup [(.bin .add (.cst (.int 1)) (.call F__law_take [(.var 0), (.var 2)]))]) (.idx (.var 1) (.cst (.int 0)))))] []), (.asg 4 (.mut (.lst []))), (.for (.nm 5) (.rng1 (.idx (.var 1) (.cst (.int 0)))) [(.asg 6 (.bi .len [(.call F__law_tied [(.var 1), (.var 5)])])), (.expr (.meth .append (.var 4) [(.bi .min2 [(.cst (.int 8)), (.idx (.lst [(.call F__law_take [(.var 0), (.bin .add (.var 2) (.cst (.int 1)))]), (.var 6), (.bi .max2 [(.cst (.int 0)), (.bin .sub (.bin .add (.var 6) (.cst (.int 1))) (.call F__law_take [(.var 0), (.cst (.int 3))]))])]) (.bin .sub (.var 3) (.cst (.int 1))))])]))]), (.ret (.bi .tuple [(.var 4)]))]⟩
def d__law_thing : Def := ⟨1, 2, false, [(.asg 1 (.lst [(.cst .non), (.cst (.bl true)), (.cst (.bl false)), (.neg (.cst (.int 1))), (.cst (.str [])), (.cst (.str [49])), (.tup [(.cst (.int 0))]), (.lst [(.cst (.int 1))]), (.dic false [(.cst (.str [97])), (.cst (.int 1))]), (.tup [(.neg (.cst (.int 1)))]), (.tup [(.cst (.bl true))]), (.tup [(.tup [(.cst (.int 1))])]), (.tup [(.cst .non)]), (.bin .pow (.cst (.int 10)) (.cst (.int 29)))])), (.asg 1 (.bin .add (.var 1) (.lst [(.tup [(.cst (.int 1)), (.cst (.int 2))]), (.tup [(.cst (.int 2)), (.tup [(.tup [(.cst (.int 0)), (.cst (.int 1))])])]), (.tup [(.cst (.int 0)), (.tup [])]), (.tup [(.cst (.int 7)), (.tup [])]), (.tup [(.tup [(.cst (.int 0))]), (.tup [(.cst (.int 1))])]), (.lst []), (.tup [(.cst (.int 1)), (.lst [])])]))), (.ret (.idx (.var 1) (.call F__law_take [(.var 0), (.cst (.int 21))])))]⟩
def d__law_are_lists : Def := ⟨2, 4, false, [(.ite (.or (.not (.isi .tuple (.var 0))) (.cmp .ne (.bi .len [(.var 0)]) (.idx (.var 1) (.cst (.int 0))))) [(.ret (.cst (.bl false)))] []), (.for (.nm 2) (.it (.var 0)) [(.ite (.or (.not (.isi .tuple (.var 2))) (.or (.cmp .gt (.bi .len [(.var 2)]) (.cst (.int 8))) (.not (.bi .all [(.comp (.call F__law_whole [(.var 3)]) (.nm 3) (.it (.var 2)) none)])))) [(.ret (.cst (.bl false)))] []), (.ite (.or (.cmp .ne (.bi .list [(.var 2)]) (.bi .sortedSet [(.var 2)])) (.and (.cmp .ne (.var 2) (.tup [])) (.not (.chain3 .le .le .le (.cst (.int 0)) (.idx (.var 2) (.cst (.int 0))) (.idx (.var 2) (.neg (.cst (.int 1)))) (.cst (.int 99)))))) [(.ret (.cst (.bl false)))] [])]), (.ret (.cst (.bl true)))]⟩
def d__law_marks : Def := ⟨1, 2, false, [(.ite (.or (.not (.isx 0 (.var 0))) (.not (.isx 99 (.var 0)))) [(.ret (.cst (.str [111, 116, 104, 101, 114])))] []), (.asg 1 (.lst [(.isx 1 (.var 0)), (.isx 2 (.var 0)), (.isx 3 (.var 0)), (.isx 4 (.var 0))])), (.asg 1 (.bin .add (.var 1) (.lst [(.isx 5 (.var 0)), (.isx 6 (.var 0)), (.isx 7 (.var 0)), (.isx 11 (.var 0))]))), (.ite (.cmp .ne (.meth .count (.var 1) [(.cst (.bl true))]) (.cst (.int 1))) [(.ret (.cst (.str [111, 116, 104, 101, 114])))] []), (.ret (.idx (.lst [(.cst (.str [119, 101, 98])), (.cst (.str [108, 105, 115, 116, 115])), (.cst (.str [115, 105, 122, 101, 115])), (.cst (.str [99, 104, 111, 105, 99, 101])), (.cst (.str [110, 117, 109, 98, 101, 114])), (.cst (.str [111, 114, 100, 101, 114])), (.cst (.str [109, 97, 110, 121])), (.cst (.str [116, 101, 120, 116]))]) (.meth .index (.var 1) [(.cst (.bl true))])))]⟩
def d_need_lists : Def := ⟨2, 2, false, [(.expr (.call F_need_web [(.var 0)])), (.ite (.not (.call F_are_lists_of [(.var 1), (.var 0)])) [(.raise 2 none)] [])]⟩
def d_is_choice_of : Def := ⟨3, 7, false, [(.ite (.or (.not (.isi .tuple (.var 0))) (.cmp .ne (.bi .len [(.var 0)]) (.idx (.var 1) (.cst (.int 0))))) [(.ret (.cst (.bl false)))] []), (.for (.tp [3, 4]) (.zip (.var 0) (.var 2)) [(.ite (.or (.not (.call F_is_upto [(.var 3), (.cst (.int 0)), (.glb "MOST_HUE" (.int 99))])) (.cmp .notin (.var 3) (.var 4))) [(.ret (.cst (.bl false)))] [])]), (.ret (.bi .all [(.comp (.cmp .ne (.idx (.var 0) (.var 5)) (.idx (.var 0) (.var 6))) (.tp [5, 6]) (.it (.idx (.var 1) (.cst (.int 1)))) none)]))]⟩
def d_is_choice : Def := ⟨3, 3, false, [(.expr (.call F_need_lists [(.var 1), (.var 2)])), (.ret (.call F_is_choice_of [(.var 0), (.var 1), (.var 2)]))]⟩
def d_tied_to : Def := ⟨2, 4, false, [(.ret (.bi .tuple [(.bi .sorted [(.comp (.bin .sub (.bin .add (.var 2) (.var 3)) (.var 1)) (.tp [2, 3]) (.it (.idx (.var 0) (.cst (.int 1)))) (some (.cmp .isin (.var 1) (.tup [(.var 2), (.var 3)]))))])]))]⟩
def d_near : Def := ⟨2, 2, false, [(.expr (.call F_need_web [(.var 0)])), (.ite (.not (.call F_is_upto [(.var 1), (.cst (.int 0)), (.bin .sub (.idx (.var 0) (.cst (.int 0))) (.cst (.int 1)))])) [(.raise 5 none)] []), (.ret (.call F_tied_to [(.var 0), (.var 1)]))]⟩
def d_sizes_by : Def := ⟨1, 2, false, [(.ret (.bi .tuple [(.comp (.bi .len [(.var 1)]) (.nm 1) (.it (.var 0)) none)]))]⟩
def d_sizes_of : Def := ⟨2, 2, false, [(.expr (.call F_need_lists [(.var 0), (.var 1)])), (.ret (.call F_sizes_by [(.var 1)]))]⟩
def d_list_text : Def := ⟨1, 2, false, [(.ite (.cmp .eq (.var 0) (.tup [])) [(.ret (.cst (.str [45])))] []), (.ret (.meth .join (.cst (.str [44])) [(.comp (.bi .str [(.var 1)]) (.nm 1) (.it (.var 0)) none)]))]⟩
def d_show : Def := ⟨2, 6, false, [(.expr (.call F_need_lists [(.var 0), (.var 1)])), (.asg 2 (.bin .add (.bin .add (.lst [(.bi .str [(.idx (.var 0) (.cst (.int 0)))])]) (.comp (.bin .add (.bin .add (.bi .str [(.var 4)]) (.cst (.str [45]))) (.bi .str [(.var 5)])) (.tp [4, 5]) (.it (.idx (.var 0) (.cst (.int 1)))) none)) (.lst [(.cst (.str [58]))]))), (.ret (.meth .join (.cst (.str [32])) [(.bin .add (.var 2) (.comp (.call F_list_text [(.var 3)]) (.nm 3) (.it (.var 1)) none))]))]⟩
def d_number_in : Def := ⟨1, 2, false, [(.ite (.or (.cmp .eq (.var 0) (.cst (.str []))) (.or (.not (.bi .all [(.comp (.cmp .isin (.var 1) (.glb "FIGURES" (.str [48, 49, 50, 51, 52, 53, 54, 55, 56, 57]))) (.nm 1) (.it (.var 0)) none)])) (.cmp .gt (.bi .len [(.var 0)]) (.cst (.int 2))))) [(.ret (.cst .non))] []), (.ite (.and (.cmp .eq (.idx (.var 0) (.cst (.int 0))) (.cst (.str [48]))) (.cmp .ne (.var 0) (.cst (.str [48])))) [(.ret (.cst .non))] []), (.ret (.bi .int [(.var 0)]))]⟩
def d_tie_in : Def := ⟨3, 5, false, [(.asg 3 (.bi .tuple [(.comp (.call F_number_in [(.var 4)]) (.nm 4) (.it (.meth .split (.var 0) [(.cst (.str [45]))])) none)])), (.ite (.or (.cmp .isin (.cst .non) (.var 3)) (.or (.not (.call F_is_tie [(.var 3), (.var 1)])) (.cmp .le (.var 3) (.var 2)))) [(.ret (.cst .non))] []), (.ret (.var 3))]⟩
def d_list_in : Def := ⟨1, 3, false, [(.ite (.cmp .eq (.var 0) (.cst (.str [45]))) [(.ret (.tup []))] []), (.asg 1 (.bi .tuple [(.comp (.call F_number_in [(.var 2)]) (.nm 2) (.it (.meth .split (.var 0) [(.cst (.str [44]))])) none)])), (.ite (.or (.cmp .isin (.cst .non) (.var 1)) (.not (.call F_is_list [(.var 1)]))) [(.ret (.cst .non))] []), (.ret (.var 1))]⟩
def d_read : Def := ⟨1, 8, false, [(.ite (.not (.isi .str (.var 0))) [.never] []), (.asg 1 (.meth .split (.var 0) [(.cst (.str [32]))])), (.asg 2 (.call F_number_in [(.idx (.var 1) (.cst (.int 0)))])), (.ite (.or (.cmp .is (.var 2) (.cst .non)) (.not (.chain .le .le (.cst (.int 1)) (.var 2) (.glb "MOST_PLACES" (.int 6))))) [.never] []), (.asg 3 (.mut (.lst []))), (.asg 4 (.cst (.int 1))), (.wh (.and (.cmp .lt (.var 4) (.bi .len [(.var 1)])) (.cmp .ne (.idx (.var 1) (.var 4)) (.cst (.str [58])))) [(.asg 7 (.call F_tie_in [(.idx (.var 1) (.var 4)), (.var 2), (.idx (.or (.var 3) (.lst [(.tup [(.neg (.cst (.int 1))), (.neg (.cst (.int 1)))])])) (.neg (.cst (.int 1))))])), (.ite (.cmp .is (.var 7) (.cst .non)) [.never] []), (.expr (.meth .append (.var 3) [(.var 7)])), (.asg 4 (.bin .add (.var 4) (.cst (.int 1))))]), (.asg 5 (.mut (.lst []))), (.for (.nm 6) (.rng1 (.var 2)) [(.asg 4 (.bin .add (.var 4) (.cst (.int 1)))), (.ite (.cmp .ge (.var 4) (.bi .len [(.var 1)])) [.never] []), (.expr (.meth .append (.var 5) [(.call F_list_in [(.idx (.var 1) (.var 4))])])), (.ite (.cmp .is (.idx (.var 5) (.neg (.cst (.int 1)))) (.cst .non)) [.never] [])]), (.ite (.cmp .lt (.bin .add (.var 4) (.cst (.int 1))) (.bi .len [(.var 1)])) [.never] []), (.ret (.tup [(.tup [(.var 2), (.bi .tuple [(.var 3)])]), (.bi .tuple [(.var 5)])]))]⟩
def d_fits : Def := ⟨3, 5, false, [(.asg 3 (.bi .len [(.var 1)])), (.ret (.bi .all [(.comp (.cmp .ne (.idx (.var 1) (.var 4)) (.var 2)) (.nm 4) (.it (.call F_tied_to [(.var 0), (.var 3)])) (some (.cmp .lt (.var 4) (.var 3))))]))]⟩
def d_many_of : Def := ⟨3, 4, false, [(.ite (.cmp .eq (.bi .len [(.var 2)]) (.idx (.var 0) (.cst (.int 0)))) [(.ret (.cst (.int 1)))] []), (.ret (.bi .sum [(.comp (.call F_many_of [(.var 0), (.var 1), (.bin .add (.var 2) (.tup [(.var 3)]))]) (.nm 3) (.it (.idx (.var 1) (.bi .len [(.var 2)]))) (some (.call F_fits [(.var 0), (.var 2), (.var 3)])))]))]⟩
def d_first_of : Def := ⟨2, 5, false, [(.asg 2 (.tup [])), (.wh (.cmp .lt (.bi .len [(.var 2)]) (.idx (.var 0) (.cst (.int 0)))) [(.asg 3 (.comp (.var 4) (.nm 4) (.it (.idx (.var 1) (.bi .len [(.var 2)]))) (some (.call F_fits [(.var 0), (.var 2), (.var 4)])))), (.asg 3 (.comp (.var 4) (.nm 4) (.it (.var 3)) (some (.cmp .gt (.call F_many_of [(.var 0), (.var 1), (.bin .add (.var 2) (.tup [(.var 4)]))]) (.cst (.int 0)))))), (.ite (.cmp .eq (.var 3) (.lst [])) [(.ret (.cst .non))] []), (.asg 2 (.bin .add (.var 2) (.tup [(.idx (.var 3) (.cst (.int 0)))])))]), (.ret (.var 2))]⟩
def d_first_choice : Def := ⟨2, 2, false, [(.expr (.call F_need_lists [(.var 0), (.var 1)])), (.ret (.call F_first_of [(.var 0), (.var 1)]))]⟩
def d_choices_many : Def := ⟨2, 2, false, [(.expr (.call F_need_lists [(.var 0), (.var 1)])), (.ret (.call F_many_of [(.var 0), (.var 1), (.tup [])]))]⟩
def d__law_all_choices : Def := ⟨2, 10, false, [(.asg 2 (.lst [(.tup [])])), (.for (.nm 3) (.rng1 (.idx (.var 0) (.cst (.int 0)))) [(.asg 4 (.comp (.var 8) (.nm 8) (.it (.call F__law_tied [(.var 0), (.var 3)])) (some (.cmp .lt (.var 8) (.var 3))))), (.asg 5 (.lst [])), (.for (.nm 6) (.it (.var 2)) [(.asg 7 (.comp (.idx (.var 6) (.var 8)) (.nm 8) (.it (.var 4)) none)), (.asg 5 (.bin .add (.var 5) (.comp (.bin .add (.var 6) (.tup [(.var 9)])) (.nm 9) (.it (.idx (.var 1) (.var 3))) (some (.cmp .notin (.var 9) (.var 7))))))]), (.asg 2 (.var 5))]), (.ret (.var 2))]⟩
def d_open_hues : Def := ⟨4, 7, false, [(.asg 4 (.comp (.idx (.var 2) (.var 5)) (.nm 5) (.it (.call F_tied_to [(.var 0), (.var 3)])) (some (.cmp .isin (.var 5) (.var 2))))), (.ret (.comp (.var 6) (.nm 6) (.it (.idx (.var 1) (.var 3))) (some (.cmp .notin (.var 6) (.var 4)))))]⟩
def d_with_one : Def := ⟨3, 4, false, [(.asg 3 (.mut (.bi .dict [(.var 0)]))), (.asgSub (.var 3) (.var 1) (.var 2)), (.ret (.var 3))]⟩
def d_is_none : Def := ⟨4, 7, false, [(.ite (.or (.not (.isi .tuple (.var 0))) (.or (.cmp .lt (.bi .len [(.var 0)]) (.cst (.int 2))) (.not (.isi .str (.idx (.var 0) (.cst (.int 0))))))) [(.ret (.cst (.bl false)))] []), (.ite (.or (.not (.call F_is_upto [(.idx (.var 0) (.cst (.int 1))), (.cst (.int 0)), (.bin .sub (.idx (.var 1) (.cst (.int 0))) (.cst (.int 1)))])) (.cmp .isin (.idx (.var 0) (.cst (.int 1))) (.var 3))) [(.ret (.cst (.bl false)))] []), (.asg 4 (.call F_open_hues [(.var 1), (.var 2), (.var 3), (.idx (.var 0) (.cst (.int 1)))])), (.ite (.cmp .eq (.idx (.var 0) (.cst (.int 0))) (.cst (.str [98, 97, 114, 101]))) [(.ret (.and (.cmp .eq (.bi .len [(.var 0)]) (.cst (.int 2))) (.cmp .eq (.var 4) (.lst []))))] []), (.ite (.or (.cmp .ne (.idx (.var 0) (.cst (.int 0))) (.cst (.str [98, 121]))) (.or (.cmp .ne (.bi .len [(.var 0)]) (.cst (.int 3))) (.or (.not (.isi .tuple (.idx (.var 0) (.cst (.int 2))))) (.cmp .ne (.bi .len [(.idx (.var 0) (.cst (.int 2)))]) (.bi .len [(.var 4)]))))) [(.ret (.cst (.bl false)))] []), (.ret (.bi .all [(.comp (.call F_is_none [(.var 5), (.var 1), (.var 2), (.call F_with_one [(.var 3), (.idx (.var 0) (.cst (.int 1))), (.var 6)])]) (.tp [5, 6]) (.zip (.idx (.var 0) (.cst (.int 2))) (.var 4)) none)]))]⟩
def d_is_none_paper : Def := ⟨3, 3, false, [(.expr (.call F_need_lists [(.var 1), (.var 2)])), (.ret (.call F_is_none [(.var 0), (.var 1), (.var 2), (.dic false [])]))]⟩
def d_none_by : Def := ⟨3, 8, false, [(.asg 3 (.comp (.var 5) (.nm 5) (.rng1 (.idx (.var 0) (.cst (.int 0)))) (some (.cmp .notin (.var 5) (.var 2))))), (.asg 4 (.idx (.var 3) (.cst (.int 0)))), (.for (.nm 5) (.it (.var 3)) [(.ite (.cmp .lt (.bi .len [(.call F_open_hues [(.var 0), (.var 1), (.var 2), (.var 5)])]) (.bi .len [(.call F_open_hues [(.var 0), (.var 1), (.var 2), (.var 4)])])) [(.asg 4 (.var 5))] [])]), (.asg 6 (.call F_open_hues [(.var 0), (.var 1), (.var 2), (.var 4)])), (.ite (.cmp .eq (.var 6) (.lst [])) [(.ret (.tup [(.cst (.str [98, 97, 114, 101])), (.var 4)]))] []), (.ret (.tup [(.cst (.str [98, 121])), (.var 4), (.bi .tuple [(.comp (.call F_none_by [(.var 0), (.var 1), (.call F_with_one [(.var 2), (.var 4), (.var 7)])]) (.nm 7) (.it (.var 6)) none)])]))]⟩
def d_none_paper : Def := ⟨2, 2, false, [(.expr (.call F_need_lists [(.var 0), (.var 1)])), (.ite (.cmp .gt (.call F_many_of [(.var 0), (.var 1), (.tup [])]) (.cst (.int 0))) [(.ret (.cst .non))] []), (.ret (.call F_none_by [(.var 0), (.var 1), (.dic false [])]))]⟩
def d__law_has_choice : Def := ⟨3, 7, false, [(.asg 3 (.bi .len [(.var 2)])), (.ite (.cmp .eq (.var 3) (.idx (.var 0) (.cst (.int 0)))) [(.ret (.cst (.bl true)))] []), (.asg 4 (.comp (.idx (.var 2) (.var 6)) (.nm 6) (.it (.call F__law_tied [(.var 0), (.var 3)])) (some (.cmp .lt (.var 6) (.var 3))))), (.for (.nm 5) (.it (.idx (.var 1) (.var 3))) [(.ite (.and (.cmp .notin (.var 5) (.var 4)) (.call F__law_has_choice [(.var 0), (.var 1), (.bin .add (.var 2) (.tup [(.var 5)]))])) [(.ret (.cst (.bl true)))] [])]), (.ret (.cst (.bl false)))]⟩
def d_choice_at : Def := ⟨3, 6, false, [(.expr (.call F_need_lists [(.var 0), (.var 1)])), (.ite (.not (.call F_is_upto [(.var 2), (.cst (.int 0)), (.bin .sub (.call F_many_of [(.var 0), (.var 1), (.tup [])]) (.cst (.int 1)))])) [(.raise 5 none)] []), (.asg 3 (.tup [])), (.wh (.cmp .lt (.bi .len [(.var 3)]) (.idx (.var 0) (.cst (.int 0)))) [(.for (.nm 4) (.it (.idx (.var 1) (.bi .len [(.var 3)]))) [(.ite (.call F_fits [(.var 0), (.var 3), (.var 4)]) [(.asg 5 (.call F_many_of [(.var 0), (.var 1), (.bin .add (.var 3) (.tup [(.var 4)]))])), (.ite (.cmp .lt (.var 2) (.var 5)) [.brk] []), (.asg 2 (.bin .sub (.var 2) (.var 5)))] [])]), (.asg 3 (.bin .add (.var 3) (.tup [(.var 4)])))]), (.ret (.var 3))]⟩
def d_number_of : Def := ⟨3, 6, false, [(.expr (.call F_need_lists [(.var 0), (.var 1)])), (.ite (.not (.call F_is_choice_of [(.var 2), (.var 0), (.var 1)])) [(.raise 4 none)] []), (.asg 3 (.cst (.int 0))), (.for (.nm 4) (.rng1 (.idx (.var 0) (.cst (.int 0)))) [(.for (.nm 5) (.it (.idx (.var 1) (.var 4))) [(.ite (.and (.cmp .lt (.var 5) (.idx (.var 2) (.var 4))) (.call F_fits [(.var 0), (.slc (.var 2) none (some (.var 4))), (.var 5)])) [(.asg 3 (.bin .add (.var 3) (.call F_many_of [(.var 0), (.var 1), (.bin .add (.slc (.var 2) none (some (.var 4))) (.tup [(.var 5)]))])))] [])])]), (.ret (.var 3))]⟩
def d_begun_many : Def := ⟨3, 5, false, [(.expr (.call F_need_lists [(.var 0), (.var 1)])), (.ite (.or (.not (.isi .tuple (.var 2))) (.or (.cmp .gt (.bi .len [(.var 2)]) (.idx (.var 0) (.cst (.int 0)))) (.not (.bi .all [(.comp (.call F_is_upto [(.var 4), (.cst (.int 0)), (.glb "MOST_HUE" (.int 99))]) (.nm 4) (.it (.var 2)) none)])))) [(.raise 5 none)] []), (.for (.tp [3, 4]) (.enum (.var 2)) [(.ite (.or (.cmp .notin (.var 4) (.idx (.var 1) (.var 3))) (.not (.call F_fits [(.var 0), (.slc (.var 2) none (some (.var 3))), (.var 4)]))) [(.ret (.cst (.int 0)))] [])]), (.ret (.call F_many_of [(.var 0), (.var 1), (.var 2)]))]⟩
def d__law_sets : Def := ⟨2, 7, false, [(.asg 2 (.lst [(.tup [])])), (.for (.nm 3) (.rng1 (.var 1)) [(.asg 4 (.lst [])), (.for (.nm 5) (.it (.var 2)) [(.asg 4 (.bin .add (.var 4) (.comp (.bin .add (.var 5) (.tup [(.var 6)])) (.nm 6) (.rng1 (.var 0)) (some (.or (.cmp .eq (.var 5) (.tup [])) (.cmp .gt (.var 6) (.idx (.var 5) (.neg (.cst (.int 1))))))))))]), (.asg 2 (.var 4))]), (.ret (.var 2))]⟩
def d__law_some_bar : Def := ⟨4, 5, false, [(.ite (.cmp .eq (.bi .len [(.var 2)]) (.idx (.var 0) (.cst (.int 0)))) [(.ret (.not (.call F__law_has_choice [(.var 0), (.var 2), (.tup [])])))] []), (.for (.nm 4) (.it (.slc (.call F__law_sets [(.var 3), (.idx (.var 1) (.bi .len [(.var 2)]))]) none (some (.idx (.lst [(.cst .non), (.cst (.int 1))]) (.bi .int [(.cmp .eq (.var 2) (.tup []))]))))) [(.ite (.call F__law_some_bar [(.var 0), (.var 1), (.bin .add (.var 2) (.tup [(.var 4)])), (.var 3)]) [(.ret (.cst (.bl true)))] [])]), (.ret (.cst (.bl false)))]⟩
def d__law_left_over : Def := ⟨2, 6, false, [(.asg 2 (.mut (.bi .listRange [(.idx (.var 0) (.cst (.int 0)))]))), (.asg 3 (.lst [(.cst (.int 0))])), (.wh (.cmp .ne (.var 3) (.lst [])) [(.asg 3 (.lst [])), (.for (.nm 4) (.it (.var 2)) [(.ite (.cmp .gt (.idx (.var 1) (.var 4)) (.bi .len [(.comp (.var 5) (.nm 5) (.it (.call F__law_tied [(.var 0), (.var 4)])) (some (.cmp .isin (.var 5) (.var 2))))])) [(.asg 3 (.bin .add (.var 3) (.lst [(.var 4)])))] [])]), (.ite (.cmp .ne (.var 3) (.lst [])) [(.expr (.meth .remove (.var 2) [(.idx (.var 3) (.cst (.int 0)))]))] [])]), (.ret (.bi .tuple [(.var 2)]))]⟩
def d__law_always : Def := ⟨2, 9, false, [(.asg 2 (.call F__law_left_over [(.var 0), (.var 1)])), (.ite (.cmp .eq (.var 2) (.tup [])) [(.ret (.cst (.bl true)))] []), (.asg 3 (.comp (.var 5) (.nm 5) (.it (.idx (.var 0) (.cst (.int 1)))) (some (.and (.cmp .isin (.idx (.var 5) (.cst (.int 0))) (.var 2)) (.cmp .isin (.idx (.var 5) (.cst (.int 1))) (.var 2)))))), (.asg 4 (.tup [(.bi .len [(.var 2)]), (.bi .tuple [(.comp (.tup [(.meth .index (.var 2) [(.var 6)]), (.meth .index (.var 2) [(.var 7)])]) (.tp [6, 7]) (.it (.var 3)) none)])])), (.ret (.not (.call F__law_some_bar [(.var 4), (.bi .tuple [(.comp (.idx (.var 1) (.var 8)) (.nm 8) (.it (.var 2)) none)]), (.tup []), (.bin .sub (.bi .len [(.var 2)]) (.cst (.int 1)))])))]⟩
def d_need_sizes : Def := ⟨2, 2, false, [(.ite (.not (.call F_are_sizes [(.var 1), (.var 0)])) [(.raise 3 none)] [])]⟩
def d_peeled : Def := ⟨2, 8, false, [(.asg 2 (.mut (.bi .listRange [(.idx (.var 0) (.cst (.int 0)))]))), (.asg 3 (.mut (.lst []))), (.asg 4 (.cst (.bl true))), (.wh (.var 4) [(.asg 5 (.mut (.lst []))), (.for (.nm 6) (.it (.var 2)) [(.ite (.cmp .gt (.idx (.var 1) (.var 6)) (.bi .len [(.comp (.var 7) (.nm 7) (.it (.call F_tied_to [(.var 0), (.var 6)])) (some (.cmp .isin (.var 7) (.var 2))))])) [(.expr (.meth .append (.var 5) [(.var 6)]))] [])]), (.asg 4 (.cmp .ne (.var 5) (.lst []))), (.ite (.var 4) [(.expr (.meth .insert (.var 3) [(.cst (.int 0)), (.idx (.var 5) (.cst (.int 0)))])), (.expr (.meth .remove (.var 2) [(.idx (.var 5) (.cst (.int 0)))]))] [])]), (.ret (.tup [(.bi .tuple [(.var 3)]), (.bi .tuple [(.var 2)])]))]⟩
def d_narrowness : Def := ⟨1, 2, false, [(.expr (.call F_need_web [(.var 0)])), (.asg 1 (.cst (.int 1))), (.wh (.cmp .ne (.idx (.call F_peeled [(.var 0), (.bin .mul (.tup [(.var 1)]) (.idx (.var 0) (.cst (.int 0))))]) (.cst (.int 1))) (.tup [])) [(.asg 1 (.bin .add (.var 1) (.cst (.int 1))))]), (.ret (.var 1))]⟩
def d_need_small : Def := ⟨1, 1, false, [(.ite (.cmp .gt (.idx (.var 0) (.cst (.int 0))) (.glb "MOST_HERE" (.int 5))) [(.raise 7 none)] [])]⟩
def d_sets_of : Def := ⟨2, 7, false, [(.asg 2 (.lst [(.tup [])])), (.for (.nm 3) (.rng1 (.var 1)) [(.asg 4 (.mut (.lst []))), (.for (.nm 5) (.it (.var 2)) [(.expr (.meth .extend (.var 4) [(.comp (.bin .add (.var 5) (.tup [(.var 6)])) (.nm 6) (.rng1 (.var 0)) (some (.or (.cmp .eq (.var 5) (.tup [])) (.cmp .gt (.var 6) (.idx (.var 5) (.neg (.cst (.int 1))))))))]))]), (.asg 2 (.var 4))]), (.ret (.var 2))]⟩
def d_part_web : Def := ⟨2, 5, false, [(.asg 2 (.comp (.tup [(.meth .index (.var 1) [(.var 3)]), (.meth .index (.var 1) [(.var 4)])]) (.tp [3, 4]) (.it (.idx (.var 0) (.cst (.int 1)))) (some (.and (.cmp .isin (.var 3) (.var 1)) (.cmp .isin (.var 4) (.var 1)))))), (.ret (.tup [(.bi .len [(.var 1)]), (.bi .tuple [(.var 2)])]))]⟩
def d_bar_here : Def := ⟨3, 6, false, [(.ite (.cmp .eq (.bi .len [(.var 2)]) (.idx (.var 0) (.cst (.int 0)))) [(.ite (.cmp .is (.call F_first_of [(.var 0), (.var 2)]) (.cst .non)) [(.ret (.var 2))] []), (.ret (.cst .non))] []), (.asg 3 (.call F_sets_of [(.bin .sub (.idx (.var 0) (.cst (.int 0))) (.cst (.int 1))), (.idx (.var 1) (.bi .len [(.var 2)]))])), (.ite (.cmp .eq (.var 2) (.tup [])) [(.asg 3 (.slc (.var 3) none (some (.cst (.int 1)))))] []), (.for (.nm 4) (.it (.var 3)) [(.asg 5 (.call F_bar_here [(.var 0), (.var 1), (.bin .add (.var 2) (.tup [(.var 4)]))])), (.ite (.cmp .isnot (.var 5) (.cst .non)) [(.ret (.var 5))] [])]), (.ret (.cst .non))]⟩
def d_bar_of : Def := ⟨2, 7, false, [(.asg 2 (.idx (.call F_peeled [(.var 0), (.var 1)]) (.cst (.int 1)))), (.ite (.cmp .eq (.var 2) (.tup [])) [(.ret (.cst .non))] []), (.asg 3 (.comp (.idx (.var 1) (.var 6)) (.nm 6) (.it (.var 2)) none)), (.asg 4 (.call F_bar_here [(.call F_part_web [(.var 0), (.var 2)]), (.var 3), (.tup [])])), (.ite (.cmp .is (.var 4) (.cst .non)) [(.ret (.cst .non))] []), (.asg 5 (.mut (.lst []))), (.for (.nm 6) (.rng1 (.idx (.var 0) (.cst (.int 0)))) [(.expr (.meth .append (.var 5) [(.ite (.cmp .isin (.var 6) (.var 2)) (.idx (.var 4) (.meth .index (.var 2) [(.var 6)])) (.bi .tupRange [(.idx (.var 1) (.var 6))]))]))]), (.ret (.bi .tuple [(.var 5)]))]⟩
def d_need_asked : Def := ⟨2, 2, false, [(.expr (.call F_need_sizes [(.var 0), (.var 1)])), (.expr (.call F_need_small [(.var 0)]))]⟩
def d_always : Def := ⟨2, 2, false, [(.expr (.call F_need_asked [(.var 0), (.var 1)])), (.ret (.cmp .is (.call F_bar_of [(.var 0), (.var 1)]) (.cst .non)))]⟩
def d_is_bar : Def := ⟨3, 3, false, [(.expr (.call F_need_asked [(.var 1), (.var 2)])), (.ret (.and (.call F_are_lists_of [(.var 0), (.var 1)]) (.and (.cmp .eq (.call F_sizes_by [(.var 0)]) (.var 2)) (.cmp .is (.call F_first_of [(.var 1), (.var 0)]) (.cst .non)))))]⟩
def d_bar_for : Def := ⟨2, 2, false, [(.expr (.call F_need_asked [(.var 0), (.var 1)])), (.ret (.call F_bar_of [(.var 0), (.var 1)]))]⟩
def d_least_length : Def := ⟨1, 2, false, [(.expr (.call F_need_web [(.var 0)])), (.expr (.call F_need_small [(.var 0)])), (.asg 1 (.cst (.int 1))), (.wh (.cmp .isnot (.call F_bar_of [(.var 0), (.bin .mul (.tup [(.var 1)]) (.idx (.var 0) (.cst (.int 0))))]) (.cst .non)) [(.asg 1 (.bin .add (.var 1) (.cst (.int 1))))]), (.ret (.var 1))]⟩
def d_hues_many : Def := ⟨1, 2, false, [(.expr (.call F_need_web [(.var 0)])), (.expr (.call F_need_small [(.var 0)])), (.asg 1 (.cst (.int 1))), (.wh (.cmp .is (.call F_first_of [(.var 0), (.bin .mul (.tup [(.bi .tupRange [(.var 1)])]) (.idx (.var 0) (.cst (.int 0))))]) (.cst .non)) [(.asg 1 (.bin .add (.var 1) (.cst (.int 1))))]), (.ret (.var 1))]⟩
def d_is_order_of : Def := ⟨3, 7, false, [(.ite (.or (.not (.isi .tuple (.var 0))) (.not (.bi .all [(.comp (.call F_is_upto [(.var 5), (.cst (.int 0)), (.bin .sub (.idx (.var 1) (.cst (.int 0))) (.cst (.int 1)))]) (.nm 5) (.it (.var 0)) none)]))) [(.ret (.cst (.bl false)))] []), (.ite (.cmp .ne (.bi .sorted [(.var 0)]) (.bi .listRange [(.idx (.var 1) (.cst (.int 0)))])) [(.ret (.cst (.bl false)))] []), (.for (.tp [3, 4]) (.enum (.var 0)) [(.ite (.cmp .le (.idx (.var 2) (.var 4)) (.bi .len [(.comp (.var 6) (.nm 6) (.it (.call F_tied_to [(.var 1), (.var 4)])) (some (.cmp .isin (.var 6) (.slc (.var 0) none (some (.var 3))))))])) [(.ret (.cst (.bl false)))] [])]), (.ret (.cst (.bl true)))]⟩
def d_is_order : Def := ⟨3, 3, false, [(.expr (.call F_need_sizes [(.var 1), (.var 2)])), (.ret (.call F_is_order_of [(.var 0), (.var 1), (.var 2)]))]⟩
def d_order_for : Def := ⟨2, 4, false, [(.expr (.call F_need_sizes [(.var 0), (.var 1)])), (.asgT [2, 3] (.call F_peeled [(.var 0), (.var 1)])), (.ite (.cmp .ne (.var 3) (.tup [])) [(.ret (.cst .non))] []), (.ret (.var 2))]⟩
def d__law_mixed_up : Def := ⟨2, 4, false, [(.asg 2 (.mut (.bi .list [(.var 1)]))), (.asg 3 (.mut (.lst []))), (.wh (.cmp .ne (.var 2) (.lst [])) [(.expr (.meth .append (.var 3) [(.meth .pop1 (.var 2) [(.call F__law_take [(.var 0), (.bi .len [(.var 2)])])])]))]), (.ret (.var 3))]⟩
def d__law_is_order : Def := ⟨3, 7, false, [(.ite (.or (.not (.isi .tuple (.var 0))) (.not (.bi .all [(.comp (.call F__law_whole [(.var 6)]) (.nm 6) (.it (.var 0)) none)]))) [(.ret (.cst (.bl false)))] []), (.ite (.cmp .ne (.bi .sorted [(.var 0)]) (.bi .listRange [(.idx (.var 1) (.cst (.int 0)))])) [(.ret (.cst (.bl false)))] []), (.for (.nm 3) (.rng1 (.idx (.var 1) (.cst (.int 0)))) [(.asg 4 (.comp (.var 5) (.nm 5) (.it (.call F__law_tied [(.var 1), (.idx (.var 0) (.var 3))])) (some (.cmp .isin (.var 5) (.slc (.var 0) none (some (.var 3))))))), (.ite (.cmp .le (.idx (.var 2) (.idx (.var 0) (.var 3))) (.bi .len [(.var 4)])) [(.ret (.cst (.bl false)))] [])]), (.ret (.cst (.bl true)))]⟩
def d_core : Def := ⟨2, 2, false, [(.expr (.call F_need_sizes [(.var 0), (.var 1)])), (.ret (.idx (.call F_peeled [(.var 0), (.var 1)]) (.cst (.int 1))))]⟩
def d_choice_by : Def := ⟨3, 8, false, [(.expr (.call F_need_lists [(.var 0), (.var 1)])), (.ite (.not (.call F_is_order_of [(.var 2), (.var 0), (.call F_sizes_by [(.var 1)])])) [(.raise 6 none)] []), (.asg 3 (.mut (.dic false []))), (.for (.nm 4) (.it (.var 2)) [(.asg 5 (.comp (.idx (.var 3) (.var 6)) (.nm 6) (.it (.call F_tied_to [(.var 0), (.var 4)])) (some (.cmp .isin (.var 6) (.var 3))))), (.asgSub (.var 3) (.var 4) (.idx (.comp (.var 7) (.nm 7) (.it (.idx (.var 1) (.var 4))) (some (.cmp .notin (.var 7) (.var 5)))) (.cst (.int 0))))]), (.ret (.bi .tuple [(.comp (.idx (.var 3) (.var 4)) (.nm 4) (.rng1 (.idx (.var 0) (.cst (.int 0)))) none)]))]⟩
def d__law_all_terms : Def := ⟨1, 12, false, [(.asg 1 (.dic false [(.bin .mul (.tup [(.cst (.int 0))]) (.idx (.var 0) (.cst (.int 0)))), (.tup [(.cst (.int 1)), (.cst (.int 0))])])), (.for (.tp [2, 3]) (.it (.idx (.var 0) (.cst (.int 1)))) [(.asg 4 (.mut (.dic false []))), (.for (.nm 5) (.it (.var 1)) [(.asgT [6, 7] (.idx (.var 1) (.var 5))), (.for (.tp [8, 9]) (.it (.tup [(.tup [(.var 2), (.tup [(.var 6), (.var 7)])]), (.tup [(.var 3), (.tup [(.var 7), (.var 6)])])])) [(.asg 10 (.bin .add (.bin .add (.slc (.var 5) none (some (.var 8))) (.tup [(.bin .add (.idx (.var 5) (.var 8)) (.cst (.int 1)))])) (.slc (.var 5) (some (.bin .add (.var 8) (.cst (.int 1)))) none))), (.asg 11 (.meth .get2 (.var 4) [(.var 10), (.tup [(.cst (.int 0)), (.cst (.int 0))])])), (.asgSub (.var 4) (.var 10) (.tup [(.bin .add (.idx (.var 11) (.cst (.int 0))) (.idx (.var 9) (.cst (.int 0)))), (.bin .add (.idx (.var 11) (.cst (.int 1))) (.idx (.var 9) (.cst (.int 1))))]))])]), (.asg 1 (.var 4))]), (.ret (.var 1))]⟩
def d_is_from_nought : Def := ⟨1, 1, false, [(.ret (.and (.isi .int (.var 0)) (.and (.not (.isi .bool (.var 0))) (.cmp .ge (.var 0) (.cst (.int 0))))))]⟩
def d_need_few : Def := ⟨1, 1, false, [(.ite (.cmp .gt (.bi .len [(.idx (.var 0) (.cst (.int 1)))]) (.glb "MOST_TIES" (.int 10))) [(.raise 7 none)] [])]⟩
def d_raised : Def := ⟨2, 2, false, [(.ret (.bin .add (.bin .add (.slc (.var 0) none (some (.var 1))) (.tup [(.bin .add (.idx (.var 0) (.var 1)) (.cst (.int 1)))])) (.slc (.var 0) (some (.bin .add (.var 1) (.cst (.int 1)))) none)))]⟩
def d_terms_of : Def := ⟨1, 9, false, [(.asg 1 (.dic false [(.bin .mul (.tup [(.cst (.int 0))]) (.idx (.var 0) (.cst (.int 0)))), (.cst (.int 1))])), (.for (.tp [2, 3]) (.it (.idx (.var 0) (.cst (.int 1)))) [(.asg 4 (.mut (.dic false []))), (.for (.nm 5) (.it (.var 1)) [(.for (.tp [6, 7]) (.it (.tup [(.tup [(.var 2), (.cst (.int 1))]), (.tup [(.var 3), (.neg (.cst (.int 1)))])])) [(.asg 8 (.call F_raised [(.var 5), (.var 6)])), (.asgSub (.var 4) (.var 8) (.bin .add (.meth .get2 (.var 4) [(.var 8), (.cst (.int 0))]) (.bin .mul (.var 7) (.idx (.var 1) (.var 5)))))])]), (.asg 1 (.bi .dict [(.comp (.tup [(.var 5), (.idx (.var 4) (.var 5))]) (.nm 5) (.it (.var 4)) (some (.cmp .ne (.idx (.var 4) (.var 5)) (.cst (.int 0)))))]))]), (.ret (.var 1))]⟩
def d_terms : Def := ⟨1, 1, false, [(.expr (.call F_need_web [(.var 0)])), (.expr (.call F_need_few [(.var 0)])), (.ret (.call F_terms_of [(.var 0)]))]⟩
def d_are_powers : Def := ⟨2, 3, false, [(.ret (.and (.isi .tuple (.var 0)) (.and (.cmp .eq (.bi .len [(.var 0)]) (.idx (.var 1) (.cst (.int 0)))) (.bi .all [(.comp (.call F_is_from_nought [(.var 2)]) (.nm 2) (.it (.var 0)) none)]))))]⟩
def d_need_powers : Def := ⟨2, 2, false, [(.expr (.call F_need_web [(.var 0)])), (.ite (.not (.call F_are_powers [(.var 1), (.var 0)])) [(.raise 5 none)] []), (.expr (.call F_need_few [(.var 0)]))]⟩
def d_term : Def := ⟨2, 2, false, [(.expr (.call F_need_powers [(.var 0), (.var 1)])), (.ret (.meth .get2 (.call F_terms_of [(.var 0)]) [(.var 1), (.cst (.int 0))]))]⟩
def d_lesser : Def := ⟨2, 4, false, [(.ret (.bi .all [(.comp (.cmp .lt (.var 2) (.var 3)) (.tp [2, 3]) (.zip (.var 0) (.var 1)) none)]))]⟩
def d_is_term_paper : Def := ⟨3, 3, false, [(.expr (.call F_need_sizes [(.var 1), (.var 2)])), (.expr (.call F_need_few [(.var 1)])), (.ret (.and (.call F_are_powers [(.var 0), (.var 1)]) (.and (.call F_lesser [(.var 0), (.var 2)]) (.cmp .isin (.var 0) (.call F_terms_of [(.var 1)])))))]⟩
def d_term_for : Def := ⟨2, 4, false, [(.expr (.call F_need_sizes [(.var 0), (.var 1)])), (.expr (.call F_need_few [(.var 0)])), (.asg 2 (.comp (.var 3) (.nm 3) (.it (.call F_terms_of [(.var 0)])) (some (.call F_lesser [(.var 3), (.var 1)])))), (.ite (.cmp .eq (.var 2) (.lst [])) [(.ret (.cst .non))] []), (.ret (.bi .min1 [(.var 2)]))]⟩
def d_runs_many : Def := ⟨2, 9, false, [(.expr (.call F_need_powers [(.var 0), (.var 1)])), (.asg 2 (.dic false [(.tup [(.bin .mul (.tup [(.cst (.int 0))]) (.idx (.var 0) (.cst (.int 0)))), (.cst (.int 0))]), (.cst (.int 1))])), (.for (.tp [3, 4]) (.it (.idx (.var 0) (.cst (.int 1)))) [(.asg 5 (.mut (.dic false []))), (.for (.tp [6, 7]) (.it (.var 2)) [(.for (.nm 8) (.it (.tup [(.tup [(.call F_raised [(.var 6), (.var 3)]), (.var 7)]), (.tup [(.call F_raised [(.var 6), (.var 4)]), (.bin .sub (.cst (.int 1)) (.var 7))])])) [(.asgSub (.var 5) (.var 8) (.bin .add (.meth .get2 (.var 5) [(.var 8), (.cst (.int 0))]) (.idx (.var 2) (.tup [(.var 6), (.var 7)]))))])]), (.asg 2 (.var 5))]), (.ret (.tup [(.meth .get2 (.var 2) [(.tup [(.var 1), (.cst (.int 0))]), (.cst (.int 0))]), (.meth .get2 (.var 2) [(.tup [(.var 1), (.cst (.int 1))]), (.cst (.int 0))])]))]⟩
def d__law_few_ties : Def := ⟨1, 1, false, [(.ret (.tup [(.idx (.var 0) (.cst (.int 0))), (.slc (.idx (.var 0) (.cst (.int 1))) none (some (.cst (.int 10))))]))]⟩
def d_are_tie_lists_of : Def := ⟨2, 3, false, [(.ret (.and (.isi .tuple (.var 0)) (.and (.cmp .eq (.bi .len [(.var 0)]) (.bi .len [(.idx (.var 1) (.cst (.int 1)))])) (.bi .all [(.comp (.call F_is_list [(.var 2)]) (.nm 2) (.it (.var 0)) none)]))))]⟩
def d_are_tie_lists : Def := ⟨2, 2, false, [(.expr (.call F_need_web [(.var 1)])), (.ret (.call F_are_tie_lists_of [(.var 0), (.var 1)]))]⟩
def d__law_classes : Def := ⟨1, 2, false, [(.asg 1 (.lst [(.isx 1 (.var 0)), (.isx 2 (.var 0)), (.isx 3 (.var 0)), (.isx 4 (.var 0))])), (.asg 1 (.bin .add (.var 1) (.lst [(.isx 5 (.var 0)), (.isx 6 (.var 0)), (.isx 7 (.var 0)), (.isx 8 (.var 0))]))), (.ret (.bin .add (.var 1) (.lst [(.isx 9 (.var 0)), (.isx 10 (.var 0)), (.isx 11 (.var 0))])))]⟩
def d__law_only : Def := ⟨2, 3, false, [(.ite (.or (.not (.isx 0 (.var 0))) (.not (.isx 99 (.var 0)))) [(.ret (.cst (.bl false)))] []), (.ret (.cmp .eq (.call F__law_classes [(.var 0)]) (.comp (.cmp .eq (.var 2) (.var 1)) (.nm 2) (.rng1 (.cst (.int 11))) none)))]⟩
def d_need_tie_lists : Def := ⟨2, 2, false, [(.expr (.call F_need_web [(.var 0)])), (.ite (.not (.call F_are_tie_lists_of [(.var 1), (.var 0)])) [(.raise 2 none)] [])]⟩
def d_meet : Def := ⟨2, 2, false, [(.ret (.or (.cmp .isin (.idx (.var 0) (.cst (.int 0))) (.var 1)) (.cmp .isin (.idx (.var 0) (.cst (.int 1))) (.var 1))))]⟩
def d_may_have : Def := ⟨3, 6, false, [(.asg 3 (.idx (.idx (.var 0) (.cst (.int 1))) (.bi .len [(.var 1)]))), (.ret (.not (.bi .any [(.comp (.and (.cmp .eq (.var 4) (.var 2)) (.call F_meet [(.var 5), (.var 3)])) (.tp [4, 5]) (.zip (.var 1) (.idx (.var 0) (.cst (.int 1)))) none)])))]⟩
def d_first_from : Def := ⟨3, 5, false, [(.ite (.cmp .eq (.bi .len [(.var 2)]) (.bi .len [(.idx (.var 0) (.cst (.int 1)))])) [(.ret (.var 2))] []), (.for (.nm 3) (.it (.idx (.var 1) (.bi .len [(.var 2)]))) [(.ite (.call F_may_have [(.var 0), (.var 2), (.var 3)]) [(.asg 4 (.call F_first_from [(.var 0), (.var 1), (.bin .add (.var 2) (.tup [(.var 3)]))])), (.ite (.cmp .isnot (.var 4) (.cst .non)) [(.ret (.var 4))] [])] [])]), (.ret (.cst .non))]⟩
def d_first_tie_choice : Def := ⟨2, 2, false, [(.expr (.call F_need_tie_lists [(.var 0), (.var 1)])), (.ret (.call F_first_from [(.var 0), (.var 1), (.tup [])]))]⟩
def d_many_from : Def := ⟨3, 5, false, [(.ite (.cmp .eq (.bi .len [(.var 2)]) (.bi .len [(.idx (.var 0) (.cst (.int 1)))])) [(.ret (.cst (.int 1)))] []), (.asg 3 (.comp (.var 4) (.nm 4) (.it (.idx (.var 1) (.bi .len [(.var 2)]))) (some (.call F_may_have [(.var 0), (.var 2), (.var 4)])))), (.ret (.bi .sum [(.comp (.call F_many_from [(.var 0), (.var 1), (.bin .add (.var 2) (.tup [(.var 4)]))]) (.nm 4) (.it (.var 3)) none)]))]⟩
def d_tie_choices_many : Def := ⟨2, 2, false, [(.expr (.call F_need_tie_lists [(.var 0), (.var 1)])), (.ret (.call F_many_from [(.var 0), (.var 1), (.tup [])]))]⟩
def d__law_box_v2 : Def := ⟨2, 6, true, [(.asg 2 (.bin .add (.bin .mul (.cst (.int 7919)) (.var 1)) (.cst (.int 13)))), (.ite (.cmp .lt (.var 1) (.bi .len [(.var 0)])) [(.asg 2 (.idx (.var 0) (.var 1)))] []), (.ite (.cmp .eq (.bin .mod (.var 2) (.cst (.int 2))) (.cst (.int 0))) [(.ret (.mut (.lst [(.bin .fdiv (.var 2) (.cst (.int 2)))])))] []), (.asg 3 (.cst (.int 0))), (.for (.nm 4) (.rng1 (.cst (.int 16))) [(.asg 5 (.bin .mod (.bin .add (.bin .add (.bin .mul (.bin .mod (.var 2) (.cst (.int 2147483647))) (.cst (.int 48271))) (.bin .mul (.cst (.int 7919)) (.var 4))) (.cst (.int 1))) (.cst (.int 2147483647)))), (.asg 5 (.bin .mod (.bin .mul (.var 5) (.var 5)) (.cst (.int 2147483629)))), (.asg 3 (.bin .add (.bin .mul (.var 3) (.cst (.int 2147483647))) (.bin .mod (.bin .mul (.var 5) (.bin .add (.var 5) (.cst (.int 13)))) (.cst (.int 2147483647)))))]), (.ret (.mut (.lst [(.var 3)])))]⟩
def d__law_web : Def := ⟨3, 18, false, [(.asg 3 (.bin .add (.var 1) (.call F__law_take [(.var 0), (.bin .add (.bin .sub (.var 2) (.var 1)) (.cst (.int 1)))]))), (.asg 4 (.call F__law_take [(.var 0), (.cst (.int 7))])), (.asg 5 (.idx (.lst [(.cst (.int 1)), (.cst (.int 2)), (.cst (.int 3))]) (.call F__law_take [(.var 0), (.cst (.int 3))]))), (.asg 6 (.mut (.lst []))), (.for (.nm 7) (.rng2 (.cst (.int 1)) (.var 3)) [(.asg 11 (.call F__law_take [(.var 0), (.var 7)])), (.for (.nm 12) (.rng1 (.var 7)) [(.asg 14 (.cmp .lt (.call F__law_take [(.var 0), (.cst (.int 4))]) (.var 5))), (.asg 15 (.and (.cmp .isin (.bin .sub (.var 7) (.var 12)) (.tup [(.cst (.int 1)), (.bin .sub (.var 3) (.cst (.int 1)))])) (.cmp .eq (.var 4) (.cst (.int 2))))), (.asg 16 (.and (.cmp .eq (.bin .mod (.bin .add (.var 12) (.var 7)) (.cst (.int 2))) (.cst (.int 1))) (.and (.cmp .eq (.var 4) (.cst (.int 4))) (.var 14)))), (.asg 17 (.or (.cmp .eq (.var 12) (.var 11)) (.and (.cmp .eq (.var 4) (.cst (.int 5))) (.and (.cmp .eq (.bin .mod (.var 7) (.cst (.int 2))) (.cst (.int 0))) (.cmp .eq (.var 12) (.bin .sub (.var 7) (.cst (.int 1)))))))), (.ite (.or (.and (.cmp .isin (.var 4) (.tup [(.cst (.int 1)), (.cst (.int 5))])) (.var 17)) (.and (.cmp .isin (.var 4) (.tup [(.cst (.int 0)), (.cst (.int 6))])) (.var 14))) [(.expr (.meth .append (.var 6) [(.tup [(.var 12), (.var 7)])]))] [(.ite (.or (.var 15) (.or (.cmp .eq (.var 4) (.cst (.int 3))) (.var 16))) [(.expr (.meth .append (.var 6) [(.tup [(.var 12), (.var 7)])]))] [])])])]), (.asg 8 (.mut (.bi .listRange [(.var 3)]))), (.for (.nm 9) (.rng1 (.bin .mul (.var 3) (.bi .int [(.cmp .gt (.var 4) (.cst (.int 0)))]))) [(.asg 13 (.call F__law_take [(.var 0), (.var 3)])), (.swp (.var 8) (.var 9) (.var 8) (.var 13) (.idx (.var 8) (.var 13)) (.idx (.var 8) (.var 9)))]), (.asg 10 (.mut (.lst []))), (.for (.tp [12, 7]) (.it (.var 6)) [(.expr (.meth .append (.var 10) [(.tup [(.bi .min2 [(.idx (.var 8) (.var 12)), (.idx (.var 8) (.var 7))]), (.bi .max2 [(.idx (.var 8) (.var 12)), (.idx (.var 8) (.var 7))])])]))]), (.ret (.tup [(.var 3), (.bi .tuple [(.bi .sorted [(.var 10)])])]))]⟩
def d__law_lists : Def := ⟨4, 8, false, [(.asg 4 (.mut (.lst []))), (.for (.nm 5) (.rng1 (.var 1)) [(.asg 6 (.comp (.call F__law_take [(.var 0), (.var 3)]) (.nm 7) (.rng1 (.call F__law_take [(.var 0), (.bin .add (.var 2) (.cst (.int 1)))])) none)), (.expr (.meth .append (.var 4) [(.bi .tuple [(.bi .sortedSet [(.var 6)])])]))]), (.ret (.bi .tuple [(.var 4)]))]⟩
def d__law_meet : Def := ⟨2, 2, false, [(.ret (.or (.cmp .isin (.idx (.var 0) (.cst (.int 0))) (.var 1)) (.cmp .isin (.idx (.var 0) (.cst (.int 1))) (.var 1))))]⟩
def d__law_tie_choices : Def := ⟨2, 9, false, [(.asg 2 (.lst [(.tup [])])), (.for (.nm 3) (.rng1 (.bi .len [(.idx (.var 0) (.cst (.int 1)))])) [(.asg 4 (.lst [])), (.for (.nm 5) (.it (.var 2)) [(.asg 6 (.comp (.idx (.var 5) (.var 7)) (.nm 7) (.rng1 (.var 3)) (some (.call F__law_meet [(.idx (.idx (.var 0) (.cst (.int 1))) (.var 7)), (.idx (.idx (.var 0) (.cst (.int 1))) (.var 3))])))), (.asg 4 (.bin .add (.var 4) (.comp (.bin .add (.var 5) (.tup [(.var 8)])) (.nm 8) (.it (.idx (.var 1) (.var 3))) (some (.cmp .notin (.var 8) (.var 6))))))]), (.asg 2 (.var 4))]), (.ret (.var 2))]⟩
def d_width_of : Def := ⟨1, 2, false, [(.ret (.bi .max1 [(.comp (.bi .len [(.call F_tied_to [(.var 0), (.var 1)])]) (.nm 1) (.rng1 (.idx (.var 0) (.cst (.int 0)))) none)]))]⟩
def d_width : Def := ⟨1, 1, false, [(.expr (.call F_need_web [(.var 0)])), (.ret (.call F_width_of [(.var 0)]))]⟩
def d_part_of : Def := ⟨1, 9, false, [(.asg 1 (.mut (.dic false []))), (.for (.nm 2) (.rng1 (.idx (.var 0) (.cst (.int 0)))) [(.ite (.cmp .notin (.var 2) (.var 1)) [(.asgSub (.var 1) (.var 2) (.cst (.int 0))), (.asg 3 (.mut (.lst [(.var 2)]))), (.wh (.cmp .ne (.var 3) (.lst [])) [(.asg 4 (.meth .pop1 (.var 3) [(.cst (.int 0))])), (.for (.nm 5) (.it (.call F_tied_to [(.var 0), (.var 4)])) [(.ite (.cmp .notin (.var 5) (.var 1)) [(.asgSub (.var 1) (.var 5) (.bin .sub (.cst (.int 1)) (.idx (.var 1) (.var 4)))), (.expr (.meth .append (.var 3) [(.var 5)]))] [])])])] [])]), (.ite (.bi .any [(.comp (.cmp .eq (.idx (.var 1) (.var 7)) (.idx (.var 1) (.var 8))) (.tp [7, 8]) (.it (.idx (.var 0) (.cst (.int 1)))) none)]) [(.ret (.cst .non))] []), (.ret (.bi .tuple [(.comp (.var 6) (.nm 6) (.rng1 (.idx (.var 0) (.cst (.int 0)))) (some (.cmp .eq (.idx (.var 1) (.var 6)) (.cst (.int 0)))))]))]⟩
def d_first_part : Def := ⟨1, 1, false, [(.expr (.call F_need_web [(.var 0)])), (.ret (.call F_part_of [(.var 0)]))]⟩
def d__law_near : Def := ⟨2, 4, false, [(.ret (.comp (.bin .sub (.bin .add (.var 2) (.var 3)) (.var 1)) (.tp [2, 3]) (.it (.idx (.var 0) (.cst (.int 1)))) (some (.cmp .isin (.var 1) (.tup [(.var 2), (.var 3)])))))]⟩
def d__law_part : Def := ⟨1, 8, false, [(.asg 1 (.mut (.dic false []))), (.for (.nm 2) (.rng1 (.idx (.var 0) (.cst (.int 0)))) [(.ite (.cmp .notin (.var 2) (.var 1)) [(.asgSub (.var 1) (.var 2) (.cst (.int 0))), (.asg 3 (.mut (.lst [(.var 2)]))), (.wh (.cmp .ne (.var 3) (.lst [])) [(.asg 4 (.meth .pop0 (.var 3) [])), (.for (.nm 5) (.it (.call F__law_near [(.var 0), (.var 4)])) [(.ite (.cmp .notin (.var 5) (.var 1)) [(.asgSub (.var 1) (.var 5) (.bin .sub (.cst (.int 1)) (.idx (.var 1) (.var 4)))), (.expr (.meth .append (.var 3) [(.var 5)]))] [])])])] [])]), (.ite (.cmp .ne (.comp (.var 6) (.nm 6) (.it (.idx (.var 0) (.cst (.int 1)))) (some (.cmp .eq (.idx (.var 1) (.idx (.var 6) (.cst (.int 0)))) (.idx (.var 1) (.idx (.var 6) (.cst (.int 1))))))) (.lst [])) [(.ret (.cst .non))] []), (.ret (.bi .tuple [(.comp (.var 7) (.nm 7) (.rng1 (.idx (.var 0) (.cst (.int 0)))) (some (.cmp .eq (.idx (.var 1) (.var 7)) (.cst (.int 0)))))]))]⟩
def d__law_two_sided : Def := ⟨2, 8, false, [(.asg 2 (.bin .add (.cst (.int 1)) (.call F__law_take [(.var 0), (.var 1)]))), (.asg 3 (.comp (.call F__law_take [(.var 0), (.cst (.int 2))]) (.nm 7) (.rng1 (.var 2)) none)), (.asg 4 (.mut (.lst []))), (.for (.nm 5) (.rng1 (.var 2)) [(.for (.nm 6) (.rng1 (.var 5)) [(.ite (.and (.cmp .ne (.idx (.var 3) (.var 6)) (.idx (.var 3) (.var 5))) (.cmp .gt (.call F__law_take [(.var 0), (.cst (.int 5))]) (.cst (.int 0)))) [(.expr (.meth .append (.var 4) [(.tup [(.var 6), (.var 5)])]))] [])])]), (.ret (.tup [(.var 2), (.bi .tuple [(.bi .sorted [(.var 4)])])]))]⟩
def d_need_two_sided : Def := ⟨1, 1, false, [(.expr (.call F_need_web [(.var 0)])), (.ite (.cmp .is (.call F_part_of [(.var 0)]) (.cst .non)) [(.raise 8 none)] [])]⟩
def d_are_ranks : Def := ⟨2, 6, false, [(.ite (.or (.not (.isi .tuple (.var 0))) (.or (.cmp .ne (.bi .len [(.var 0)]) (.bi .len [(.idx (.var 1) (.cst (.int 1)))])) (.not (.bi .all [(.comp (.call F_is_from_nought [(.var 5)]) (.nm 5) (.it (.var 0)) none)])))) [(.ret (.cst (.bl false)))] []), (.for (.tp [2, 3]) (.enum (.idx (.var 1) (.cst (.int 1)))) [(.for (.nm 4) (.rng1 (.var 2)) [(.ite (.and (.cmp .eq (.idx (.var 0) (.var 4)) (.idx (.var 0) (.var 2))) (.call F_meet [(.var 3), (.idx (.idx (.var 1) (.cst (.int 1))) (.var 4))])) [(.ret (.cst (.bl false)))] [])])]), (.ret (.cst (.bl true)))]⟩
def d_are_some : Def := ⟨2, 3, false, [(.ite (.or (.not (.isi .tuple (.var 0))) (.not (.bi .all [(.comp (.call F_is_upto [(.var 2), (.cst (.int 0)), (.bin .sub (.bi .len [(.idx (.var 1) (.cst (.int 1)))]) (.cst (.int 1)))]) (.nm 2) (.it (.var 0)) none)]))) [(.ret (.cst (.bl false)))] []), (.ret (.call F_rises [(.var 0)]))]⟩
def d_need_some : Def := ⟨3, 3, false, [(.expr (.call F_need_two_sided [(.var 0)])), (.ite (.not (.call F_are_ranks [(.var 1), (.var 0)])) [(.raise 8 none)] []), (.ite (.not (.call F_are_some [(.var 2), (.var 0)])) [(.raise 5 none)] [])]⟩
def d_ends : Def := ⟨3, 5, false, [(.asgT [3, 4] (.idx (.idx (.var 0) (.cst (.int 1))) (.var 2))), (.ret (.ite (.cmp .isin (.var 3) (.var 1)) (.tup [(.var 3), (.var 4)]) (.tup [(.var 4), (.var 3)])))]⟩
def d_is_beaten : Def := ⟨4, 10, false, [(.asg 4 (.call F_part_of [(.var 0)])), (.asgT [6, 7] (.call F_ends [(.var 0), (.var 4), (.var 2)])), (.for (.nm 5) (.it (.var 3)) [(.asgT [8, 9] (.call F_ends [(.var 0), (.var 4), (.var 5)])), (.ite (.or (.and (.cmp .eq (.var 8) (.var 6)) (.cmp .gt (.idx (.var 1) (.var 5)) (.idx (.var 1) (.var 2)))) (.and (.cmp .eq (.var 9) (.var 7)) (.cmp .lt (.idx (.var 1) (.var 5)) (.idx (.var 1) (.var 2))))) [(.ret (.cst (.bl true)))] [])]), (.ret (.cst (.bl false)))]⟩
def d_is_stable : Def := ⟨4, 6, false, [(.expr (.call F_need_some [(.var 1), (.var 2), (.var 3)])), (.ite (.or (.not (.call F_are_some [(.var 0), (.var 1)])) (.bi .any [(.comp (.cmp .notin (.var 4) (.var 3)) (.nm 4) (.it (.var 0)) none)])) [(.ret (.cst (.bl false)))] []), (.for (.nm 4) (.it (.var 0)) [(.ite (.bi .any [(.comp (.and (.cmp .ne (.var 4) (.var 5)) (.call F_meet [(.idx (.idx (.var 1) (.cst (.int 1))) (.var 4)), (.idx (.idx (.var 1) (.cst (.int 1))) (.var 5))])) (.nm 5) (.it (.var 0)) none)]) [(.ret (.cst (.bl false)))] [])]), (.ret (.bi .all [(.comp (.or (.cmp .isin (.var 4) (.var 0)) (.call F_is_beaten [(.var 1), (.var 2), (.var 4), (.var 0)])) (.nm 4) (.it (.var 3)) none)]))]⟩
def d_stable_of : Def := ⟨3, 14, false, [(.asg 3 (.call F_part_of [(.var 0)])), (.asg 4 (.bi .sorted [(.comp (.tup [(.bin .sub (.cst (.int 0)) (.idx (.var 1) (.var 9))), (.var 9)]) (.nm 9) (.it (.var 2)) none)])), (.asg 5 (.mut (.dic false []))), (.asg 6 (.mut (.comp (.var 9) (.tp [10, 9]) (.it (.var 4)) none))), (.asg 7 (.mut (.dic false []))), (.asg 8 (.cst (.bl true))), (.wh (.var 8) [(.asg 8 (.cst (.bl false))), (.for (.nm 9) (.it (.bi .list [(.var 6)])) [(.asgT [11, 12] (.call F_ends [(.var 0), (.var 3), (.var 9)])), (.ite (.cmp .isin (.var 11) (.var 7)) [.cnt] []), (.expr (.meth .remove (.var 6) [(.var 9)])), (.asg 8 (.cst (.bl true))), (.ite (.or (.cmp .notin (.var 12) (.var 5)) (.cmp .gt (.idx (.var 1) (.idx (.var 5) (.var 12))) (.idx (.var 1) (.var 9)))) [(.ite (.cmp .isin (.var 12) (.var 5)) [(.expr (.meth .pop1 (.var 7) [(.idx (.call F_ends [(.var 0), (.var 3), (.idx (.var 5) (.var 12))]) (.cst (.int 0)))]))] []), (.asgSub (.var 5) (.var 12) (.var 9)), (.asgSub (.var 7) (.var 11) (.cst (.bl true)))] []), .brk])]), (.ret (.bi .tuple [(.bi .sorted [(.comp (.idx (.var 5) (.var 13)) (.nm 13) (.it (.var 5)) none)])]))]⟩
def d_stable_ones : Def := ⟨3, 3, false, [(.expr (.call F_need_some [(.var 0), (.var 1), (.var 2)])), (.ret (.call F_stable_of [(.var 0), (.var 1), (.var 2)]))]⟩
def d_lots_many : Def := ⟨1, 9, false, [(.asg 1 (.lst [(.tup [])])), (.for (.nm 2) (.rng1 (.idx (.var 0) (.cst (.int 0)))) [(.asg 3 (.mut (.lst []))), (.for (.nm 4) (.it (.var 1)) [(.for (.tp [6, 7]) (.enum (.var 4)) [(.ite (.not (.bi .any [(.comp (.cmp .isin (.tup [(.var 8), (.var 2)]) (.idx (.var 0) (.cst (.int 1)))) (.nm 8) (.it (.var 7)) none)])) [(.expr (.meth .append (.var 3) [(.bin .add (.bin .add (.slc (.var 4) none (some (.var 6))) (.tup [(.bin .add (.var 7) (.tup [(.var 2)]))])) (.slc (.var 4) (some (.bin .add (.var 6) (.cst (.int 1)))) none))]))] [])]), (.expr (.meth .append (.var 3) [(.bin .add (.var 4) (.tup [(.tup [(.var 2)])]))]))]), (.asg 1 (.var 3))]), (.ret (.comp (.bi .len [(.comp (.cst (.int 1)) (.nm 4) (.it (.var 1)) (some (.cmp .eq (.bi .len [(.var 4)]) (.var 5))))]) (.nm 5) (.rng1 (.bin .add (.idx (.var 0) (.cst (.int 0))) (.cst (.int 1)))) none))]⟩
def d_times : Def := ⟨2, 5, false, [(.asg 2 (.mut (.bin .add (.lst [(.cst (.int 0))]) (.var 0)))), (.for (.tp [3, 4]) (.enum (.var 0)) [(.asgSub (.var 2) (.var 3) (.bin .sub (.idx (.var 2) (.var 3)) (.bin .mul (.var 1) (.var 4))))]), (.ret (.var 2))]⟩
def d_sum_of : Def := ⟨1, 7, false, [(.asg 1 (.mut (.bin .mul (.lst [(.cst (.int 0))]) (.bin .add (.idx (.var 0) (.cst (.int 0))) (.cst (.int 1)))))), (.asg 2 (.lst [(.cst (.int 1))])), (.for (.tp [3, 4]) (.enum (.call F_lots_many [(.var 0)])) [(.for (.tp [5, 6]) (.enum (.var 2)) [(.asgSub (.var 1) (.var 5) (.bin .add (.idx (.var 1) (.var 5)) (.bin .mul (.var 4) (.var 6))))]), (.asg 2 (.call F_times [(.var 2), (.var 3)]))]), (.ret (.bi .tuple [(.var 1)]))]⟩
def d_worth_at : Def := ⟨2, 4, false, [(.asg 2 (.cst (.int 0))), (.for (.nm 3) (.it (.rev (.var 0))) [(.asg 2 (.bin .add (.bin .mul (.var 2) (.var 1)) (.var 3)))]), (.ret (.var 2))]⟩
def d_count_at : Def := ⟨2, 2, false, [(.expr (.call F_need_web [(.var 0)])), (.ite (.or (.not (.isi .int (.var 1))) (.isi .bool (.var 1))) [(.raise 5 none)] []), (.ret (.call F_worth_at [(.call F_sum_of [(.var 0)]), (.var 1)]))]⟩
def d__law_odd : Def := ⟨1, 2, false, [(.asg 1 (.lst [(.cst .non), (.cst (.bl true)), (.cst (.bl false)), (.neg (.cst (.int 1))), (.cst (.int 2)), (.cst (.str [])), (.cst (.str [49])), (.tup [(.cst (.int 0))]), (.lst [(.cst (.int 1))]), (.dic false [(.cst (.str [97])), (.cst (.int 1))]), (.tup [(.neg (.cst (.int 1)))]), (.tup [(.cst (.bl true))]), (.tup [(.tup [(.cst (.int 1))])]), (.tup [(.cst .non)]), (.bin .pow (.cst (.int 10)) (.cst (.int 29))), (.lst [])])), (.ret (.idx (.var 1) (.call F__law_take [(.var 0), (.cst (.int 16))])))]⟩
def d__law_no_web : Def := ⟨1, 2, false, [(.asg 1 (.lst [(.cst .non), (.tup [(.cst (.int 0)), (.tup [])]), (.tup [(.cst (.int 7)), (.tup [])]), (.tup [(.cst (.int 2)), (.tup [(.tup [(.cst (.int 1)), (.cst (.int 0))])])]), (.tup [(.cst (.int 2)), (.tup [(.tup [(.cst (.int 0)), (.cst (.int 1))]), (.tup [(.cst (.int 0)), (.cst (.int 1))])])]), (.tup [(.cst (.int 3)), (.lst [(.tup [(.cst (.int 0)), (.cst (.int 1))])])])])), (.asg 1 (.bin .add (.var 1) (.lst [(.tup [(.cst (.bl true)), (.tup [])]), (.tup [(.cst (.int 2)), (.tup [(.tup [(.cst (.int 0)), (.cst (.int 2))])])]), (.tup [(.cst (.int 3)), (.tup [(.tup [(.cst (.int 1)), (.cst (.int 2))]), (.tup [(.cst (.int 0)), (.cst (.int 1))])])]), (.lst [(.cst (.int 1)), (.tup [])]), (.tup [(.cst (.int 2))]), (.cst (.str [50]))]))), (.ret (.idx (.bin .add (.var 1) (.lst [(.tup [(.cst (.int 2)), (.tup [(.tup [(.cst (.int 0)), (.cst (.int 1)), (.cst (.int 1))])])]), (.tup [(.cst (.int 2)), (.tup [(.tup [(.cst (.int 0)), (.cst (.bl true))])])]), (.cst (.int 5)), (.dic false [])])) (.call F__law_take [(.var 0), (.cst (.int 16))])))]⟩
def d_is_tie_choice : Def := ⟨3, 5, false, [(.expr (.call F_need_tie_lists [(.var 1), (.var 2)])), (.ite (.or (.not (.isi .tuple (.var 0))) (.cmp .ne (.bi .len [(.var 0)]) (.bi .len [(.idx (.var 1) (.cst (.int 1)))]))) [(.ret (.cst (.bl false)))] []), (.for (.tp [3, 4]) (.enum (.var 0)) [(.ite (.or (.not (.call F_is_upto [(.var 4), (.cst (.int 0)), (.glb "MOST_HUE" (.int 99))])) (.or (.cmp .notin (.var 4) (.idx (.var 2) (.var 3))) (.not (.call F_may_have [(.var 1), (.slc (.var 0) none (some (.var 3))), (.var 4)])))) [(.ret (.cst (.bl false)))] [])]), (.ret (.cst (.bl true)))]⟩
def d_long_choice : Def := ⟨2, 9, false, [(.expr (.call F_need_two_sided [(.var 0)])), (.ite (.not (.call F_are_tie_lists_of [(.var 1), (.var 0)])) [(.raise 2 none)] []), (.asg 2 (.call F_width_of [(.var 0)])), (.ite (.bi .any [(.comp (.cmp .lt (.bi .len [(.var 8)]) (.var 2)) (.nm 8) (.it (.var 1)) none)]) [(.raise 9 none)] []), (.asg 3 (.call F_first_from [(.var 0), (.bin .mul (.tup [(.bi .tupRange [(.var 2)])]) (.bi .len [(.idx (.var 0) (.cst (.int 1)))])), (.tup [])])), (.asg 4 (.mut (.dic false []))), (.for (.nm 5) (.rng1 (.cst (.int 100))) [(.asg 6 (.comp (.var 7) (.nm 7) (.rng1 (.bi .len [(.idx (.var 0) (.cst (.int 1)))])) (some (.and (.cmp .notin (.var 7) (.var 4)) (.cmp .isin (.var 5) (.idx (.var 1) (.var 7))))))), (.for (.nm 7) (.it (.call F_stable_of [(.var 0), (.var 3), (.bi .tuple [(.var 6)])])) [(.asgSub (.var 4) (.var 7) (.var 5))])]), (.ret (.bi .tuple [(.comp (.idx (.var 4) (.var 7)) (.nm 7) (.rng1 (.bi .len [(.idx (.var 0) (.cst (.int 1)))])) none)]))]⟩
def d_no_rounds_many : Def := ⟨1, 1, false, [(.expr (.call F_need_web [(.var 0)])), (.ret (.bi .abs [(.call F_worth_at [(.call F_sum_of [(.var 0)]), (.neg (.cst (.int 1)))])]))]⟩
def d_longer : Def := ⟨2, 7, false, [(.asg 2 (.mut (.lst []))), (.for (.tp [3, 4]) (.it (.var 0)) [(.asg 5 (.ite (.cmp .ne (.var 3) (.tup [])) (.bin .add (.idx (.var 3) (.neg (.cst (.int 1)))) (.cst (.int 1))) (.cst (.int 0)))), (.expr (.meth .extend (.var 2) [(.comp (.tup [(.bin .add (.var 3) (.tup [(.var 6)])), (.bi .max2 [(.var 4), (.var 6)])]) (.nm 6) (.rng2 (.var 5) (.var 1)) (some (.cmp .le (.var 6) (.bin .add (.var 4) (.cst (.int 1))))))]))]), (.ret (.var 2))]⟩
def d_lists_from : Def := ⟨3, 9, false, [(.ite (.cmp .eq (.var 0) (.cst (.int 0))) [(.ret (.lst [(.tup [])]))] []), (.asg 3 (.lst [(.tup [(.tup []), (.var 2)])])), (.for (.nm 4) (.rng1 (.var 1)) [(.asg 3 (.call F_longer [(.var 3), (.bin .add (.bin .add (.var 2) (.var 1)) (.cst (.int 1)))]))]), (.asg 5 (.mut (.lst []))), (.for (.tp [6, 7]) (.it (.var 3)) [(.expr (.meth .extend (.var 5) [(.comp (.bin .add (.tup [(.var 6)]) (.var 8)) (.nm 8) (.it (.call F_lists_from [(.bin .sub (.var 0) (.cst (.int 1))), (.var 1), (.var 7)])) none)]))]), (.ret (.var 5))]⟩
def d_best_of : Def := ⟨2, 5, false, [(.asg 2 (.cst .non)), (.for (.nm 3) (.it (.call F_lists_from [(.idx (.var 0) (.cst (.int 0))), (.var 1), (.neg (.cst (.int 1)))])) [(.asg 4 (.call F_many_of [(.var 0), (.var 3), (.tup [])])), (.ite (.or (.cmp .is (.var 2) (.cst .non)) (.cmp .lt (.var 4) (.idx (.var 2) (.cst (.int 0))))) [(.asg 2 (.tup [(.var 4), (.var 3)]))] [])]), (.ret (.var 2))]⟩
def d_need_asked_v2 : Def := ⟨2, 2, false, [(.expr (.call F_need_web [(.var 0)])), (.ite (.not (.call F_is_upto [(.var 1), (.cst (.int 1)), (.cst (.int 2))])) [(.raise 5 none)] []), (.ite (.cmp .gt (.idx (.var 0) (.cst (.int 0))) (.glb "MOST_PLACES_HERE" (.int 4))) [(.raise 7 none)] [])]⟩
def d_fewest : Def := ⟨2, 2, false, [(.expr (.call F_need_asked_v2 [(.var 0), (.var 1)])), (.ret (.idx (.call F_best_of [(.var 0), (.var 1)]) (.cst (.int 0))))]⟩
def d_fewest_lists : Def := ⟨2, 2, false, [(.expr (.call F_need_asked_v2 [(.var 0), (.var 1)])), (.ret (.idx (.call F_best_of [(.var 0), (.var 1)]) (.cst (.int 1))))]⟩
def d__law_choices : Def := ⟨2, 9, false, [(.asg 2 (.lst [(.tup [])])), (.for (.nm 3) (.rng1 (.idx (.var 0) (.cst (.int 0)))) [(.asg 4 (.lst [])), (.for (.nm 5) (.it (.var 2)) [(.asg 6 (.comp (.idx (.var 5) (.var 7)) (.nm 7) (.it (.call F__law_near [(.var 0), (.var 3)])) (some (.cmp .lt (.var 7) (.var 3))))), (.asg 4 (.bin .add (.var 4) (.comp (.bin .add (.var 5) (.tup [(.var 8)])) (.nm 8) (.it (.idx (.var 1) (.var 3))) (some (.cmp .notin (.var 8) (.var 6))))))]), (.asg 2 (.var 4))]), (.ret (.var 2))]⟩
def d_powers_of : Def := ⟨1, 1, false, [(.expr (.call F_need_web [(.var 0)])), (.ret (.call F_sum_of [(.var 0)]))]⟩
def d_pieces_of : Def := ⟨1, 7, false, [(.asg 1 (.mut (.lst []))), (.asg 2 (.bi .listRange [(.idx (.var 0) (.cst (.int 0)))])), (.wh (.cmp .ne (.var 2) (.lst [])) [(.asg 3 (.mut (.lst [(.idx (.var 2) (.cst (.int 0)))]))), (.asg 4 (.cst (.int 0))), (.wh (.cmp .lt (.var 4) (.bi .len [(.var 3)])) [(.expr (.meth .extend (.var 3) [(.comp (.var 6) (.nm 6) (.it (.call F_tied_to [(.var 0), (.idx (.var 3) (.var 4))])) (some (.cmp .notin (.var 6) (.var 3))))])), (.asg 4 (.bin .add (.var 4) (.cst (.int 1))))]), (.expr (.meth .append (.var 1) [(.bi .tuple [(.bi .sorted [(.var 3)])])])), (.asg 2 (.comp (.var 5) (.nm 5) (.it (.var 2)) (some (.cmp .notin (.var 5) (.var 3)))))]), (.ret (.var 1))]⟩
def d_pieces : Def := ⟨1, 1, false, [(.expr (.call F_need_web [(.var 0)])), (.ret (.call F_pieces_of [(.var 0)]))]⟩
def d_pieces_v2 : Def := ⟨1, 1, true, [(.expr (.call F_need_web [(.var 0)])), (.ret (.call F_pieces_of [(.var 0)]))]⟩
def d_taken_by : Def := ⟨4, 8, false, [(.asg 4 (.mut (.lst []))), (.for (.tp [5, 6]) (.enum (.var 1)) [(.ite (.cmp .eq (.var 5) (.var 2)) [(.asg 6 (.tup [(.var 3)]))] [(.ite (.cmp .isin (.var 5) (.call F_tied_to [(.var 0), (.var 2)])) [(.asg 6 (.bi .tuple [(.comp (.var 7) (.nm 7) (.it (.var 6)) (some (.cmp .ne (.var 7) (.var 3))))]))] [])]), (.expr (.meth .append (.var 4) [(.var 6)]))]), (.ret (.bi .tuple [(.var 4)]))]⟩
def d_sure_of : Def := ⟨2, 6, true, [(.asg 2 (.mut (.lst []))), (.asg 3 (.mut (.lst []))), (.wh (.cmp .notin (.tup []) (.var 1)) [(.asg 4 (.comp (.var 5) (.nm 5) (.rng1 (.idx (.var 0) (.cst (.int 0)))) (some (.and (.cmp .eq (.bi .len [(.idx (.var 1) (.var 5))]) (.cst (.int 1))) (.cmp .notin (.var 5) (.var 3)))))), (.ite (.cmp .eq (.var 4) (.lst [])) [(.ret (.tup [(.var 2), (.var 1)]))] []), (.expr (.meth .append (.var 3) [(.idx (.var 4) (.cst (.int 0)))])), (.expr (.meth .append (.var 2) [(.tup [(.idx (.var 4) (.cst (.int 0))), (.idx (.idx (.var 1) (.idx (.var 4) (.cst (.int 0)))) (.cst (.int 0)))])])), (.asg 1 (.call F_taken_by [(.var 0), (.var 1), (.idx (.var 4) (.cst (.int 0))), (.idx (.idx (.var 2) (.neg (.cst (.int 1)))) (.cst (.int 1)))]))]), (.ret (.tup [(.var 2), (.var 1)]))]⟩
def d_sure : Def := ⟨2, 2, true, [(.expr (.call F_need_lists [(.var 0), (.var 1)])), (.ret (.call F_sure_of [(.var 0), (.var 1)]))]⟩
def d_taken : Def := ⟨4, 4, false, [(.expr (.call F_need_lists [(.var 0), (.var 1)])), (.ite (.or (.not (.call F_is_upto [(.var 2), (.cst (.int 0)), (.bin .sub (.idx (.var 0) (.cst (.int 0))) (.cst (.int 1)))])) (.or (.not (.call F_is_upto [(.var 3), (.cst (.int 0)), (.glb "MOST_HUE" (.int 99))])) (.cmp .notin (.var 3) (.idx (.var 1) (.var 2))))) [(.raise 5 none)] []), (.ret (.call F_taken_by [(.var 0), (.var 1), (.var 2), (.var 3)]))]⟩
def d_named : Def := ⟨3, 7, false, [(.expr (.call F_need_lists [(.var 0), (.var 1)])), (.asg 3 (.bi .max1 [(.bin .add (.comp (.bin .add (.bi .max1 [(.var 4)]) (.cst (.int 1))) (.nm 4) (.it (.var 1)) (some (.cmp .ne (.var 4) (.tup [])))) (.lst [(.cst (.int 0))]))])), (.ite (.or (.not (.isi .tuple (.var 2))) (.or (.cmp .ne (.bi .len [(.var 2)]) (.var 3)) (.not (.bi .all [(.comp (.call F_is_upto [(.var 5), (.cst (.int 0)), (.glb "MOST_HUE" (.int 99))]) (.nm 5) (.it (.var 2)) none)])))) [(.raise 5 none)] []), (.ite (.cmp .ne (.bi .lenSet [(.var 2)]) (.var 3)) [(.raise 5 none)] []), (.ret (.bi .tuple [(.comp (.bi .tuple [(.bi .sorted [(.comp (.idx (.var 2) (.var 6)) (.nm 6) (.it (.var 4)) none)])]) (.nm 4) (.it (.var 1)) none)]))]⟩
def d_without : Def := ⟨3, 6, false, [(.expr (.call F_need_lists [(.var 0), (.var 1)])), (.ite (.or (.cmp .lt (.idx (.var 0) (.cst (.int 0))) (.cst (.int 2))) (.not (.call F_is_upto [(.var 2), (.cst (.int 0)), (.bin .sub (.idx (.var 0) (.cst (.int 0))) (.cst (.int 1)))]))) [(.raise 5 none)] []), (.asg 3 (.mut (.lst []))), (.for (.tp [4, 5]) (.it (.idx (.var 0) (.cst (.int 1)))) [(.ite (.cmp .notin (.var 2) (.tup [(.var 4), (.var 5)])) [(.expr (.meth .append (.var 3) [(.tup [(.bin .sub (.var 4) (.bi .int [(.cmp .gt (.var 4) (.var 2))])), (.bin .sub (.var 5) (.bi .int [(.cmp .gt (.var 5) (.var 2))]))])]))] [])]), (.ret (.tup [(.tup [(.bin .sub (.idx (.var 0) (.cst (.int 0))) (.cst (.int 1))), (.bi .tuple [(.var 3)])]), (.bin .add (.slc (.var 1) none (some (.var 2))) (.slc (.var 1) (some (.bin .add (.var 2) (.cst (.int 1)))) none))]))]⟩
def d_sure_of_v2 : Def := ⟨2, 6, false, [(.asg 2 (.mut (.lst []))), (.asg 3 (.mut (.lst []))), (.wh (.cmp .notin (.tup []) (.var 1)) [(.asg 4 (.comp (.var 5) (.nm 5) (.rng1 (.idx (.var 0) (.cst (.int 0)))) (some (.and (.cmp .eq (.bi .len [(.idx (.var 1) (.var 5))]) (.cst (.int 1))) (.cmp .notin (.var 5) (.var 3)))))), (.ite (.cmp .eq (.var 4) (.lst [])) [(.ret (.tup [(.var 2), (.var 1)]))] []), (.expr (.meth .append (.var 3) [(.idx (.var 4) (.cst (.int 0)))])), (.expr (.meth .append (.var 2) [(.tup [(.idx (.var 4) (.cst (.int 0))), (.idx (.idx (.var 1) (.idx (.var 4) (.cst (.int 0)))) (.cst (.int 0)))])])), (.asg 1 (.call F_taken_by [(.var 0), (.var 1), (.idx (.var 4) (.cst (.int 0))), (.idx (.idx (.var 2) (.neg (.cst (.int 1)))) (.cst (.int 1)))]))]), (.ret (.tup [(.var 2), (.var 1)]))]⟩
def d_sure_v2 : Def := ⟨2, 2, false, [(.expr (.call F_need_lists [(.var 0), (.var 1)])), (.ret (.call F_sure_of_v2 [(.var 0), (.var 1)]))]⟩
def d_come_to : Def := ⟨3, 6, false, [(.asg 3 (.mut (.lst [(.var 1)]))), (.asg 4 (.cst (.int 0))), (.wh (.cmp .lt (.var 4) (.bi .len [(.var 3)])) [(.expr (.meth .extend (.var 3) [(.comp (.var 5) (.nm 5) (.it (.call F_tied_to [(.var 0), (.idx (.var 3) (.var 4))])) (some (.and (.cmp .notin (.var 5) (.var 3)) (.cmp .ne (.var 5) (.var 2)))))])), (.asg 4 (.bin .add (.var 4) (.cst (.int 1))))]), (.ret (.var 3))]⟩
def d_joins : Def := ⟨3, 7, false, [(.asg 3 (.idx (.comp (.var 6) (.nm 6) (.it (.var 1)) (some (.cmp .isin (.var 6) (.var 2)))) (.cst (.int 0)))), (.par [4, 5] [(.bin .sub (.bi .sum [(.var 1)]) (.var 3)), (.bin .sub (.bi .sum [(.var 2)]) (.var 3))]), (.ret (.cmp .isin (.var 5) (.call F_come_to [(.var 0), (.var 4), (.var 3)])))]⟩
def d_blocks_of : Def := ⟨1, 10, false, [(.asg 1 (.mut (.comp (.lst [(.var 6)]) (.nm 6) (.it (.idx (.var 0) (.cst (.int 1)))) none))), (.for (.nm 2) (.it (.idx (.var 0) (.cst (.int 1)))) [(.for (.nm 5) (.it (.idx (.var 0) (.cst (.int 1)))) [(.ite (.and (.cmp .lt (.var 2) (.var 5)) (.and (.or (.cmp .isin (.idx (.var 2) (.cst (.int 0))) (.var 5)) (.cmp .isin (.idx (.var 2) (.cst (.int 1))) (.var 5))) (.call F_joins [(.var 0), (.var 2), (.var 5)]))) [(.asg 8 (.idx (.comp (.var 4) (.nm 4) (.it (.var 1)) (some (.cmp .isin (.var 2) (.var 4)))) (.cst (.int 0)))), (.asg 9 (.idx (.comp (.var 4) (.nm 4) (.it (.var 1)) (some (.cmp .isin (.var 5) (.var 4)))) (.cst (.int 0)))), (.ite (.cmp .ne (.var 8) (.var 9)) [(.expr (.meth .remove (.var 1) [(.var 9)])), (.expr (.meth .extend (.var 8) [(.var 9)]))] [])] [])])]), (.asg 3 (.mut (.comp (.tup [(.var 7)]) (.nm 7) (.rng1 (.idx (.var 0) (.cst (.int 0)))) (some (.cmp .eq (.call F_tied_to [(.var 0), (.var 7)]) (.tup [])))))), (.for (.nm 4) (.it (.var 1)) [(.expr (.meth .append (.var 3) [(.bi .tuple [(.bi .sortedSet [(.bin .add (.comp (.idx (.var 6) (.cst (.int 0))) (.nm 6) (.it (.var 4)) none) (.comp (.idx (.var 6) (.cst (.int 1))) (.nm 6) (.it (.var 4)) none))])])]))]), (.ret (.bi .sorted [(.var 3)]))]⟩
def d_blocks : Def := ⟨1, 1, false, [(.expr (.call F_need_web [(.var 0)])), (.ret (.call F_blocks_of [(.var 0)]))]⟩
def d_within : Def := ⟨2, 3, false, [(.ret (.comp (.var 2) (.nm 2) (.it (.idx (.var 0) (.cst (.int 1)))) (some (.and (.cmp .isin (.idx (.var 2) (.cst (.int 0))) (.var 1)) (.cmp .isin (.idx (.var 2) (.cst (.int 1))) (.var 1))))))]⟩
def d_is_full : Def := ⟨2, 2, false, [(.ret (.cmp .eq (.bin .mul (.cst (.int 2)) (.bi .len [(.call F_within [(.var 0), (.var 1)])])) (.bin .mul (.bi .len [(.var 1)]) (.bin .sub (.bi .len [(.var 1)]) (.cst (.int 1))))))]⟩
def d_is_plain : Def := ⟨2, 5, false, [(.ite (.call F_is_full [(.var 0), (.var 1)]) [(.ret (.cst (.bl true)))] []), (.asg 2 (.call F_within [(.var 0), (.var 1)])), (.ite (.cmp .eq (.bin .mod (.bi .len [(.var 1)]) (.cst (.int 2))) (.cst (.int 0))) [(.ret (.cst (.bl false)))] []), (.ret (.bi .all [(.comp (.cmp .eq (.bi .len [(.comp (.var 4) (.nm 4) (.it (.var 2)) (some (.cmp .isin (.var 3) (.var 4))))]) (.cst (.int 2))) (.nm 3) (.it (.var 1)) none)]))]⟩
def d_plain_blocks : Def := ⟨1, 2, false, [(.expr (.call F_need_web [(.var 0)])), (.ret (.comp (.call F_is_plain [(.var 0), (.var 1)]) (.nm 1) (.it (.call F_blocks_of [(.var 0)])) none))]⟩
def d__law_box_v3 : Def := ⟨2, 6, false, [(.asg 2 (.bin .add (.bin .mul (.cst (.int 7919)) (.var 1)) (.cst (.int 13)))), (.ite (.cmp .lt (.var 1) (.bi .len [(.var 0)])) [(.asg 2 (.idx (.var 0) (.var 1)))] []), (.ite (.cmp .eq (.bin .mod (.var 2) (.cst (.int 2))) (.cst (.int 0))) [(.ret (.lst [(.bin .fdiv (.var 2) (.cst (.int 2)))]))] []), (.asg 3 (.cst (.int 0))), (.for (.nm 4) (.rng1 (.cst (.int 16))) [(.asg 5 (.bin .mod (.bin .add (.bin .add (.bin .mul (.bin .mod (.var 2) (.cst (.int 2147483647))) (.cst (.int 48271))) (.bin .mul (.cst (.int 7919)) (.var 4))) (.cst (.int 1))) (.cst (.int 2147483647)))), (.asg 5 (.bin .mod (.bin .mul (.var 5) (.var 5)) (.cst (.int 2147483629)))), (.asg 3 (.bin .add (.bin .mul (.var 3) (.cst (.int 2147483647))) (.bin .mod (.bin .mul (.var 5) (.bin .add (.var 5) (.cst (.int 13)))) (.cst (.int 2147483647)))))]), (.ret (.lst [(.var 3)]))]⟩
def d__law_plain : Def := ⟨2, 5, false, [(.asg 2 (.comp (.var 4) (.nm 4) (.it (.idx (.var 0) (.cst (.int 1)))) (some (.and (.cmp .isin (.idx (.var 4) (.cst (.int 0))) (.var 1)) (.cmp .isin (.idx (.var 4) (.cst (.int 1))) (.var 1)))))), (.asg 3 (.bi .len [(.var 1)])), (.ret (.or (.cmp .eq (.bin .mul (.cst (.int 2)) (.bi .len [(.var 2)])) (.bin .mul (.var 3) (.bin .sub (.var 3) (.cst (.int 1))))) (.and (.cmp .eq (.bin .mod (.var 3) (.cst (.int 2))) (.cst (.int 1))) (.cmp .eq (.bi .len [(.var 2)]) (.var 3)))))]⟩
def d_sizes_near : Def := ⟨1, 2, false, [(.ret (.bi .tuple [(.comp (.bi .len [(.call F_tied_to [(.var 0), (.var 1)])]) (.nm 1) (.rng1 (.idx (.var 0) (.cst (.int 0)))) none)]))]⟩
def d_near_sizes : Def := ⟨1, 1, false, [(.expr (.call F_need_web [(.var 0)])), (.ret (.call F_sizes_near [(.var 0)]))]⟩
def d_plain_piece : Def := ⟨1, 4, false, [(.for (.nm 1) (.it (.call F_pieces_of [(.var 0)])) [(.asg 2 (.comp (.var 3) (.nm 3) (.it (.call F_blocks_of [(.var 0)])) (some (.cmp .isin (.idx (.var 3) (.cst (.int 0))) (.var 1))))), (.ite (.bi .all [(.comp (.call F_is_plain [(.var 0), (.var 3)]) (.nm 3) (.it (.var 2)) none)]) [(.ret (.var 1))] [])]), (.ret (.cst .non))]⟩
def d_always_near : Def := ⟨1, 1, false, [(.expr (.call F_need_web [(.var 0)])), (.ret (.cmp .is (.call F_plain_piece [(.var 0)]) (.cst .non)))]⟩
def d_near_bar : Def := ⟨1, 8, false, [(.expr (.call F_need_web [(.var 0)])), (.asg 1 (.call F_plain_piece [(.var 0)])), (.ite (.cmp .is (.var 1) (.cst .non)) [(.ret (.cst .non))] []), (.asg 2 (.mut (.comp (.ite (.cmp .isin (.var 6) (.var 1)) (.tup []) (.bi .tupRange [(.var 7)])) (.tp [6, 7]) (.enum (.call F_sizes_near [(.var 0)])) none))), (.asg 3 (.cst (.int 0))), (.for (.nm 4) (.it (.call F_blocks_of [(.var 0)])) [(.ite (.cmp .isin (.idx (.var 4) (.cst (.int 0))) (.var 1)) [(.asg 5 (.ite (.call F_is_full [(.var 0), (.var 4)]) (.bin .sub (.bi .len [(.var 4)]) (.cst (.int 1))) (.cst (.int 2)))), (.for (.nm 6) (.it (.var 4)) [(.asgSub (.var 2) (.var 6) (.bin .add (.idx (.var 2) (.var 6)) (.bi .tupRange [(.var 3), (.bin .add (.var 3) (.var 5))])))]), (.asg 3 (.bin .add (.var 3) (.var 5)))] [])]), (.ret (.bi .tuple [(.var 2)]))]⟩
def d__law_come : Def := ⟨3, 6, false, [(.asg 3 (.lst [(.var 1)])), (.asg 4 (.cst (.int 0))), (.wh (.cmp .lt (.var 4) (.bi .len [(.var 3)])) [(.asg 3 (.bin .add (.var 3) (.comp (.var 5) (.nm 5) (.it (.call F__law_near [(.var 0), (.idx (.var 3) (.var 4))])) (some (.and (.cmp .notin (.var 5) (.var 3)) (.cmp .ne (.var 5) (.var 2))))))), (.asg 4 (.bin .add (.var 4) (.cst (.int 1))))]), (.ret (.var 3))]⟩
def d__law_text : Def := ⟨2, 7, false, [(.asg 2 (.bin .add (.bin .add (.lst [(.bi .str [(.idx (.var 0) (.cst (.int 0)))])]) (.comp (.bin .add (.bin .add (.bi .str [(.var 4)]) (.cst (.str [45]))) (.bi .str [(.var 5)])) (.tp [4, 5]) (.it (.idx (.var 0) (.cst (.int 1)))) none)) (.lst [(.cst (.str [58]))]))), (.ret (.meth .join (.cst (.str [32])) [(.bin .add (.var 2) (.comp (.or (.meth .join (.cst (.str [44])) [(.comp (.bi .str [(.var 6)]) (.nm 6) (.it (.var 3)) none)]) (.cst (.str [45]))) (.nm 3) (.it (.var 1)) none))]))]⟩
def d_number_in_v2 : Def := ⟨2, 3, false, [(.ite (.or (.not (.chain .le .le (.cst (.int 1)) (.bi .len [(.var 0)]) (.glb "MOST_FIGURES" (.int 30)))) (.not (.bi .all [(.comp (.cmp .isin (.var 2) (.glb "FIGURES" (.str [48, 49, 50, 51, 52, 53, 54, 55, 56, 57]))) (.nm 2) (.it (.var 0)) none)]))) [(.raise 10 none)] []), (.ite (.or (.and (.cmp .eq (.idx (.var 0) (.cst (.int 0))) (.cst (.str [48]))) (.cmp .ne (.var 0) (.cst (.str [48])))) (.cmp .gt (.bi .int [(.var 0)]) (.var 1))) [(.raise 10 none)] []), (.ret (.bi .int [(.var 0)]))]⟩
def d_spaced : Def := ⟨1, 2, false, [(.ret (.ite (.cmp .gt (.bi .len [(.var 0)]) (.cst (.int 0))) (.meth .join (.cst (.str [32])) [(.comp (.bi .str [(.var 1)]) (.nm 1) (.it (.var 0)) none)]) (.cst (.str [110, 111, 110, 101]))))]⟩
def d__law_box_v4 : Def := ⟨2, 6, true, [(.asg 2 (.bin .add (.bin .mul (.cst (.int 7919)) (.var 1)) (.cst (.int 13)))), (.ite (.cmp .lt (.var 1) (.bi .len [(.var 0)])) [(.asg 2 (.idx (.var 0) (.var 1)))] []), (.ite (.cmp .eq (.bin .mod (.var 2) (.cst (.int 2))) (.cst (.int 0))) [(.ret (.mut (.lst [(.bin .fdiv (.var 2) (.cst (.int 2))), (.bin .mod (.bi .abs [(.var 2)]) (.cst (.int 2147483647)))])))] []), (.asg 3 (.cst (.int 0))), (.for (.nm 4) (.rng1 (.cst (.int 16))) [(.asg 5 (.bin .mod (.bin .add (.bin .add (.bin .mul (.bin .mod (.var 2) (.cst (.int 2147483647))) (.cst (.int 48271))) (.bin .mul (.cst (.int 7919)) (.var 4))) (.cst (.int 1))) (.cst (.int 2147483647)))), (.asg 5 (.bin .mod (.bin .mul (.var 5) (.var 5)) (.cst (.int 2147483629)))), (.asg 3 (.bin .add (.bin .mul (.var 3) (.cst (.int 2147483647))) (.bin .mod (.bin .mul (.var 5) (.bin .add (.var 5) (.cst (.int 13)))) (.cst (.int 2147483647)))))]), (.ret (.mut (.lst [(.var 3), (.bin .mod (.bi .abs [(.var 2)]) (.cst (.int 2147483647)))])))]⟩
def d__law_more : Def := ⟨1, 3, false, [(.asg 1 (.cst (.int 0))), (.for (.nm 2) (.rng1 (.cst (.int 12))) [(.asgSub (.var 0) (.cst (.int 1)) (.bin .mod (.bin .add (.bin .mul (.idx (.var 0) (.cst (.int 1))) (.cst (.int 48271))) (.cst (.int 30269))) (.cst (.int 2147483647)))), (.asg 1 (.bin .add (.bin .mul (.var 1) (.cst (.int 65521))) (.bin .mod (.bin .fdiv (.idx (.var 0) (.cst (.int 1))) (.cst (.int 7))) (.cst (.int 65521)))))]), (.ret (.var 1))]⟩
def d__law_take_v2 : Def := ⟨2, 4, false, [(.ite (.chain .le .lt (.cst (.int 0)) (.idx (.var 0) (.cst (.int 0))) (.var 1)) [(.asgSub (.var 0) (.cst (.int 0)) (.bin .add (.idx (.var 0) (.cst (.int 0))) (.bin .mul (.var 1) (.call F__law_more [(.var 0)]))))] []), (.asgT [2, 3] (.bi .divmod [(.idx (.var 0) (.cst (.int 0))), (.var 1)])), (.asgSub (.var 0) (.cst (.int 0)) (.var 2)), (.ret (.var 3))]⟩
def base : Nat → Def
  | 0 => d_is_upto
  | 1 => d_is_tie
  | 2 => d_rises
  | 3 => d_is_web
  | 4 => d_need_web
  | 5 => d_is_list
  | 6 => d_are_lists_of
  | 7 => d_are_lists
  | 8 => d_are_sizes
  | 9 => d__law_cell
  | 10 => d__law_mix
  | 11 => d__law_box
  | 12 => d__law_take
  | 13 => d__law_whole
  | 14 => d__law_truth
  | 15 => d__law_pairs
  | 16 => d__law_drawn_web
  | 17 => d__law_drawn_list
  | 18 => d__law_drawn_lists
  | 19 => d__law_tied
  | 20 => d__law_drawn_sizes
  | 21 => d__law_thing
  | 22 => d__law_are_lists
  | 23 => d__law_marks
  | 24 => d_need_lists
  | 25 => d_is_choice_of
  | 26 => d_is_choice
  | 27 => d_tied_to
  | 28 => d_near
  | 29 => d_sizes_by
  | 30 => d_sizes_of
  | 31 => d_list_text
  | 32 => d_show
  | 33 => d_number_in
  | 34 => d_tie_in
  | 35 => d_list_in
  | 36 => d_read
  | 37 => d_fits
  | 38 => d_many_of
  | 39 => d_first_of
  | 40 => d_first_choice
  | 41 => d_choices_many
  | 42 => d__law_all_choices
  | 43 => d_open_hues
  | 44 => d_with_one
  | 45 => d_is_none
  | 46 => d_is_none_paper
  | 47 => d_none_by
  | 48 => d_none_paper
  | 49 => d__law_has_choice
  | 50 => d_choice_at
  | 51 => d_number_of
  | 52 => d_begun_many
  | 53 => d__law_sets
  | 54 => d__law_some_bar
  | 55 => d__law_left_over
  | 56 => d__law_always
  | 57 => d_need_sizes
  | 58 => d_peeled
  | 59 => d_narrowness
  | 60 => d_need_small
  | 61 => d_sets_of
  | 62 => d_part_web
  | 63 => d_bar_here
  | 64 => d_bar_of
  | 65 => d_need_asked
  | 66 => d_always
  | 67 => d_is_bar
  | 68 => d_bar_for
  | 69 => d_least_length
  | 70 => d_hues_many
  | 71 => d_is_order_of
  | 72 => d_is_order
  | 73 => d_order_for
  | 74 => d__law_mixed_up
  | 75 => d__law_is_order
  | 76 => d_core
  | 77 => d_choice_by
  | 78 => d__law_all_terms
  | 79 => d_is_from_nought
  | 80 => d_need_few
  | 81 => d_raised
  | 82 => d_terms_of
  | 83 => d_terms
  | 84 => d_are_powers
  | 85 => d_need_powers
  | 86 => d_term
  | 87 => d_lesser
  | 88 => d_is_term_paper
  | 89 => d_term_for
  | 90 => d_runs_many
  | 91 => d__law_few_ties
  | 92 => d_are_tie_lists_of
  | 93 => d_are_tie_lists
  | 94 => d__law_classes
  | 95 => d__law_only
  | 96 => d_need_tie_lists
  | 97 => d_meet
  | 98 => d_may_have
  | 99 => d_first_from
  | 100 => d_first_tie_choice
  | 101 => d_many_from
  | 102 => d_tie_choices_many
  | 103 => d__law_box_v2
  | 104 => d__law_web
  | 105 => d__law_lists
  | 106 => d__law_meet
  | 107 => d__law_tie_choices
  | 108 => d_width_of
  | 109 => d_width
  | 110 => d_part_of
  | 111 => d_first_part
  | 112 => d__law_near
  | 113 => d__law_part
  | 114 => d__law_two_sided
  | 115 => d_need_two_sided
  | 116 => d_are_ranks
  | 117 => d_are_some
  | 118 => d_need_some
  | 119 => d_ends
  | 120 => d_is_beaten
  | 121 => d_is_stable
  | 122 => d_stable_of
  | 123 => d_stable_ones
  | 124 => d_lots_many
  | 125 => d_times
  | 126 => d_sum_of
  | 127 => d_worth_at
  | 128 => d_count_at
  | 129 => d__law_odd
  | 130 => d__law_no_web
  | 131 => d_is_tie_choice
  | 132 => d_long_choice
  | 133 => d_no_rounds_many
  | 134 => d_longer
  | 135 => d_lists_from
  | 136 => d_best_of
  | 137 => d_need_asked_v2
  | 138 => d_fewest
  | 139 => d_fewest_lists
  | 140 => d__law_choices
  | 141 => d_powers_of
  | 142 => d_pieces_of
  | 143 => d_pieces
  | 144 => d_pieces_v2
  | 145 => d_taken_by
  | 146 => d_sure_of
  | 147 => d_sure
  | 148 => d_taken
  | 149 => d_named
  | 150 => d_without
  | 151 => d_sure_of_v2
  | 152 => d_sure_v2
  | 153 => d_come_to
  | 154 => d_joins
  | 155 => d_blocks_of
  | 156 => d_blocks
  | 157 => d_within
  | 158 => d_is_full
  | 159 => d_is_plain
  | 160 => d_plain_blocks
  | 161 => d__law_box_v3
  | 162 => d__law_plain
  | 163 => d_sizes_near
  | 164 => d_near_sizes
  | 165 => d_plain_piece
  | 166 => d_always_near
  | 167 => d_near_bar
  | 168 => d__law_come
  | 169 => d__law_text
  | 170 => d_number_in_v2
  | 171 => d_spaced
  | 172 => d__law_box_v4
  | 173 => d__law_more
  | 174 => d__law_take_v2
  | _ => ⟨0, 0, false, []⟩
class Base (P : Nat → Def) : Prop where
  eq : ∀ f, f < 300 → P f = base f
theorem b_is_upto {P : Nat → Def} [B : Base P] : P F_is_upto = d_is_upto := B.eq 0 (by decide)
theorem b_is_tie {P : Nat → Def} [B : Base P] : P F_is_tie = d_is_tie := B.eq 1 (by decide)
theorem b_rises {P : Nat → Def} [B : Base P] : P F_rises = d_rises := B.eq 2 (by decide)
theorem b_is_web {P : Nat → Def} [B : Base P] : P F_is_web = d_is_web := B.eq 3 (by decide)
theorem b_need_web {P : Nat → Def} [B : Base P] : P F_need_web = d_need_web := B.eq 4 (by decide)
theorem b_is_list {P : Nat → Def} [B : Base P] : P F_is_list = d_is_list := B.eq 5 (by decide)
theorem b_are_lists_of {P : Nat → Def} [B : Base P] : P F_are_lists_of = d_are_lists_of := B.eq 6 (by decide)
theorem b_are_lists {P : Nat → Def} [B : Base P] : P F_are_lists = d_are_lists := B.eq 7 (by decide)
theorem b_are_sizes {P : Nat → Def} [B : Base P] : P F_are_sizes = d_are_sizes := B.eq 8 (by decide)
theorem b__law_cell {P : Nat → Def} [B : Base P] : P F__law_cell = d__law_cell := B.eq 9 (by decide)
theorem b__law_mix {P : Nat → Def} [B : Base P] : P F__law_mix = d__law_mix := B.eq 10 (by decide)
theorem b__law_box {P : Nat → Def} [B : Base P] : P F__law_box = d__law_box := B.eq 11 (by decide)
theorem b__law_take {P : Nat → Def} [B : Base P] : P F__law_take = d__law_take := B.eq 12 (by decide)
theorem b__law_whole {P : Nat → Def} [B : Base P] : P F__law_whole = d__law_whole := B.eq 13 (by decide)
theorem b__law_truth {P : Nat → Def} [B : Base P] : P F__law_truth = d__law_truth := B.eq 14 (by decide)
theorem b__law_pairs {P : Nat → Def} [B : Base P] : P F__law_pairs = d__law_pairs := B.eq 15 (by decide)
theorem b__law_drawn_web {P : Nat → Def} [B : Base P] : P F__law_drawn_web = d__law_drawn_web := B.eq 16 (by decide)
theorem b__law_drawn_list {P : Nat → Def} [B : Base P] : P F__law_drawn_list = d__law_drawn_list := B.eq 17 (by decide)
theorem b__law_drawn_lists {P : Nat → Def} [B : Base P] : P F__law_drawn_lists = d__law_drawn_lists := B.eq 18 (by decide)
theorem b__law_tied {P : Nat → Def} [B : Base P] : P F__law_tied = d__law_tied := B.eq 19 (by decide)
theorem b__law_drawn_sizes {P : Nat → Def} [B : Base P] : P F__law_drawn_sizes = d__law_drawn_sizes := B.eq 20 (by decide)
theorem b__law_thing {P : Nat → Def} [B : Base P] : P F__law_thing = d__law_thing := B.eq 21 (by decide)
theorem b__law_are_lists {P : Nat → Def} [B : Base P] : P F__law_are_lists = d__law_are_lists := B.eq 22 (by decide)
theorem b__law_marks {P : Nat → Def} [B : Base P] : P F__law_marks = d__law_marks := B.eq 23 (by decide)
theorem b_need_lists {P : Nat → Def} [B : Base P] : P F_need_lists = d_need_lists := B.eq 24 (by decide)
theorem b_is_choice_of {P : Nat → Def} [B : Base P] : P F_is_choice_of = d_is_choice_of := B.eq 25 (by decide)
theorem b_is_choice {P : Nat → Def} [B : Base P] : P F_is_choice = d_is_choice := B.eq 26 (by decide)
theorem b_tied_to {P : Nat → Def} [B : Base P] : P F_tied_to = d_tied_to := B.eq 27 (by decide)
theorem b_near {P : Nat → Def} [B : Base P] : P F_near = d_near := B.eq 28 (by decide)
theorem b_sizes_by {P : Nat → Def} [B : Base P] : P F_sizes_by = d_sizes_by := B.eq 29 (by decide)
theorem b_sizes_of {P : Nat → Def} [B : Base P] : P F_sizes_of = d_sizes_of := B.eq 30 (by decide)
theorem b_list_text {P : Nat → Def} [B : Base P] : P F_list_text = d_list_text := B.eq 31 (by decide)
theorem b_show {P : Nat → Def} [B : Base P] : P F_show = d_show := B.eq 32 (by decide)
theorem b_number_in {P : Nat → Def} [B : Base P] : P F_number_in = d_number_in := B.eq 33 (by decide)
theorem b_tie_in {P : Nat → Def} [B : Base P] : P F_tie_in = d_tie_in := B.eq 34 (by decide)
theorem b_list_in {P : Nat → Def} [B : Base P] : P F_list_in = d_list_in := B.eq 35 (by decide)
theorem b_read {P : Nat → Def} [B : Base P] : P F_read = d_read := B.eq 36 (by decide)
theorem b_fits {P : Nat → Def} [B : Base P] : P F_fits = d_fits := B.eq 37 (by decide)
theorem b_many_of {P : Nat → Def} [B : Base P] : P F_many_of = d_many_of := B.eq 38 (by decide)
theorem b_first_of {P : Nat → Def} [B : Base P] : P F_first_of = d_first_of := B.eq 39 (by decide)
theorem b_first_choice {P : Nat → Def} [B : Base P] : P F_first_choice = d_first_choice := B.eq 40 (by decide)
theorem b_choices_many {P : Nat → Def} [B : Base P] : P F_choices_many = d_choices_many := B.eq 41 (by decide)
theorem b__law_all_choices {P : Nat → Def} [B : Base P] : P F__law_all_choices = d__law_all_choices := B.eq 42 (by decide)
theorem b_open_hues {P : Nat → Def} [B : Base P] : P F_open_hues = d_open_hues := B.eq 43 (by decide)
theorem b_with_one {P : Nat → Def} [B : Base P] : P F_with_one = d_with_one := B.eq 44 (by decide)
theorem b_is_none {P : Nat → Def} [B : Base P] : P F_is_none = d_is_none := B.eq 45 (by decide)
theorem b_is_none_paper {P : Nat → Def} [B : Base P] : P F_is_none_paper = d_is_none_paper := B.eq 46 (by decide)
theorem b_none_by {P : Nat → Def} [B : Base P] : P F_none_by = d_none_by := B.eq 47 (by decide)
theorem b_none_paper {P : Nat → Def} [B : Base P] : P F_none_paper = d_none_paper := B.eq 48 (by decide)
theorem b__law_has_choice {P : Nat → Def} [B : Base P] : P F__law_has_choice = d__law_has_choice := B.eq 49 (by decide)
theorem b_choice_at {P : Nat → Def} [B : Base P] : P F_choice_at = d_choice_at := B.eq 50 (by decide)
theorem b_number_of {P : Nat → Def} [B : Base P] : P F_number_of = d_number_of := B.eq 51 (by decide)
theorem b_begun_many {P : Nat → Def} [B : Base P] : P F_begun_many = d_begun_many := B.eq 52 (by decide)
theorem b__law_sets {P : Nat → Def} [B : Base P] : P F__law_sets = d__law_sets := B.eq 53 (by decide)
theorem b__law_some_bar {P : Nat → Def} [B : Base P] : P F__law_some_bar = d__law_some_bar := B.eq 54 (by decide)
theorem b__law_left_over {P : Nat → Def} [B : Base P] : P F__law_left_over = d__law_left_over := B.eq 55 (by decide)
theorem b__law_always {P : Nat → Def} [B : Base P] : P F__law_always = d__law_always := B.eq 56 (by decide)
theorem b_need_sizes {P : Nat → Def} [B : Base P] : P F_need_sizes = d_need_sizes := B.eq 57 (by decide)
theorem b_peeled {P : Nat → Def} [B : Base P] : P F_peeled = d_peeled := B.eq 58 (by decide)
theorem b_narrowness {P : Nat → Def} [B : Base P] : P F_narrowness = d_narrowness := B.eq 59 (by decide)
theorem b_need_small {P : Nat → Def} [B : Base P] : P F_need_small = d_need_small := B.eq 60 (by decide)
theorem b_sets_of {P : Nat → Def} [B : Base P] : P F_sets_of = d_sets_of := B.eq 61 (by decide)
theorem b_part_web {P : Nat → Def} [B : Base P] : P F_part_web = d_part_web := B.eq 62 (by decide)
theorem b_bar_here {P : Nat → Def} [B : Base P] : P F_bar_here = d_bar_here := B.eq 63 (by decide)
theorem b_bar_of {P : Nat → Def} [B : Base P] : P F_bar_of = d_bar_of := B.eq 64 (by decide)
theorem b_need_asked {P : Nat → Def} [B : Base P] : P F_need_asked = d_need_asked := B.eq 65 (by decide)
theorem b_always {P : Nat → Def} [B : Base P] : P F_always = d_always := B.eq 66 (by decide)
theorem b_is_bar {P : Nat → Def} [B : Base P] : P F_is_bar = d_is_bar := B.eq 67 (by decide)
theorem b_bar_for {P : Nat → Def} [B : Base P] : P F_bar_for = d_bar_for := B.eq 68 (by decide)
theorem b_least_length {P : Nat → Def} [B : Base P] : P F_least_length = d_least_length := B.eq 69 (by decide)
theorem b_hues_many {P : Nat → Def} [B : Base P] : P F_hues_many = d_hues_many := B.eq 70 (by decide)
theorem b_is_order_of {P : Nat → Def} [B : Base P] : P F_is_order_of = d_is_order_of := B.eq 71 (by decide)
theorem b_is_order {P : Nat → Def} [B : Base P] : P F_is_order = d_is_order := B.eq 72 (by decide)
theorem b_order_for {P : Nat → Def} [B : Base P] : P F_order_for = d_order_for := B.eq 73 (by decide)
theorem b__law_mixed_up {P : Nat → Def} [B : Base P] : P F__law_mixed_up = d__law_mixed_up := B.eq 74 (by decide)
theorem b__law_is_order {P : Nat → Def} [B : Base P] : P F__law_is_order = d__law_is_order := B.eq 75 (by decide)
theorem b_core {P : Nat → Def} [B : Base P] : P F_core = d_core := B.eq 76 (by decide)
theorem b_choice_by {P : Nat → Def} [B : Base P] : P F_choice_by = d_choice_by := B.eq 77 (by decide)
theorem b__law_all_terms {P : Nat → Def} [B : Base P] : P F__law_all_terms = d__law_all_terms := B.eq 78 (by decide)
theorem b_is_from_nought {P : Nat → Def} [B : Base P] : P F_is_from_nought = d_is_from_nought := B.eq 79 (by decide)
theorem b_need_few {P : Nat → Def} [B : Base P] : P F_need_few = d_need_few := B.eq 80 (by decide)
theorem b_raised {P : Nat → Def} [B : Base P] : P F_raised = d_raised := B.eq 81 (by decide)
theorem b_terms_of {P : Nat → Def} [B : Base P] : P F_terms_of = d_terms_of := B.eq 82 (by decide)
theorem b_terms {P : Nat → Def} [B : Base P] : P F_terms = d_terms := B.eq 83 (by decide)
theorem b_are_powers {P : Nat → Def} [B : Base P] : P F_are_powers = d_are_powers := B.eq 84 (by decide)
theorem b_need_powers {P : Nat → Def} [B : Base P] : P F_need_powers = d_need_powers := B.eq 85 (by decide)
theorem b_term {P : Nat → Def} [B : Base P] : P F_term = d_term := B.eq 86 (by decide)
theorem b_lesser {P : Nat → Def} [B : Base P] : P F_lesser = d_lesser := B.eq 87 (by decide)
theorem b_is_term_paper {P : Nat → Def} [B : Base P] : P F_is_term_paper = d_is_term_paper := B.eq 88 (by decide)
theorem b_term_for {P : Nat → Def} [B : Base P] : P F_term_for = d_term_for := B.eq 89 (by decide)
theorem b_runs_many {P : Nat → Def} [B : Base P] : P F_runs_many = d_runs_many := B.eq 90 (by decide)
theorem b__law_few_ties {P : Nat → Def} [B : Base P] : P F__law_few_ties = d__law_few_ties := B.eq 91 (by decide)
theorem b_are_tie_lists_of {P : Nat → Def} [B : Base P] : P F_are_tie_lists_of = d_are_tie_lists_of := B.eq 92 (by decide)
theorem b_are_tie_lists {P : Nat → Def} [B : Base P] : P F_are_tie_lists = d_are_tie_lists := B.eq 93 (by decide)
theorem b__law_classes {P : Nat → Def} [B : Base P] : P F__law_classes = d__law_classes := B.eq 94 (by decide)
theorem b__law_only {P : Nat → Def} [B : Base P] : P F__law_only = d__law_only := B.eq 95 (by decide)
theorem b_need_tie_lists {P : Nat → Def} [B : Base P] : P F_need_tie_lists = d_need_tie_lists := B.eq 96 (by decide)
theorem b_meet {P : Nat → Def} [B : Base P] : P F_meet = d_meet := B.eq 97 (by decide)
theorem b_may_have {P : Nat → Def} [B : Base P] : P F_may_have = d_may_have := B.eq 98 (by decide)
theorem b_first_from {P : Nat → Def} [B : Base P] : P F_first_from = d_first_from := B.eq 99 (by decide)
theorem b_first_tie_choice {P : Nat → Def} [B : Base P] : P F_first_tie_choice = d_first_tie_choice := B.eq 100 (by decide)
theorem b_many_from {P : Nat → Def} [B : Base P] : P F_many_from = d_many_from := B.eq 101 (by decide)
theorem b_tie_choices_many {P : Nat → Def} [B : Base P] : P F_tie_choices_many = d_tie_choices_many := B.eq 102 (by decide)
theorem b__law_box_v2 {P : Nat → Def} [B : Base P] : P F__law_box_v2 = d__law_box_v2 := B.eq 103 (by decide)
theorem b__law_web {P : Nat → Def} [B : Base P] : P F__law_web = d__law_web := B.eq 104 (by decide)
theorem b__law_lists {P : Nat → Def} [B : Base P] : P F__law_lists = d__law_lists := B.eq 105 (by decide)
theorem b__law_meet {P : Nat → Def} [B : Base P] : P F__law_meet = d__law_meet := B.eq 106 (by decide)
theorem b__law_tie_choices {P : Nat → Def} [B : Base P] : P F__law_tie_choices = d__law_tie_choices := B.eq 107 (by decide)
theorem b_width_of {P : Nat → Def} [B : Base P] : P F_width_of = d_width_of := B.eq 108 (by decide)
theorem b_width {P : Nat → Def} [B : Base P] : P F_width = d_width := B.eq 109 (by decide)
theorem b_part_of {P : Nat → Def} [B : Base P] : P F_part_of = d_part_of := B.eq 110 (by decide)
theorem b_first_part {P : Nat → Def} [B : Base P] : P F_first_part = d_first_part := B.eq 111 (by decide)
theorem b__law_near {P : Nat → Def} [B : Base P] : P F__law_near = d__law_near := B.eq 112 (by decide)
theorem b__law_part {P : Nat → Def} [B : Base P] : P F__law_part = d__law_part := B.eq 113 (by decide)
theorem b__law_two_sided {P : Nat → Def} [B : Base P] : P F__law_two_sided = d__law_two_sided := B.eq 114 (by decide)
theorem b_need_two_sided {P : Nat → Def} [B : Base P] : P F_need_two_sided = d_need_two_sided := B.eq 115 (by decide)
theorem b_are_ranks {P : Nat → Def} [B : Base P] : P F_are_ranks = d_are_ranks := B.eq 116 (by decide)
theorem b_are_some {P : Nat → Def} [B : Base P] : P F_are_some = d_are_some := B.eq 117 (by decide)
theorem b_need_some {P : Nat → Def} [B : Base P] : P F_need_some = d_need_some := B.eq 118 (by decide)
theorem b_ends {P : Nat → Def} [B : Base P] : P F_ends = d_ends := B.eq 119 (by decide)
theorem b_is_beaten {P : Nat → Def} [B : Base P] : P F_is_beaten = d_is_beaten := B.eq 120 (by decide)
theorem b_is_stable {P : Nat → Def} [B : Base P] : P F_is_stable = d_is_stable := B.eq 121 (by decide)
theorem b_stable_of {P : Nat → Def} [B : Base P] : P F_stable_of = d_stable_of := B.eq 122 (by decide)
theorem b_stable_ones {P : Nat → Def} [B : Base P] : P F_stable_ones = d_stable_ones := B.eq 123 (by decide)
theorem b_lots_many {P : Nat → Def} [B : Base P] : P F_lots_many = d_lots_many := B.eq 124 (by decide)
theorem b_times {P : Nat → Def} [B : Base P] : P F_times = d_times := B.eq 125 (by decide)
theorem b_sum_of {P : Nat → Def} [B : Base P] : P F_sum_of = d_sum_of := B.eq 126 (by decide)
theorem b_worth_at {P : Nat → Def} [B : Base P] : P F_worth_at = d_worth_at := B.eq 127 (by decide)
theorem b_count_at {P : Nat → Def} [B : Base P] : P F_count_at = d_count_at := B.eq 128 (by decide)
theorem b__law_odd {P : Nat → Def} [B : Base P] : P F__law_odd = d__law_odd := B.eq 129 (by decide)
theorem b__law_no_web {P : Nat → Def} [B : Base P] : P F__law_no_web = d__law_no_web := B.eq 130 (by decide)
theorem b_is_tie_choice {P : Nat → Def} [B : Base P] : P F_is_tie_choice = d_is_tie_choice := B.eq 131 (by decide)
theorem b_long_choice {P : Nat → Def} [B : Base P] : P F_long_choice = d_long_choice := B.eq 132 (by decide)
theorem b_no_rounds_many {P : Nat → Def} [B : Base P] : P F_no_rounds_many = d_no_rounds_many := B.eq 133 (by decide)
theorem b_longer {P : Nat → Def} [B : Base P] : P F_longer = d_longer := B.eq 134 (by decide)
theorem b_lists_from {P : Nat → Def} [B : Base P] : P F_lists_from = d_lists_from := B.eq 135 (by decide)
theorem b_best_of {P : Nat → Def} [B : Base P] : P F_best_of = d_best_of := B.eq 136 (by decide)
theorem b_need_asked_v2 {P : Nat → Def} [B : Base P] : P F_need_asked_v2 = d_need_asked_v2 := B.eq 137 (by decide)
theorem b_fewest {P : Nat → Def} [B : Base P] : P F_fewest = d_fewest := B.eq 138 (by decide)
theorem b_fewest_lists {P : Nat → Def} [B : Base P] : P F_fewest_lists = d_fewest_lists := B.eq 139 (by decide)
theorem b__law_choices {P : Nat → Def} [B : Base P] : P F__law_choices = d__law_choices := B.eq 140 (by decide)
theorem b_powers_of {P : Nat → Def} [B : Base P] : P F_powers_of = d_powers_of := B.eq 141 (by decide)
theorem b_pieces_of {P : Nat → Def} [B : Base P] : P F_pieces_of = d_pieces_of := B.eq 142 (by decide)
theorem b_pieces {P : Nat → Def} [B : Base P] : P F_pieces = d_pieces := B.eq 143 (by decide)
theorem b_pieces_v2 {P : Nat → Def} [B : Base P] : P F_pieces_v2 = d_pieces_v2 := B.eq 144 (by decide)
theorem b_taken_by {P : Nat → Def} [B : Base P] : P F_taken_by = d_taken_by := B.eq 145 (by decide)
theorem b_sure_of {P : Nat → Def} [B : Base P] : P F_sure_of = d_sure_of := B.eq 146 (by decide)
theorem b_sure {P : Nat → Def} [B : Base P] : P F_sure = d_sure := B.eq 147 (by decide)
theorem b_taken {P : Nat → Def} [B : Base P] : P F_taken = d_taken := B.eq 148 (by decide)
theorem b_named {P : Nat → Def} [B : Base P] : P F_named = d_named := B.eq 149 (by decide)
theorem b_without {P : Nat → Def} [B : Base P] : P F_without = d_without := B.eq 150 (by decide)
theorem b_sure_of_v2 {P : Nat → Def} [B : Base P] : P F_sure_of_v2 = d_sure_of_v2 := B.eq 151 (by decide)
theorem b_sure_v2 {P : Nat → Def} [B : Base P] : P F_sure_v2 = d_sure_v2 := B.eq 152 (by decide)
theorem b_come_to {P : Nat → Def} [B : Base P] : P F_come_to = d_come_to := B.eq 153 (by decide)
theorem b_joins {P : Nat → Def} [B : Base P] : P F_joins = d_joins := B.eq 154 (by decide)
theorem b_blocks_of {P : Nat → Def} [B : Base P] : P F_blocks_of = d_blocks_of := B.eq 155 (by decide)
theorem b_blocks {P : Nat → Def} [B : Base P] : P F_blocks = d_blocks := B.eq 156 (by decide)
theorem b_within {P : Nat → Def} [B : Base P] : P F_within = d_within := B.eq 157 (by decide)
theorem b_is_full {P : Nat → Def} [B : Base P] : P F_is_full = d_is_full := B.eq 158 (by decide)
theorem b_is_plain {P : Nat → Def} [B : Base P] : P F_is_plain = d_is_plain := B.eq 159 (by decide)
theorem b_plain_blocks {P : Nat → Def} [B : Base P] : P F_plain_blocks = d_plain_blocks := B.eq 160 (by decide)
theorem b__law_box_v3 {P : Nat → Def} [B : Base P] : P F__law_box_v3 = d__law_box_v3 := B.eq 161 (by decide)
theorem b__law_plain {P : Nat → Def} [B : Base P] : P F__law_plain = d__law_plain := B.eq 162 (by decide)
theorem b_sizes_near {P : Nat → Def} [B : Base P] : P F_sizes_near = d_sizes_near := B.eq 163 (by decide)
theorem b_near_sizes {P : Nat → Def} [B : Base P] : P F_near_sizes = d_near_sizes := B.eq 164 (by decide)
theorem b_plain_piece {P : Nat → Def} [B : Base P] : P F_plain_piece = d_plain_piece := B.eq 165 (by decide)
theorem b_always_near {P : Nat → Def} [B : Base P] : P F_always_near = d_always_near := B.eq 166 (by decide)
theorem b_near_bar {P : Nat → Def} [B : Base P] : P F_near_bar = d_near_bar := B.eq 167 (by decide)
theorem b__law_come {P : Nat → Def} [B : Base P] : P F__law_come = d__law_come := B.eq 168 (by decide)
theorem b__law_text {P : Nat → Def} [B : Base P] : P F__law_text = d__law_text := B.eq 169 (by decide)
theorem b_number_in_v2 {P : Nat → Def} [B : Base P] : P F_number_in_v2 = d_number_in_v2 := B.eq 170 (by decide)
theorem b_spaced {P : Nat → Def} [B : Base P] : P F_spaced = d_spaced := B.eq 171 (by decide)
theorem b__law_box_v4 {P : Nat → Def} [B : Base P] : P F__law_box_v4 = d__law_box_v4 := B.eq 172 (by decide)
theorem b__law_more {P : Nat → Def} [B : Base P] : P F__law_more = d__law_more := B.eq 173 (by decide)
theorem b__law_take_v2 {P : Nat → Def} [B : Base P] : P F__law_take_v2 = d__law_take_v2 := B.eq 174 (by decide)
end Pf
end

section 
set_option Elab.async false
set_option linter.all false
set_option maxRecDepth 100000
set_option maxHeartbeats 4000000
namespace Lk63
open Pf
/-! ### the own syntax of the defs -/
abbrev G__law_short : Nat := 300
abbrev G__law_sure : Nat := 301
abbrev G_law : Nat := 302
def e__law_short : Def := ⟨2, 6, false, [(.asg 2 (.mut (.lst []))), (.for (.nm 3) (.rng1 (.var 1)) [(.asg 4 (.comp (.call F__law_take [(.var 0), (.cst (.int 4))]) (.nm 5) (.rng1 (.idx (.lst [(.cst (.int 1)), (.cst (.int 1)), (.cst (.int 2)), (.cst (.int 2)), (.cst (.int 3)), (.cst (.int 0)), (.cst (.int 2)), (.cst (.int 3))]) (.call F__law_take [(.var 0), (.cst (.int 8))]))) none)), (.expr (.meth .append (.var 2) [(.bi .tuple [(.bi .sortedSet [(.var 4)])])]))]), (.ret (.bi .tuple [(.var 2)]))]⟩
def e__law_sure : Def := ⟨2, 11, false, [(.asg 2 (.mut (.lst []))), (.asg 3 (.mut (.bi .list [(.var 1)]))), (.asg 4 (.comp (.var 7) (.nm 7) (.rng1 (.idx (.var 0) (.cst (.int 0)))) (some (.cmp .eq (.bi .len [(.idx (.var 3) (.var 7))]) (.cst (.int 1)))))), (.wh (.and (.cmp .ne (.var 4) (.lst [])) (.cmp .notin (.tup []) (.var 3))) [(.par [7, 8] [(.idx (.var 4) (.cst (.int 0))), (.idx (.idx (.var 3) (.idx (.var 4) (.cst (.int 0)))) (.cst (.int 0)))]), (.expr (.meth .append (.var 2) [(.tup [(.var 7), (.var 8)])])), (.for (.nm 5) (.it (.call F__law_near [(.var 0), (.var 7)])) [(.asgSub (.var 3) (.var 5) (.bi .tuple [(.comp (.var 10) (.nm 10) (.it (.idx (.var 3) (.var 5))) (some (.cmp .ne (.var 10) (.var 8))))]))]), (.asg 6 (.comp (.idx (.var 9) (.cst (.int 0))) (.nm 9) (.it (.var 2)) none)), (.asg 4 (.comp (.var 7) (.nm 7) (.rng1 (.idx (.var 0) (.cst (.int 0)))) (some (.and (.cmp .eq (.bi .len [(.idx (.var 3) (.var 7))]) (.cst (.int 1))) (.cmp .notin (.var 7) (.var 6))))))]), (.ret (.tup [(.var 2), (.bi .tuple [(.var 3)])]))]⟩
def e_law : Def := ⟨1, 9, false, [(.for (.nm 1) (.rng1 (.bi .max2 [(.cst (.int 1)), (.bi .min2 [(.bi .len [(.var 0)]), (.cst (.int 5))])])) [(.asg 2 (.call F__law_box_v2 [(.var 0), (.var 1)])), (.asg 3 (.call F__law_web [(.var 2), (.cst (.int 1)), (.cst (.int 6))])), (.for (.nm 4) (.rng1 (.cst (.int 2))) [(.asg 5 (.call G__law_short [(.var 2), (.idx (.var 3) (.cst (.int 0)))])), (.asg 6 (.call G__law_sure [(.var 3), (.var 5)])), (.for (.nm 7) (.rng1 (.cst (.int 2))) [(.asg 8 (.call F_sure [(.var 3), (.var 5)])), (.ite (.or (.not (.isi .tuple (.var 8))) (.cmp .ne (.bi .repr [(.var 8)]) (.bi .repr [(.var 6)]))) [(.ret (.cst (.bl false)))] []), (.expr (.meth .append (.idx (.var 8) (.cst (.int 0))) [(.tup [])]))])])]), (.ret (.cst (.bl true)))]⟩
def own : Nat → Def
  | 300 => e__law_short
  | 301 => e__law_sure
  | 302 => e_law
  | _ => ⟨0, 0, false, []⟩
def prog (n : Nat) : Def := if n < 300 then base n else own n
instance : Base prog := ⟨fun f h => if_pos h⟩
end Lk63
end

section 
set_option Elab.async false
set_option linter.all false
set_option maxRecDepth 100000
set_option maxHeartbeats 1000000
/-! PjA: what the head says of the classes of exceptions. -/
namespace Pf
open PySem PySem.Spec PyProof.Rows L2
def excCB (K : PySem.W.Frag) (D : Addr) : Bool :=
  He.eqO (PySem.W.findIn K (.ref D) "__getattribute__") (some (some (.builtin "BaseException.__getattribute__"))) && He.eqO (PySem.W.findIn K (.ref D) "__getattr__") (some none) &&
  decide (PySem.W.subIn K (.ref D) (.type "BaseException") = some true) && PySem.W.hasDictIn K D && He.eqO (PySem.W.findIn K (.ref D) "__class__") (some (some (.builtin "object.__class__"))) &&
  He.eqO (PySem.W.specialIn K (.builtin "object.__class__") "__get__") (some (some (.builtin "getset_descriptor.__get__"))) && decide (PySem.W.takesIn K (.builtin "object.__class__") = some true) && decide (PySem.W.mroIn K D (.type "object") = some true)
theorem excCB_ok {K : PySem.W.Frag} {D : Addr} (h : excCB K D = true) : ExcC K D := by
  unfold excCB at h
  simp only [Bool.and_eq_true, decide_eq_true_eq] at h
  obtain ⟨⟨⟨⟨⟨⟨⟨h1, h2⟩, h3⟩, h4⟩, h5⟩, h6⟩, h7⟩, h8⟩ := h
  exact ⟨He.eqO_ok h1, He.eqO_ok h2, h3, h4, He.eqO_ok h5, He.eqO_ok h6, h7, h8⟩
def xNm (xs : List (Str × Nat)) (n : Nat) : Option Str := (xs.find? fun q => q.2 == n).map (·.1)
def xcOf (K : PySem.W.Frag) (xs : List (Str × Nat)) (n : Nat) : Value := match xNm xs n with
  | some x => .ref (He.ga K x)
  | none => .none
def xB1 (K : PySem.W.Frag) (x : Str) : Bool := PySem.W.excIn K (He.ga K x) He.veBase "ValueError.__new__" && PySem.W.keepIn K (.ref (He.ga K x)) && decide (PySem.W.subIn K (.ref (He.ga K x)) (.type "BaseException") = some true) && decide (PySem.W.typeIn K (.ref (He.ga K x)) = some (.type "type"))
def xB2 (K : PySem.W.Frag) (xs : List (Str × Nat)) (q : Str × Nat) : Bool := excCB K (He.ga K q.1) && decide (PySem.W.kitOne K (.ref (He.ga K q.1)) (.type "ValueError") = some true) && decide (PySem.W.exmOne K (.ref (He.ga K q.1)) (xcOf K xs 0) = some true) &&
  xs.all fun r => decide (PySem.W.kitOne K (.ref (He.ga K q.1)) (xcOf K xs r.2) = some (decide (r.2 = 0) || decide (r.2 = q.2)))
def xB (xs : List (Str × Nat)) (K : PySem.W.Frag) : Bool := xs.all fun q => He.eqO (PySem.W.nsIn K mainGlobals q.1) (some (some (.ref (He.ga K q.1)))) && (!plX q.2 || (xB1 K q.1 && xB2 K xs q))
/-- numbers that are told apart -/
def xsOk (xs : List (Str × Nat)) : Bool := xs.all fun q => decide (xNm xs q.2 = some q.1) && decide (q.2 ≠ 99)
theorem xcs_ok {K : PySem.W.Frag} {h : Heap} {mg : Str → Option Value} {xs : List (Str × Nat)} (X : K.In h) (G : h.Ns mainGlobals mg) (hx : xsOk xs = true) (c : xB xs K = true) : Xcs K mg (xcOf K xs) xs := by
  unfold xsOk at hx
  unfold xB at c
  rw [List.all_eq_true] at hx c
  have hc : ∀ q ∈ xs, xcOf K xs q.2 = .ref (He.ga K q.1) := by
    intro q hq
    have := hx q hq
    simp only [Bool.and_eq_true, decide_eq_true_eq] at this
    unfold xcOf
    rw [this.1]
  refine ⟨fun q hq => ⟨_, PySem.W.mg_of X G (He.eqO_ok ?_), hc q hq⟩, fun q hq => ?_, fun q hq hp => ⟨_, hc q hq, ?_⟩, fun q hq hp => ⟨_, hc q hq, ?_⟩⟩
  · have := c q hq
    simp only [Bool.and_eq_true] at this
    exact this.1
  · have := hx q hq
    simp only [Bool.and_eq_true, decide_eq_true_eq] at this
    exact this.2
  · have := c q hq
    simp only [hp, Bool.not_true, Bool.false_or, Bool.and_eq_true, xB1, decide_eq_true_eq] at this
    obtain ⟨_, ⟨⟨⟨h1, h2⟩, h3⟩, h4⟩, _⟩ := this
    exact ⟨h1, h2, h3, h4⟩
  · have := c q hq
    simp only [hp, Bool.not_true, Bool.false_or, Bool.and_eq_true, xB2, decide_eq_true_eq, List.all_eq_true] at this
    obtain ⟨_, _, ⟨⟨h1, h2⟩, h3⟩, h4⟩ := this
    exact ⟨excCB_ok h1, h2, h3, h4⟩
/-! ### the Hook -/
abbrev AlY : Type := He.AlD × Bool
def obsY (n : Nat) (fa : List He.Fa) (fn : List He.DefD) (xs : List (Str × Nat)) (g : Addr → Option Obj) : AlY := (He.obsD fa fn (He.frG g (He.asD g n)), xB xs (He.frG g (He.asD g n)))
def hookY (n : Nat) (fa : List He.Fa) (fn : List He.DefD) (xs : List (Str × Nat)) : PySem.W.Hook where
  α := AlY
  obs s := obsY n fa fn xs s.heap.get?
  val _ := (He.valD fn, true)
  says _ h := ∃ K : PySem.W.Frag, K.In h ∧ He.SaysD fa fn K ∧ xB xs K = true
  of _ _ e := ⟨_, He.frG_in, congrArg Prod.fst e, congrArg Prod.snd e⟩
  keeps _ _ _ q k := q.elim fun K hK => ⟨K, PySem.W.Frag.In.keeps hK.1 k, hK.2⟩
theorem obsY_eq {n : Nat} {fa : List He.Fa} {fn : List He.DefD} {xs : List (Str × Nat)} {g : Addr → Option Obj} {s : Shared} (h : ∀ a, g a = s.heap.get? a) : obsY n fa fn xs g = (hookY n fa fn xs).obs s := by
  obtain rfl : g = s.heap.get? := funext h
  rfl
end Pf
end

section 
set_option Elab.async false
set_option linter.all false
set_option maxRecDepth 100000
set_option maxHeartbeats 4000000
namespace Lk63
open PySem PySem.Spec PyProof.Rows L2 Pf
/-! ### the text -/
def top (i : Nat) : Stmt := PySem.Challenge.pw_huelists_k63_what_follows_for_sure.main.body.getD i (.Pass ⟨0, 0, 0, 0⟩)
def i_is_upto : DI := ⟨"is_upto", defArgs (top 8), defBody (top 8), defScope (top 8), ["thing", "least", "most"], ["thing", "least", "most"]⟩
def i_is_tie : DI := ⟨"is_tie", defArgs (top 9), defBody (top 9), defScope (top 9), ["thing", "places", "one"], ["thing", "places"]⟩
def i_rises : DI := ⟨"rises", defArgs (top 10), defBody (top 10), defScope (top 10), ["thing", "at"], ["thing"]⟩
def i_is_web : DI := ⟨"is_web", defArgs (top 11), defBody (top 11), defScope (top 11), ["thing", "tie"], ["thing"]⟩
def i_need_web : DI := ⟨"need_web", defArgs (top 12), defBody (top 12), defScope (top 12), ["web"], ["web"]⟩
def i_is_list : DI := ⟨"is_list", defArgs (top 13), defBody (top 13), defScope (top 13), ["thing", "hue"], ["thing"]⟩
def i_are_lists_of : DI := ⟨"are_lists_of", defArgs (top 14), defBody (top 14), defScope (top 14), ["thing", "web", "one"], ["thing", "web"]⟩
def i_need_lists : DI := ⟨"need_lists", defArgs (top 15), defBody (top 15), defScope (top 15), ["web", "lists"], ["web", "lists"]⟩
def i_tied_to : DI := ⟨"tied_to", defArgs (top 16), defBody (top 16), defScope (top 16), ["web", "place", "one", "other"], ["web", "place"]⟩
def i_taken_by : DI := ⟨"taken_by", defArgs (top 18), defBody (top 18), defScope (top 18), ["web", "lists", "place", "hue", "found", "other", "some", "one"], ["web", "lists", "place", "hue"]⟩
def i_sure_of : DI := ⟨"sure_of", defArgs (top 19), defBody (top 19), defScope (top 19), ["web", "lists", "steps", "done", "some", "place"], ["web", "lists"]⟩
def i_sure : DI := ⟨"sure", defArgs (top 20), defBody (top 20), defScope (top 20), ["web", "lists"], ["web", "lists"]⟩
def i__law_box : DI := ⟨"_law_box", defArgs (top 22), defBody (top 22), defScope (top 22), ["_law_script", "_law_k", "_law_here", "_law_number", "_law_j", "_law_part"], ["_law_script", "_law_k"]⟩
def i__law_take : DI := ⟨"_law_take", defArgs (top 23), defBody (top 23), defScope (top 23), ["_law_box_here", "_law_many", "_law_left", "_law_digit"], ["_law_box_here", "_law_many"]⟩
def i__law_web : DI := ⟨"_law_web", defArgs (top 24), defBody (top 24), defScope (top 24), ["_law_box_here", "_law_least", "_law_most", "_law_places", "_law_kind", "_law_full", "_law_ties", "_law_other", "_law_order", "_law_at", "_law_found", "_law_joint", "_law_one", "_law_to", "_law_drawn", "_law_ring", "_law_lots", "_law_tree"], ["_law_box_here", "_law_least", "_law_most"]⟩
def i__law_near : DI := ⟨"_law_near", defArgs (top 25), defBody (top 25), defScope (top 25), ["_law_web_here", "_law_place", "_law_one", "_law_other"], ["_law_web_here", "_law_place"]⟩
def i__law_short : DI := ⟨"_law_short", defArgs (top 26), defBody (top 26), defScope (top 26), ["_law_box_here", "_law_many", "_law_found", "_law_k", "_law_some", "_law_turn"], ["_law_box_here", "_law_many"]⟩
def i__law_sure : DI := ⟨"_law_sure", defArgs (top 27), defBody (top 27), defScope (top 27), ["_law_web_here", "_law_lists", "_law_steps", "_law_here", "_law_some", "_law_other", "_law_done", "_law_place", "_law_hue", "_law_step", "_law_one"], ["_law_web_here", "_law_lists"]⟩
def i_law : DI := ⟨"law", defArgs (top 28), defBody (top 28), defScope (top 28), ["_law_script", "_law_k", "_law_box_here", "_law_web_here", "_law_turn", "_law_lists", "_law_due", "_law_lap", "_law_found"], ["_law_script"]⟩
def il : List (Nat × DI) := ([(0, i_is_upto), (1, i_is_tie), (2, i_rises), (3, i_is_web), (4, i_need_web), (5, i_is_list), (6, i_are_lists_of), (24, i_need_lists), (27, i_tied_to), (145, i_taken_by), (146, i_sure_of), (147, i_sure), (103, i__law_box), (12, i__law_take), (104, i__law_web), (112, i__law_near), (300, i__law_short), (301, i__law_sure), (302, i_law)] : List (Nat × DI))
def infos : Nat → Option DI := infoOf il
def dl : List (Str × Nat × Nat) := ([("is_upto", 0, 3), ("is_tie", 1, 2), ("rises", 2, 1), ("is_web", 3, 1), ("need_web", 4, 1), ("is_list", 5, 1), ("are_lists_of", 6, 2), ("need_lists", 24, 2), ("tied_to", 27, 2), ("taken_by", 145, 4), ("sure_of", 146, 2), ("sure", 147, 2), ("_law_box", 103, 2), ("_law_take", 12, 2), ("_law_web", 104, 3), ("_law_near", 112, 2), ("_law_short", 300, 2), ("_law_sure", 301, 2), ("law", 302, 1)] : List (Str × Nat × Nat))
def gi : List (Str × Int) := [("MOST_PLACES", 6), ("MOST_HUE", 99), ("MOST_LONG", 8)]
def gz : List (Str × List Nat) := []
def xs : List (Str × Nat) := [("HueError", 0), ("NoWeb", 1), ("NoLists", 2)]
def hl : List (Str × Nat × Nat) := []
def ih : List (Nat × DI) := []
def infosH : Nat → Option DI := infoOf ih
def tx : Tx := ⟨dl, hl, gi, gz, xs⟩
theorem c_is_upto : DI.ok tx false (prog 0) i_is_upto = true := by decide +kernel
theorem c_is_tie : DI.ok tx false (prog 1) i_is_tie = true := by decide +kernel
theorem c_rises : DI.ok tx false (prog 2) i_rises = true := by decide +kernel
theorem c_is_web : DI.ok tx false (prog 3) i_is_web = true := by decide +kernel
theorem c_need_web : DI.ok tx false (prog 4) i_need_web = true := by decide +kernel
theorem c_is_list : DI.ok tx false (prog 5) i_is_list = true := by decide +kernel
theorem c_are_lists_of : DI.ok tx false (prog 6) i_are_lists_of = true := by decide +kernel
theorem c_need_lists : DI.ok tx false (prog 24) i_need_lists = true := by decide +kernel
theorem c_tied_to : DI.ok tx false (prog 27) i_tied_to = true := by decide +kernel
theorem c_taken_by : DI.ok tx false (prog 145) i_taken_by = true := by decide +kernel
theorem c_sure_of : DI.ok tx false (prog 146) i_sure_of = true := by decide +kernel
theorem c_sure : DI.ok tx false (prog 147) i_sure = true := by decide +kernel
theorem c__law_box : DI.ok tx false (prog 103) i__law_box = true := by decide +kernel
theorem c__law_take : DI.ok tx false (prog 12) i__law_take = true := by decide +kernel
theorem c__law_web : DI.ok tx false (prog 104) i__law_web = true := by decide +kernel
theorem c__law_near : DI.ok tx false (prog 112) i__law_near = true := by decide +kernel
theorem c__law_short : DI.ok tx false (prog 300) i__law_short = true := by decide +kernel
theorem c__law_sure : DI.ok tx false (prog 301) i__law_sure = true := by decide +kernel
theorem c_law : DI.ok tx false (prog 302) i_law = true := by decide +kernel
end Lk63
end

section 
set_option Elab.async false
set_option linter.all false
set_option maxRecDepth 100000
set_option maxHeartbeats 4000000
set_option maxHeartbeats 0
namespace Lk63
open PySem PySem.Spec PyProof.Rows L2 Pf
/-! ### the head -/
def fn : List He.DefD := [⟨("is_upto", none), "is_upto", "is_upto", i_is_upto.params, i_is_upto.body, i_is_upto.scope, [], []⟩, ⟨("is_tie", none), "is_tie", "is_tie", i_is_tie.params, i_is_tie.body, i_is_tie.scope, [], []⟩, ⟨("rises", none), "rises", "rises", i_rises.params, i_rises.body, i_rises.scope, [], []⟩, ⟨("is_web", none), "is_web", "is_web", i_is_web.params, i_is_web.body, i_is_web.scope, [], []⟩, ⟨("need_web", none), "need_web", "need_web", i_need_web.params, i_need_web.body, i_need_web.scope, [], []⟩, ⟨("is_list", none), "is_list", "is_list", i_is_list.params, i_is_list.body, i_is_list.scope, [], []⟩, ⟨("are_lists_of", none), "are_lists_of", "are_lists_of", i_are_lists_of.params, i_are_lists_of.body, i_are_lists_of.scope, [], []⟩, ⟨("need_lists", none), "need_lists", "need_lists", i_need_lists.params, i_need_lists.body, i_need_lists.scope, [], []⟩, ⟨("tied_to", none), "tied_to", "tied_to", i_tied_to.params, i_tied_to.body, i_tied_to.scope, [], []⟩, ⟨("taken_by", none), "taken_by", "taken_by", i_taken_by.params, i_taken_by.body, i_taken_by.scope, [], []⟩, ⟨("sure_of", none), "sure_of", "sure_of", i_sure_of.params, i_sure_of.body, i_sure_of.scope, [], []⟩, ⟨("sure", none), "sure", "sure", i_sure.params, i_sure.body, i_sure.scope, [], []⟩, ⟨("_law_box", none), "_law_box", "_law_box", i__law_box.params, i__law_box.body, i__law_box.scope, [], []⟩, ⟨("_law_take", none), "_law_take", "_law_take", i__law_take.params, i__law_take.body, i__law_take.scope, [], []⟩, ⟨("_law_web", none), "_law_web", "_law_web", i__law_web.params, i__law_web.body, i__law_web.scope, [], []⟩, ⟨("_law_near", none), "_law_near", "_law_near", i__law_near.params, i__law_near.body, i__law_near.scope, [], []⟩, ⟨("_law_short", none), "_law_short", "_law_short", i__law_short.params, i__law_short.body, i__law_short.scope, [], []⟩, ⟨("_law_sure", none), "_law_sure", "_law_sure", i__law_sure.params, i__law_sure.body, i__law_sure.scope, [], []⟩, ⟨("law", none), "law", "law", i_law.params, i_law.body, i_law.scope, [], []⟩]
def fa : List He.Fa := [.glo "is_upto", .glo "is_tie", .glo "rises", .glo "is_web", .glo "need_web", .glo "is_list", .glo "are_lists_of", .glo "need_lists", .glo "tied_to", .glo "taken_by", .glo "sure_of", .glo "sure", .glo "_law_box", .glo "_law_take", .glo "_law_web", .glo "_law_near", .glo "_law_short", .glo "_law_sure", .glo "law", .free "len", .free "abs", .free "all", .free "any", .free "sum", .free "max", .free "min", .free "divmod", .free "repr", .free "sorted", .free "int", .free "tuple", .free "list", .free "range", .free "zip", .free "enumerate", .free "isinstance", .free "bool", .free "str", .free "dict", .free "set", .free "ValueError", .int "MOST_PLACES" 6, .int "MOST_HUE" 99, .int "MOST_LONG" 8]
def lo : List PySem.Str := (["HueError", "NoWeb", "NoLists", "MOST_PLACES", "MOST_HUE", "MOST_LONG", "is_upto", "is_tie", "rises", "is_web", "need_web", "is_list", "are_lists_of", "need_lists", "tied_to", "taken_by", "sure_of", "sure", "_law_box", "_law_take"] : List PySem.Str) ++ (["_law_web", "_law_near", "_law_short", "_law_sure"] : List PySem.Str)
abbrev R : PySem.W.OpenRow := PySem.W.OpenLaw.row PySem.Challenge.rw_huelists_k63_what_follows_for_sure
abbrev hk : PySem.W.Hook := hookY 4 fa fn xs
def ob (s : PySem.W.SharedT) : AlY := obsY 4 fa fn xs (HandSHeadRun.getT s)
theorem ob_eq (s : PySem.W.SharedT) : ob s = hk.obs s.abs := obsY_eq (HandSHeadRun.getT_eq s)
theorem top_run (w : World) : HandSHeadRun.RunEq R (PySem.W.view R.prog [28]) hk ob 4000 lo w := by
  intro os
  kernel_rfl
end Lk63
end

section 
set_option Elab.async false
set_option linter.all false
set_option maxHeartbeats 4000000
set_option maxRecDepth 100000
/-! PiC: the webs that the laws draw (_law_web). -/
namespace Pf
def dWeb (fT : Nat) : Def := ⟨3, 18, false, [(.asg 3 (.bin .add (.var 1) (.call fT [(.var 0), (.bin .add (.bin .sub (.var 2) (.var 1)) (.cst (.int 1)))]))), (.asg 4 (.call fT [(.var 0), (.cst (.int 7))])), (.asg 5 (.idx (.lst [(.cst (.int 1)), (.cst (.int 2)), (.cst (.int 3))]) (.call fT [(.var 0), (.cst (.int 3))]))), (.asg 6 (.mut (.lst []))), (.for (.nm 7) (.rng2 (.cst (.int 1)) (.var 3)) [(.asg 11 (.call fT [(.var 0), (.var 7)])), (.for (.nm 12) (.rng1 (.var 7)) [(.asg 14 (.cmp .lt (.call fT [(.var 0), (.cst (.int 4))]) (.var 5))), (.asg 15 (.and (.cmp .isin (.bin .sub (.var 7) (.var 12)) (.tup [(.cst (.int 1)), (.bin .sub (.var 3) (.cst (.int 1)))])) (.cmp .eq (.var 4) (.cst (.int 2))))), (.asg 16 (.and (.cmp .eq (.bin .mod (.bin .add (.var 12) (.var 7)) (.cst (.int 2))) (.cst (.int 1))) (.and (.cmp .eq (.var 4) (.cst (.int 4))) (.var 14)))), (.asg 17 (.or (.cmp .eq (.var 12) (.var 11)) (.and (.cmp .eq (.var 4) (.cst (.int 5))) (.and (.cmp .eq (.bin .mod (.var 7) (.cst (.int 2))) (.cst (.int 0))) (.cmp .eq (.var 12) (.bin .sub (.var 7) (.cst (.int 1)))))))), (.ite (.or (.and (.cmp .isin (.var 4) (.tup [(.cst (.int 1)), (.cst (.int 5))])) (.var 17)) (.and (.cmp .isin (.var 4) (.tup [(.cst (.int 0)), (.cst (.int 6))])) (.var 14))) [(.expr (.meth .append (.var 6) [(.tup [(.var 12), (.var 7)])]))] [(.ite (.or (.var 15) (.or (.cmp .eq (.var 4) (.cst (.int 3))) (.var 16))) [(.expr (.meth .append (.var 6) [(.tup [(.var 12), (.var 7)])]))] [])])])]), (.asg 8 (.mut (.bi .listRange [(.var 3)]))), (.for (.nm 9) (.rng1 (.bin .mul (.var 3) (.bi .int [(.cmp .gt (.var 4) (.cst (.int 0)))]))) [(.asg 13 (.call fT [(.var 0), (.var 3)])), (.swp (.var 8) (.var 9) (.var 8) (.var 13) (.idx (.var 8) (.var 13)) (.idx (.var 8) (.var 9)))]), (.asg 10 (.mut (.lst []))), (.for (.tp [12, 7]) (.it (.var 6)) [(.expr (.meth .append (.var 10) [(.tup [(.bi .min2 [(.idx (.var 8) (.var 12)), (.idx (.var 8) (.var 7))]), (.bi .max2 [(.idx (.var 8) (.var 12)), (.idx (.var 8) (.var 7))])])]))]), (.ret (.tup [(.var 3), (.bi .tuple [(.bi .sorted [(.var 10)])])]))]⟩
theorem call_web {prog : Nat → Def} {fT fW : Nat} (hW : prog fW = dWeb fT) {k b : Nat} {S : Sto} {Q : D → Sto → Prop} (h : (execs (run prog k) (dWeb fT).body [some (.ref b), some (.int 1), some (.int 6), none, none, none, none, none, none, none, none, none, none, none, none, none, none, none] S).sat { rt := fun d S' => d.pure = true ∧ Kept S S' ∧ Q d (S'.take S.length), nx := fun _ S' => Kept S S' ∧ Q .non (S'.take S.length) }) : (run prog (k + 1) fW [.ref b, .int 1, .int 6] S).sat Q :=
  call_satD (P := prog) (f := fW) (k := k) (dWeb fT) hW rfl rfl h
theorem walk_rng2 {Φ : Nat → List D → Sto → Out D} {ρ : Env} {S : Sto} {i n : Nat} (h : ρ[i]? = some (some (.int n))) (hn : 1 ≤ n ∧ n ≤ 6) : evIt Φ (.rng2 (.cst (.int 1)) (.var i)) ρ S = .ok ⟨(List.range (n - 1)).map fun (k : Nat) => D.int (((k + 1 : Nat)) : Int), none⟩ S := by
  have r : rgOk 1 (n : Int) := by
    have := big_val
    unfold rgOk
    omega
  simp only [evIt, ev, h, Option.join_some, Out.opt_some, Out.ok_bind, s_intOf, Option.bind_some]
  rw [if_pos r]
  simp only [Out.opt_some, rangeI, Out.ok.injEq, Wk.mk.injEq, and_true]
  have e : ((n : Int) - 1).toNat = n - 1 := by omega
  rw [e]
  refine List.map_congr_left fun k _ => ?_
  congr 1
  omega
section
variable {prog : Nat → Def} {fT fW : Nat} {k : Nat} {S : Sto} {b : Nat} {n : Nat} {nz g t : Int}
/-- the names of a walk -/
def eW (S : Sto) (b : Nat) (nz g t : Int) (o7 o8 o9 o10 o11 o12 o13 o14 o15 o16 o17 : Option D) : Env :=
  [some (.ref b), some (.int 1), some (.int 6), some (.int nz), some (.int g), some (.int t), some (.ref (S.length + 0)), o7, o8, o9, o10, o11, o12, o13, o14, o15, o16, o17]
def inB (fT : Nat) : List Stm := [(.asg 14 (.cmp .lt (.call fT [(.var 0), (.cst (.int 4))]) (.var 5))), (.asg 15 (.and (.cmp .isin (.bin .sub (.var 7) (.var 12)) (.tup [(.cst (.int 1)), (.bin .sub (.var 3) (.cst (.int 1)))])) (.cmp .eq (.var 4) (.cst (.int 2))))), (.asg 16 (.and (.cmp .eq (.bin .mod (.bin .add (.var 12) (.var 7)) (.cst (.int 2))) (.cst (.int 1))) (.and (.cmp .eq (.var 4) (.cst (.int 4))) (.var 14)))), (.asg 17 (.or (.cmp .eq (.var 12) (.var 11)) (.and (.cmp .eq (.var 4) (.cst (.int 5))) (.and (.cmp .eq (.bin .mod (.var 7) (.cst (.int 2))) (.cst (.int 0))) (.cmp .eq (.var 12) (.bin .sub (.var 7) (.cst (.int 1)))))))), (.ite (.or (.and (.cmp .isin (.var 4) (.tup [(.cst (.int 1)), (.cst (.int 5))])) (.var 17)) (.and (.cmp .isin (.var 4) (.tup [(.cst (.int 0)), (.cst (.int 6))])) (.var 14))) [(.expr (.meth .append (.var 6) [(.tup [(.var 12), (.var 7)])]))] [(.ite (.or (.var 15) (.or (.cmp .eq (.var 4) (.cst (.int 3))) (.var 16))) [(.expr (.meth .append (.var 6) [(.tup [(.var 12), (.var 7)])]))] [])])]
theorem put_pair {Φ : Nat → List D → Sto → Out D} {x : Int} {i jj : Nat} {A : List (Int × Int)} {c : Int} {o14 o15 o16 o17 : Option D} {E : En} (hA : A.length < 1000) (h : E.nx (eW S b nz g t (some (.int i)) none none none (some (.int c)) (some (.int jj)) none o14 o15 o16 o17) (sx S b x [.lst ((A ++ [((jj : Int), (i : Int))]).map pairD)])) :
    (execs Φ [(.expr (.meth .append (.var 6) [(.tup [(.var 12), (.var 7)])]))] (eW S b nz g t (some (.int i)) none none none (some (.int c)) (some (.int jj)) none o14 o15 o16 o17) (sx S b x [.lst (A.map pairD)])).sat E := by
  refine sat_cons (sat_expr (app_sx (i := 0) (xs := A.map pairD) (d := pairD ((jj : Int), (i : Int))) rfl rfl (by simpa using hA) ?_) ?_)
  · simp [eW, ev, evs, pairD]
  · refine sat_nil (Φ := Φ) ?_
    have e : [O.lst (A.map pairD)].set 0 (.lst (A.map pairD ++ [pairD ((jj : Int), (i : Int))])) = [.lst ((A ++ [((jj : Int), (i : Int))]).map pairD)] := by simp
    rw [e]
    exact h
theorem inB_sat (hT : prog fT = dTake) {x : Int} {i jj : Nat} {A : List (Int × Int)} {c : Int} {o14 o15 o16 o17 : Option D} {E : En} (hb : b < S.length) (hA : A.length < 1000)
    (h : ∀ x A' o14 o15 o16 o17, A' = A ∨ A' = A ++ [((jj : Int), (i : Int))] → E.nx (eW S b nz g t (some (.int i)) none none none (some (.int c)) (some (.int jj)) none o14 o15 o16 o17) (sx S b x [.lst (A'.map pairD)])) :
    (execs (run prog (k + 1)) (inB fT) (eW S b nz g t (some (.int i)) none none none (some (.int c)) (some (.int jj)) none o14 o15 o16 o17) (sx S b x [.lst (A.map pairD)])).sat E := by
  refine sat_cons (sat_asg (d := .bl (decide (x % 4 < t))) (S1 := sx S b (x / 4) [.lst (A.map pairD)]) ?_ ?_)
  · have := take_sx hT k (S := S) (T := [.lst (A.map pairD)]) (x := x) (m := 4) hb (by omega)
    simp [eW, ev, evs, this]
  generalize decide (x % 4 < t) = t14
  generalize x / 4 = x
  show (execs (run prog (k + 1)) _ (eW S b nz g t (some (.int i)) none none none (some (.int c)) (some (.int jj)) none (some (.bl t14)) o15 o16 o17) (sx S b x [.lst (A.map pairD)])).sat E
  obtain ⟨t15, e15⟩ : ∃ u, ev (run prog (k + 1)) (.and (.cmp .isin (.bin .sub (.var 7) (.var 12)) (.tup [(.cst (.int 1)), (.bin .sub (.var 3) (.cst (.int 1)))])) (.cmp .eq (.var 4) (.cst (.int 2)))) (eW S b nz g t (some (.int i)) none none none (some (.int c)) (some (.int jj)) none (some (.bl t14)) o15 o16 o17) (sx S b x [.lst (A.map pairD)]) = .ok (.bl u) (sx S b x [.lst (A.map pairD)]) :=
    isb_and (isb_in (isi_sub (isi_var rfl) (isi_var rfl)) (isi_cst _) (isi_sub (isi_var rfl) (isi_cst _))) (isb_eq (isi_var rfl) (isi_cst _))
  refine sat_cons (sat_asg e15 ?_)
  show (execs (run prog (k + 1)) _ (eW S b nz g t (some (.int i)) none none none (some (.int c)) (some (.int jj)) none (some (.bl t14)) (some (.bl t15)) o16 o17) (sx S b x [.lst (A.map pairD)])).sat E
  obtain ⟨t16, e16⟩ : ∃ u, ev (run prog (k + 1)) (.and (.cmp .eq (.bin .mod (.bin .add (.var 12) (.var 7)) (.cst (.int 2))) (.cst (.int 1))) (.and (.cmp .eq (.var 4) (.cst (.int 4))) (.var 14))) (eW S b nz g t (some (.int i)) none none none (some (.int c)) (some (.int jj)) none (some (.bl t14)) (some (.bl t15)) o16 o17) (sx S b x [.lst (A.map pairD)]) = .ok (.bl u) (sx S b x [.lst (A.map pairD)]) :=
    isb_and (isb_eq (isi_mod (by omega) (isi_add (isi_var rfl) (isi_var rfl))) (isi_cst _)) (isb_and (isb_eq (isi_var rfl) (isi_cst _)) (isb_var rfl))
  refine sat_cons (sat_asg e16 ?_)
  show (execs (run prog (k + 1)) _ (eW S b nz g t (some (.int i)) none none none (some (.int c)) (some (.int jj)) none (some (.bl t14)) (some (.bl t15)) (some (.bl t16)) o17) (sx S b x [.lst (A.map pairD)])).sat E
  obtain ⟨t17, e17⟩ : ∃ u, ev (run prog (k + 1)) (.or (.cmp .eq (.var 12) (.var 11)) (.and (.cmp .eq (.var 4) (.cst (.int 5))) (.and (.cmp .eq (.bin .mod (.var 7) (.cst (.int 2))) (.cst (.int 0))) (.cmp .eq (.var 12) (.bin .sub (.var 7) (.cst (.int 1))))))) (eW S b nz g t (some (.int i)) none none none (some (.int c)) (some (.int jj)) none (some (.bl t14)) (some (.bl t15)) (some (.bl t16)) o17) (sx S b x [.lst (A.map pairD)]) = .ok (.bl u) (sx S b x [.lst (A.map pairD)]) :=
    isb_or (isb_eq (isi_var rfl) (isi_var rfl)) (isb_and (isb_eq (isi_var rfl) (isi_cst _)) (isb_and (isb_eq (isi_mod (by omega) (isi_var rfl)) (isi_cst _)) (isb_eq (isi_var rfl) (isi_sub (isi_var rfl) (isi_cst _)))))
  refine sat_cons (sat_asg e17 ?_)
  show (execs (run prog (k + 1)) _ (eW S b nz g t (some (.int i)) none none none (some (.int c)) (some (.int jj)) none (some (.bl t14)) (some (.bl t15)) (some (.bl t16)) (some (.bl t17))) (sx S b x [.lst (A.map pairD)])).sat E
  obtain ⟨u, eu⟩ : ∃ u, ev (run prog (k + 1)) (.or (.and (.cmp .isin (.var 4) (.tup [(.cst (.int 1)), (.cst (.int 5))])) (.var 17)) (.and (.cmp .isin (.var 4) (.tup [(.cst (.int 0)), (.cst (.int 6))])) (.var 14))) (eW S b nz g t (some (.int i)) none none none (some (.int c)) (some (.int jj)) none (some (.bl t14)) (some (.bl t15)) (some (.bl t16)) (some (.bl t17))) (sx S b x [.lst (A.map pairD)]) = .ok (.bl u) (sx S b x [.lst (A.map pairD)]) :=
    isb_or (isb_and (isb_in (isi_var rfl) (isi_cst _) (isi_cst _)) (isb_var rfl)) (isb_and (isb_in (isi_var rfl) (isi_cst _) (isi_cst _)) (isb_var rfl))
  obtain ⟨u2, eu2⟩ : ∃ u, ev (run prog (k + 1)) (.or (.var 15) (.or (.cmp .eq (.var 4) (.cst (.int 3))) (.var 16))) (eW S b nz g t (some (.int i)) none none none (some (.int c)) (some (.int jj)) none (some (.bl t14)) (some (.bl t15)) (some (.bl t16)) (some (.bl t17))) (sx S b x [.lst (A.map pairD)]) = .ok (.bl u) (sx S b x [.lst (A.map pairD)]) :=
    isb_or (isb_var rfl) (isb_or (isb_eq (isi_var rfl) (isi_cst _)) (isb_var rfl))
  refine sat_cons (sat_iteB eu (fun _ => ?_) (fun _ => ?_))
  · exact put_pair hA (sat_nil (Φ := run prog (k + 1)) (h _ _ _ _ _ _ (.inr rfl)))
  · refine sat_cons (sat_iteB eu2 (fun _ => ?_) (fun _ => ?_))
    · exact put_pair hA (sat_nil (Φ := run prog (k + 1)) (sat_nil (Φ := run prog (k + 1)) (h _ _ _ _ _ _ (.inr rfl))))
    · exact sat_nil (Φ := run prog (k + 1)) (sat_nil (Φ := run prog (k + 1)) (sat_nil (Φ := run prog (k + 1)) (h _ _ _ _ _ _ (.inl rfl))))
theorem loopB (hT : prog fT = dTake) {i : Nat} {iz x c : Int} (hiz : iz = (i : Int)) {A : List (Int × Int)} {o12 o14 o15 o16 o17 : Option D} {E : En} (hb : b < S.length) (hi6 : i ≤ 6) (hp : Pr i 0 A)
    (h : ∀ x A o12 o14 o15 o16 o17, Pr i i A → E.nx (eW S b nz g t (some (.int iz)) none none none (some (.int c)) o12 none o14 o15 o16 o17) (sx S b x [.lst (A.map pairD)])) :
    (exec (run prog (k + 1)) (.for (.nm 12) (.rng1 (.var 7)) (inB fT)) (eW S b nz g t (some (.int iz)) none none none (some (.int c)) o12 none o14 o15 o16 o17) (sx S b x [.lst (A.map pairD)])).sat E := by
  refine sat_for (fun jj ρ S' => ∃ x A o12 o14 o15 o16 o17, ρ = eW S b nz g t (some (.int iz)) none none none (some (.int c)) o12 none o14 o15 o16 o17 ∧ S' = sx S b x [.lst (A.map pairD)] ∧ Pr (i : Int) (jj : Nat) A) (it_rngN (n := i) (by simp [ev, eW, hiz]) (by omega)) ⟨x, A, o12, o14, o15, o16, o17, rfl, rfl, hp⟩ (fun _ _ _ _ => trivial) ?_ ?_
  · rintro jj d ρ S' hd ⟨x, A, o12, o14, o15, o16, o17, rfl, rfl, hp⟩
    have hjl : jj < i := by
      rcases Nat.lt_or_ge jj i with q | q
      · exact q
      · simp [List.getElem?_eq_none, q] at hd
    simp [hjl] at hd
    subst hd
    subst hiz
    refine ⟨eW S b nz g t (some (.int i)) none none none (some (.int c)) (some (.int jj)) none o14 o15 o16 o17, rfl, ?_⟩
    refine inB_sat (hT := hT) hb (by have := hp.few; omega) ?_
    intro x A' o14 o15 o16 o17 hA'
    refine ⟨x, A', _, o14, o15, o16, o17, rfl, rfl, ?_⟩
    rcases hA' with rfl | rfl
    · have := hp.skip
      simpa using this
    · have := hp.add (by omega) (by omega)
      simpa using this
  · rintro ρ S' ⟨x, A, o12, o14, o15, o16, o17, rfl, rfl, hp⟩
    simp only [List.length_map, List.length_range] at hp
    exact h _ _ _ _ _ _ _ hp
theorem bodyA (hT : prog fT = dTake) {x : Int} {i : Nat} {iz : Int} (hiz : iz = (i : Int)) {A : List (Int × Int)} {o11 o12 o14 o15 o16 o17 : Option D} {E : En} (hb : b < S.length) (hi : 1 ≤ i ∧ i ≤ 6) (hp : Pr i 0 A)
    (h : ∀ x A o7 o11 o12 o14 o15 o16 o17, Pr i i A → E.nx (eW S b nz g t o7 none none none o11 o12 none o14 o15 o16 o17) (sx S b x [.lst (A.map pairD)])) :
    (execs (run prog (k + 1)) [(.asg 11 (.call fT [(.var 0), (.var 7)])), (.for (.nm 12) (.rng1 (.var 7)) (inB fT))] (eW S b nz g t (some (.int iz)) none none none o11 o12 none o14 o15 o16 o17) (sx S b x [.lst (A.map pairD)])).sat E := by
  refine sat_cons (sat_asg (d := .int (x % iz)) (S1 := sx S b (x / iz) [.lst (A.map pairD)]) ?_ ?_)
  · have := take_sx hT k (S := S) (T := [.lst (A.map pairD)]) (x := x) (m := iz) hb (by omega)
    simp [eW, ev, evs, this]
  generalize x % iz = c
  generalize x / iz = x
  refine sat_cons ?_
  refine loopB (hT := hT) hiz hb (by omega) hp ?_
  intro x A o12 o14 o15 o16 o17 hp
  exact sat_nil (Φ := run prog (k + 1)) (h _ _ _ _ _ _ _ _ _ hp)
theorem loopA (hT : prog fT = dTake) {x : Int} {E : En} (hz : nz = (n : Int)) (hb : b < S.length) (hn : 1 ≤ n ∧ n ≤ 6)
    (h : ∀ x A o7 o11 o12 o14 o15 o16 o17, Pr n 0 A → E.nx (eW S b nz g t o7 none none none o11 o12 none o14 o15 o16 o17) (sx S b x [.lst (A.map pairD)])) :
    (exec (run prog (k + 1)) (.for (.nm 7) (.rng2 (.cst (.int 1)) (.var 3)) [(.asg 11 (.call fT [(.var 0), (.var 7)])), (.for (.nm 12) (.rng1 (.var 7)) (inB fT))]) (eW S b nz g t none none none none none none none none none none none) (sx S b x [.lst []])).sat E := by
  refine sat_for (fun jx ρ S' => ∃ x A o7 o11 o12 o14 o15 o16 o17, ρ = eW S b nz g t o7 none none none o11 o12 none o14 o15 o16 o17 ∧ S' = sx S b x [.lst (A.map pairD)] ∧ Pr ((jx + 1 : Nat) : Int) 0 A) (walk_rng2 (by show some (some (D.int nz)) = _; rw [hz]) hn) ⟨x, [], none, none, none, none, none, none, none, rfl, rfl, Pr.nil (by omega)⟩ (fun _ _ _ _ => trivial) ?_ ?_
  · rintro jx d ρ S' hd ⟨x, A, o7, o11, o12, o14, o15, o16, o17, rfl, rfl, hp⟩
    have hlt : jx < n - 1 := by
      rcases Nat.lt_or_ge jx (n - 1) with q | q
      · exact q
      · simp [List.getElem?_eq_none, q] at hd
    obtain ⟨iz, hiz⟩ : ∃ iz : Int, iz = ((jx + 1 : Nat) : Int) := ⟨_, rfl⟩
    rw [List.getElem?_map, List.getElem?_range hlt, Option.map_some, ← hiz] at hd
    cases hd
    refine ⟨eW S b nz g t (some (.int iz)) none none none o11 o12 none o14 o15 o16 o17, rfl, ?_⟩
    refine bodyA (hT := hT) hiz hb (by omega) hp ?_
    intro x A o7 o11 o12 o14 o15 o16 o17 hp
    refine ⟨x, A, o7, o11, o12, o14, o15, o16, o17, rfl, rfl, ?_⟩
    have := hp.next (by omega) (by omega)
    simpa using this
  · rintro ρ S' ⟨x, A, o7, o11, o12, o14, o15, o16, o17, rfl, rfl, hp⟩
    refine h x A o7 o11 o12 o14 o15 o16 o17 ?_
    simp only [List.length_map, List.length_range] at hp
    rwa [show n - 1 + 1 = n by omega] at hp
end
section
variable {prog : Nat → Def} {fT fW : Nat} {k : Nat} {S : Sto} {b : Nat} {n : Nat} {nz g t : Int}
theorem loopC (hT : prog fT = dTake) {x : Int} {A : List (Int × Int)} {o7 o11 o12 o14 o15 o16 o17 : Option D} {E : En} (hz : nz = (n : Int)) (hb : b < S.length) (hn : 1 ≤ n ∧ n ≤ 6)
    (h : ∀ x o o9 o13, List.Perm o (o0 n) → E.nx (eW S b nz g t o7 (some (.ref (S.length + 1))) o9 none o11 o12 o13 o14 o15 o16 o17) (sx S b x [.lst (A.map pairD), .lst (o.map D.int)])) :
    (exec (run prog (k + 1)) (.for (.nm 9) (.rng1 (.bin .mul (.var 3) (.bi .int [(.cmp .gt (.var 4) (.cst (.int 0)))]))) [(.asg 13 (.call fT [(.var 0), (.var 3)])), (.swp (.var 8) (.var 9) (.var 8) (.var 13) (.idx (.var 8) (.var 13)) (.idx (.var 8) (.var 9)))])
      (eW S b nz g t o7 (some (.ref (S.length + 1))) none none o11 o12 none o14 o15 o16 o17) (sx S b x [.lst (A.map pairD), .lst ((o0 n).map D.int)])).sat E := by
  obtain ⟨c, hc⟩ : ∃ c : Nat, c = if 0 < g then n else 0 := ⟨_, rfl⟩
  have hcn : c ≤ n := by rw [hc]; split <;> omega
  have hI : evIt (run prog (k + 1)) (.rng1 (.bin .mul (.var 3) (.bi .int [(.cmp .gt (.var 4) (.cst (.int 0)))]))) (eW S b nz g t o7 (some (.ref (S.length + 1))) none none o11 o12 none o14 o15 o16 o17) (sx S b x [.lst (A.map pairD), .lst ((o0 n).map D.int)]) = .ok ⟨(List.range c).map fun (j : Nat) => D.int (j : Int), none⟩ (sx S b x [.lst (A.map pairD), .lst ((o0 n).map D.int)]) := by
    refine it_rngN (n := c) ?_ (by omega)
    have two : (2 : Nat) ^ 64 = 18446744073709551616 := by decide
    have m0 : (n : Int).natAbs < 2 ^ 64 := by omega
    have m1 : ∀ j : Int, mulOk (n : Int) j = true := fun j => mulL m0
    subst hz
    have e : (n : Int) * (if 0 < g then 1 else 0) = (c : Int) := by rw [hc]; split <;> simp
    simp [eW, ev, evs, s_mul (m1 _)]
    simpa using e
  refine sat_for (fun jx ρ S' => ∃ x o o9 o13, ρ = eW S b nz g t o7 (some (.ref (S.length + 1))) o9 none o11 o12 o13 o14 o15 o16 o17 ∧ S' = sx S b x [.lst (A.map pairD), .lst (o.map D.int)] ∧ List.Perm o (o0 n)) hI ⟨x, o0 n, none, none, rfl, rfl, List.Perm.refl _⟩ (fun _ _ _ _ => trivial) ?_ ?_
  · rintro jx d ρ S' hd ⟨x, o, o9, o13, rfl, rfl, hp⟩
    have hlt : jx < c := by
      rcases Nat.lt_or_ge jx c with q | q
      · exact q
      · simp [List.getElem?_eq_none, q] at hd
    rw [List.getElem?_map, List.getElem?_range hlt, Option.map_some] at hd
    cases hd
    have hl : o.length = n := by rw [hp.length_eq]; simp [o0]
    refine ⟨eW S b nz g t o7 (some (.ref (S.length + 1))) (some (.int jx)) none o11 o12 o13 o14 o15 o16 o17, rfl, ?_⟩
    obtain ⟨y, hy, hy2⟩ : ∃ y : Nat, x % (n : Int) = (y : Int) ∧ y < n := by
      have h1 := Int.emod_nonneg x (b := (n : Int)) (by omega)
      have h2 := Int.emod_lt_of_pos x (b := (n : Int)) (by omega)
      exact ⟨(x % (n : Int)).toNat, by omega, by omega⟩
    refine sat_cons (sat_asg (d := .int y) (S1 := sx S b (x / nz) [.lst (A.map pairD), .lst (o.map D.int)]) ?_ ?_)
    · have := take_sx hT k (S := S) (T := [.lst (A.map pairD), .lst (o.map D.int)]) (x := x) (m := nz) hb (by omega)
      rw [hz, hy, ← hz] at this
      simp [eW, ev, evs, this]
    generalize x / nz = x
    have e := swp_sx (Φ := run prog (k + 1)) (ρ := eW S b nz g t o7 (some (.ref (S.length + 1))) (some (.int jx)) none o11 o12 (some (.int y)) o14 o15 o16 o17) (S := S) (b := b) (x := x) (T := [.lst (A.map pairD), .lst (o.map D.int)]) (i := 1) (a := jx) (c := y) (o := o) rfl rfl rfl rfl (by omega) (by omega)
    refine sat_cons ?_
    show (exec (run prog (k + 1)) _ (eW S b nz g t o7 (some (.ref (S.length + 1))) (some (.int jx)) none o11 o12 (some (.int y)) o14 o15 o16 o17) (sx S b x [.lst (A.map pairD), .lst (o.map D.int)])).sat _
    rw [e]
    refine sat_nil (Φ := run prog (k + 1)) ⟨x, _, _, _, rfl, rfl, ?_⟩
    exact (List.set_set_perm (by omega) (by omega)).trans hp
  · rintro ρ S' ⟨x, o, o9, o13, rfl, rfl, hp⟩
    exact h x o o9 o13 hp
theorem og_idx {x : Int} {T : Sto} {o : List Int} {i : Int} {p : Nat} (hT : T[p]? = some (.lst (o.map D.int))) (h0 : 0 ≤ i) (h1 : i < o.length) : idxOp (sx S b x T) (.ref (S.length + p)) (.int i) = some (.int (og o i)) := by
  have hi : i.toNat < o.length := by omega
  have := idx_sx (S := S) (b := b) (x := x) hT hi
  rw [Int.toNat_of_nonneg h0] at this
  rw [this]
  unfold og
  rw [List.getElem?_eq_getElem hi]
  rfl
theorem loopD {x : Int} {A : List (Int × Int)} {o : List Int} {o7 o9 o11 o12 o13 o14 o15 o16 o17 : Option D} {E : En} (hp : List.Perm o (o0 n)) (hA : Pr n 0 A) (hn : 1 ≤ n ∧ n ≤ 6)
    (h : ∀ o7 o12, E.nx (eW S b nz g t o7 (some (.ref (S.length + 1))) o9 (some (.ref (S.length + 2))) o11 o12 o13 o14 o15 o16 o17) (sx S b x [.lst (A.map pairD), .lst (o.map D.int), .lst ((A.map (ft o)).map pairD)])) :
    (exec (run prog (k + 1)) (.for (.tp [12, 7]) (.it (.var 6)) [(.expr (.meth .append (.var 10) [(.tup [(.bi .min2 [(.idx (.var 8) (.var 12)), (.idx (.var 8) (.var 7))]), (.bi .max2 [(.idx (.var 8) (.var 12)), (.idx (.var 8) (.var 7))])])]))])
      (eW S b nz g t o7 (some (.ref (S.length + 1))) o9 (some (.ref (S.length + 2))) o11 o12 o13 o14 o15 o16 o17) (sx S b x [.lst (A.map pairD), .lst (o.map D.int), .lst []])).sat E := by
  have hl : o.length = n := by rw [hp.length_eq]; simp [o0]
  have fewA : A.length < 1000 := by have := hA.few; omega
  have a1 : ∀ X, (sx S b x [.lst (A.map pairD), .lst (o.map D.int), X])[S.length]? = some (.lst (A.map pairD)) := fun X => sx_at (i := 0)
  have hI : evIt (run prog (k + 1)) (.it (.var 6)) (eW S b nz g t o7 (some (.ref (S.length + 1))) o9 (some (.ref (S.length + 2))) o11 o12 o13 o14 o15 o16 o17) (sx S b x [.lst (A.map pairD), .lst (o.map D.int), .lst []]) = .ok ⟨A.map pairD, some (S.length, .lst (A.map pairD))⟩ (sx S b x [.lst (A.map pairD), .lst (o.map D.int), .lst []]) := by
    simp [eW, evIt, ev, walkOf, a1]
  refine sat_for (fun jx ρ S' => ∃ o7 o12, ρ = eW S b nz g t o7 (some (.ref (S.length + 1))) o9 (some (.ref (S.length + 2))) o11 o12 o13 o14 o15 o16 o17 ∧ S' = sx S b x [.lst (A.map pairD), .lst (o.map D.int), .lst (((A.take jx).map (ft o)).map pairD)]) hI ⟨o7, o12, rfl, by simp⟩ ?_ ?_ ?_
  · rintro jx ρ S' ⟨o7, o12, rfl, rfl⟩
    exact a1 _
  · rintro jx d ρ S' hd ⟨o7, o12, rfl, rfl⟩
    rw [List.getElem?_map] at hd
    obtain ⟨p, hpA, rfl⟩ := Option.map_eq_some_iff.mp hd
    have hm : p ∈ A := List.mem_of_getElem? hpA
    have hlie := hA.lie p hm
    refine ⟨eW S b nz g t (some (.int p.2)) (some (.ref (S.length + 1))) o9 (some (.ref (S.length + 2))) o11 (some (.int p.1)) o13 o14 o15 o16 o17, rfl, ?_⟩
    have i1 := og_idx (S := S) (b := b) (x := x) (T := [.lst (A.map pairD), .lst (o.map D.int), .lst (((A.take jx).map (ft o)).map pairD)]) (o := o) (i := p.1) (p := 1) rfl (by omega) (by omega)
    have i2 := og_idx (S := S) (b := b) (x := x) (T := [.lst (A.map pairD), .lst (o.map D.int), .lst (((A.take jx).map (ft o)).map pairD)]) (o := o) (i := p.2) (p := 1) rfl (by omega) (by omega)
    refine sat_cons (sat_expr (app_sx (i := 2) (xs := ((A.take jx).map (ft o)).map pairD) (d := pairD (ft o p)) rfl rfl (by simp; omega) ?_) ?_)
    · generalize ((A.take jx).map (ft o)).map pairD = X at i1 i2 ⊢
      simp [eW, ev, evs, i1, i2, pairD, ft]
    · refine sat_nil (Φ := run prog (k + 1)) ⟨_, _, rfl, ?_⟩
      have e : A.take (jx + 1) = A.take jx ++ [p] := by rw [List.take_add_one, hpA]; rfl
      simp [e]
  · rintro ρ S' ⟨o7, o12, rfl, rfl⟩
    have := h o7 o12
    simpa using this
theorem sort_sx {x : Int} {T : Sto} {p : Nat} {C : List (Int × Int)} (hT : T[p]? = some (.lst (C.map pairD))) : biOp (sx S b x T) .sorted [.ref (S.length + p)] = some (.lst ((sortP C).map pairD)) := by
  have a1 : (sx S b x T)[S.length + p]? = some (.lst (C.map pairD)) := by rw [sx_at, hT]
  have := s_sortP' (sx S b x T) C
  simp only [biOp, lstOf, res, a1] at this ⊢
  exact this
theorem web_sat (hT : prog fT = dTake) (hW : prog fW = dWeb fT) (x : Int) (hb : b < S.length) : (run prog (k + 1 + 1) fW [.ref b, .int 1, .int 6] (sx S b x [])).sat fun d S' => ∃ (n : Nat) (ts : List (Int × Int)) (y : Int), Web n ts ∧ d = webD n ts ∧ S' = sx S b y [] := by
  refine call_web hW ?_
  obtain ⟨n, hn, hn1⟩ : ∃ n : Nat, 1 + x % 6 = (n : Int) ∧ 1 ≤ n ∧ n ≤ 6 := ⟨(1 + x % 6).toNat, by omega, by omega, by omega⟩
  obtain ⟨nz, hz⟩ : ∃ nz : Int, nz = (n : Int) := ⟨_, rfl⟩
  refine sat_cons (sat_asg (d := .int nz) (S1 := sx S b (x / 6) []) ?_ ?_)
  · have := take_sx hT k (S := S) (T := []) (x := x) (m := 6) hb (by omega)
    simp [ev, evs, this, hn, hz]
  generalize x / 6 = x
  refine sat_cons (sat_asg (d := .int (x % 7)) (S1 := sx S b (x / 7) []) ?_ ?_)
  · have := take_sx hT k (S := S) (T := []) (x := x) (m := 7) hb (by omega)
    simp [ev, evs, this]
  generalize x % 7 = g
  generalize x / 7 = x
  obtain ⟨t, ht⟩ : ∃ t : Int, atOf [D.int 1, D.int 2, D.int 3] (x % 3) = some (.int t) := by
    have : x % 3 = 0 ∨ x % 3 = 1 ∨ x % 3 = 2 := by omega
    rcases this with h | h | h <;> rw [h]
    · exact ⟨1, rfl⟩
    · exact ⟨2, rfl⟩
    · exact ⟨3, rfl⟩
  refine sat_cons (sat_asg (d := .int t) (S1 := sx S b (x / 3) []) ?_ ?_)
  · have := take_sx hT k (S := S) (T := []) (x := x) (m := 3) hb (by omega)
    simp [ev, evs, this, ht]
  generalize x / 3 = x
  refine sat_cons (sat_asg (mut_sx (T := []) (xs := []) (by simp [ev, evs])) ?_)
  refine sat_cons (loopA (hT := hT) (n := n) hz hb hn1 ?_)
  intro x A o7 o11 o12 o14 o15 o16 o17 hA
  have e8 : ev (run prog (k + 1)) (.mut (.bi .listRange [(.var 3)])) (eW S b nz g t o7 none none none o11 o12 none o14 o15 o16 o17) (sx S b x [.lst (A.map pairD)]) = .ok (.ref (S.length + 1)) (sx S b x [.lst (A.map pairD), .lst ((o0 n).map D.int)]) := by
    refine mut_sx (T := [.lst (A.map pairD)]) ?_
    have := big_val
    have e : biOp (sx S b x [.lst (A.map pairD)])   .listRange [.int nz] = some (.lst ((o0 n).map D.int)) := by
      rw [hz]
      show (if -1000000 < (n : Int) ∧ (n : Int) < big then some (D.lst (rangeI 0 n)) else none) = _
      rw [if_pos (by omega), rangeI_nat]
      simp [o0, Function.comp_def]
    simp only [eW, ev, evs_cons, evs_nil, consS, List.getElem?_cons_zero, List.getElem?_cons_succ, Option.join_some, Out.opt_some, Out.ok_bind, e]
  refine sat_cons (sat_asg e8 ?_)
  refine sat_cons (loopC (hT := hT) (n := n) hz hb hn1 ?_)
  intro x o o9 o13 hp
  refine sat_cons (sat_asg (mut_sx (xs := []) (by simp [ev, evs])) ?_)
  refine sat_cons (loopD (n := n) hp hA hn1 ?_)
  intro o7 o12
  refine sat_cons (sat_ret (d := webD n (sortP (A.map (ft o)))) (S1 := sx S b x [.lst (A.map pairD), .lst (o.map D.int), .lst ((A.map (ft o)).map pairD)]) ?_ ?_)
  · have := sort_sx (S := S) (b := b) (x := x) (T := [.lst (A.map pairD), .lst (o.map D.int), .lst ((A.map (ft o)).map pairD)]) (p := 2) (C := A.map (ft o)) rfl
    generalize (A.map (ft o)) = C at this ⊢
    rw [hz]
    simp [eW, ev, evs, this, webD]
  · exact ⟨web_pure _ _, sx_kept hb, n, _, x, ft_web hp hn1 hA, rfl, sx_take⟩
theorem web_spec (hT : prog fT = dTake) (hW : prog fW = dWeb fT) (x : Int) (hb : b < S.length) : ∃ (n : Nat) (ts : List (Int × Int)) (y : Int), Web n ts ∧ run prog (k + 1 + 1) fW [.ref b, .int 1, .int 6] (sx S b x []) = .ok (webD n ts) (sx S b y []) := by
  obtain ⟨d, S', e, n, ts, y, hw, rfl, rfl⟩ := Out.sat_ex (web_sat (k := k) hT hW x hb)
  exact ⟨n, ts, y, hw, e⟩
end
end Pf
end

section 
set_option Elab.async false
set_option linter.all false
set_option maxHeartbeats 4000000
set_option maxRecDepth 100000
/-! PiD: webs are known as webs (is_upto .. need_web), whatever the program's numbers are. -/
namespace Pf
def dUpto : Def := ⟨3, 3, false, [(.ret (.and (.isi .int (.var 0)) (.and (.not (.isi .bool (.var 0))) (.chain .le .le (.var 1) (.var 0) (.var 2)))))]⟩
def dTie (fU : Nat) : Def := ⟨2, 3, false, [(.ite (.or (.not (.isi .tuple (.var 0))) (.cmp .ne (.bi .len [(.var 0)]) (.cst (.int 2)))) [(.ret (.cst (.bl false)))] []), (.ret (.and (.bi .all [(.comp (.call fU [(.var 2), (.cst (.int 0)), (.bin .sub (.var 1) (.cst (.int 1)))]) (.nm 2) (.it (.var 0)) none)]) (.cmp .lt (.idx (.var 0) (.cst (.int 0))) (.idx (.var 0) (.cst (.int 1))))))]⟩
def dRises : Def := ⟨1, 2, false, [(.ret (.bi .all [(.comp (.cmp .lt (.idx (.var 0) (.bin .sub (.var 1) (.cst (.int 1)))) (.idx (.var 0) (.var 1))) (.nm 1) (.rng2 (.cst (.int 1)) (.bi .len [(.var 0)])) none)]))]⟩
def dWebQ (fU fI fR : Nat) : Def := ⟨1, 2, false, [(.ite (.or (.not (.isi .tuple (.var 0))) (.or (.cmp .ne (.bi .len [(.var 0)]) (.cst (.int 2))) (.not (.call fU [(.idx (.var 0) (.cst (.int 0))), (.cst (.int 1)), (.glb "MOST_PLACES" (.int 6))])))) [(.ret (.cst (.bl false)))] []), (.ite (.or (.not (.isi .tuple (.idx (.var 0) (.cst (.int 1))))) (.not (.bi .all [(.comp (.call fI [(.var 1), (.idx (.var 0) (.cst (.int 0)))]) (.nm 1) (.it (.idx (.var 0) (.cst (.int 1)))) none)]))) [(.ret (.cst (.bl false)))] []), (.ret (.call fR [(.idx (.var 0) (.cst (.int 1)))]))]⟩
def dNeed (fQ : Nat) : Def := ⟨1, 1, false, [(.ite (.not (.call fQ [(.var 0)])) [(.raise 1 none)] [])]⟩
section
variable {prog : Nat → Def} {fU fI fR fQ fN : Nat}
theorem is_upto_spec (hU : prog fU = dUpto) (k : Nat) (i lo hi : Int) (S : Sto) : run prog (k + 1) fU [.int i, .int lo, .int hi] S = .ok (.bl (decide (lo ≤ i ∧ i ≤ hi))) S := by
  refine call_rt dUpto hU rfl rfl rfl ?_
  simp [dUpto, execs, exec, ev]
  by_cases h : lo ≤ i <;> simp [h]
theorem is_tie_spec (hU : prog fU = dUpto) (hI : prog fI = dTie fU) (k : Nat) (p : Int × Int) (n : Int) (S : Sto) (h : 0 ≤ p.1 ∧ p.1 < p.2 ∧ p.2 < n) : run prog (k + 2) fI [pairD p, .int n] S = .ok (.bl true) S := by
  refine call_rt (dTie fU) hI rfl rfl rfl ?_
  have e := comp_map (Φ := run prog (k + 1)) (elt := .call fU [.var 2, .cst (.int 0), .bin .sub (.var 1) (.cst (.int 1))]) (tg := .nm 2) (it := .it (.var 0)) (ρ := [some (pairD p), some (.int n), none]) (S := S) (S1 := S) [p.1, p.2] D.int (fun _ => .bl true) (by simp [evIt, ev, pairD]) (by
    intro a ha
    refine ⟨_, rfl, ?_⟩
    simp only [List.mem_cons, List.not_mem_nil, or_false] at ha
    simp [ev, evs, wipe, Tgt.own]
    rw [is_upto_spec hU]
    simp
    rcases ha with rfl | rfl <;> omega)
  have e1 : biOp S .all [.lst ([p.1, p.2].map fun _ => D.bl true)] = some (.bl true) := s_all S [true, true]
  simp only [dTie, execs, exec]
  simp [ev, evs, pairD] at e ⊢
  simp [e, ev, evs]
  simp at e1
  simp [e1]
  exact h.2.1
theorem lexLt2 (a b c d : Int) : lexLt [a, b] [c, d] = decide (a < c ∨ (a = c ∧ b < d)) := by
  simp only [lexLt]
  by_cases h : a = c
  · subst h
    by_cases h2 : b = d
    · subst h2; simp
    · simp [h2]
  · simp [h]
theorem rises_spec (hR : prog fR = dRises) (k : Nat) (ts : List (Int × Int)) (S : Sto) (hf : ts.length ≤ 1000) (h : ts.Pairwise fun p q => p.1 < q.1 ∨ (p.1 = q.1 ∧ p.2 < q.2)) : run prog (k + 1) fR [.tup (ts.map pairD)] S = .ok (.bl true) S := by
  refine call_rt dRises hR rfl rfl rfl ?_
  have e := comp_map (Φ := run prog k) (elt := .cmp .lt (.idx (.var 0) (.bin .sub (.var 1) (.cst (.int 1)))) (.idx (.var 0) (.var 1))) (tg := .nm 1) (it := .rng2 (.cst (.int 1)) (.bi .len [.var 0])) (ρ := [some (.tup (ts.map pairD)), none]) (S := S) (S1 := S) (List.range (ts.length - 1)) (fun j => D.int (1 + (j : Int))) (fun _ => .bl true) (by
    simp [evIt, ev, evs, rangeI, rgOk, big]
    rw [if_pos (by omega)]
    simp) (by
    intro j hj
    rw [List.mem_range] at hj
    refine ⟨_, rfl, ?_⟩
    have e1 : (1 + (j : Int)) - 1 = (j : Int) := by omega
    have e2 : (1 + (j : Int)) = ((j + 1 : Nat) : Int) := by omega
    simp [ev, wipe, Tgt.own, e1]
    rw [e2, s_atN, s_atN]
    simp
    rw [List.getElem?_eq_getElem (by omega), List.getElem?_eq_getElem (by omega)]
    simp [pairD, cmpOp, ltOp, intsOf, allOf, lexLt2]
    have := List.pairwise_iff_getElem.mp h j (j + 1) (by omega) (by omega) (by omega)
    exact this)
  have e1 := s_allT S (List.range (ts.length - 1))
  simp only [dRises, execs, exec]
  simp [ev, evs] at e e1 ⊢
  simp [e, e1]
theorem is_web_spec (hU : prog fU = dUpto) (hI : prog fI = dTie fU) (hR : prog fR = dRises) (hQ : prog fQ = dWebQ fU fI fR) (k : Nat) (n : Int) (ts : List (Int × Int)) (S : Sto) (h : Web n ts) : run prog (k + 3) fQ [webD n ts] S = .ok (.bl true) S := by
  refine call_rt (dWebQ fU fI fR) hQ rfl rfl rfl ?_
  have e := comp_map (Φ := run prog (k + 2)) (elt := .call fI [.var 1, .idx (.var 0) (.cst (.int 0))]) (tg := .nm 1) (it := .it (.idx (.var 0) (.cst (.int 1)))) (ρ := [some (webD n ts), none]) (S := S) (S1 := S) ts pairD (fun _ => .bl true) (by simp [evIt, ev, webD]) (by
    intro p hp
    refine ⟨_, rfl, ?_⟩
    simp [ev, evs, wipe, Tgt.own, webD]
    exact is_tie_spec hU hI k p n S (h.tie p hp))
  have e1 := s_allT S ts
  have e2 := is_upto_spec hU (k + 1) n 1 6 S
  have e3 := rises_spec hR (k + 1) ts S h.few h.up
  have e4 : decide (1 ≤ n ∧ n ≤ 6) = true := by simp [h.lo, h.hi]
  rw [e4] at e2
  simp only [dWebQ, execs, exec]
  simp [ev, evs, webD] at e e1 ⊢
  simp [e2, e, e1, e3]
theorem need_web_spec (hU : prog fU = dUpto) (hI : prog fI = dTie fU) (hR : prog fR = dRises) (hQ : prog fQ = dWebQ fU fI fR) (hN : prog fN = dNeed fQ) (k : Nat) (n : Int) (ts : List (Int × Int)) (S : Sto) (h : Web n ts) : run prog (k + 4) fN [webD n ts] S = .ok .non S := by
  refine call_nx (ρ := [some (webD n ts)]) (dNeed fQ) hN rfl ?_
  simp [dNeed, execs, exec, ev, evs, is_web_spec hU hI hR hQ k n ts S h]
end
end Pf
end

section 
set_option Elab.async false
set_option linter.all false
set_option maxRecDepth 100000
set_option maxHeartbeats 1000000
/-! PwC: typed data as own values, and what operations do with them. -/
namespace Pf
open PySem
/-! ### depth -/
theorem D.plain_mono : ∀ (n : Nat) (d : D), d.plain n = true → d.plain (n + 1) = true
  | 0, d, h => by cases h
  | n + 1, .tup xs, h => by
    simp only [D.plain, List.all_eq_true] at h ⊢
    exact fun x hx => D.plain_mono n x (h x hx)
  | n + 1, .lst xs, h => by
    simp only [D.plain, List.all_eq_true] at h ⊢
    exact fun x hx => D.plain_mono n x (h x hx)
  | n + 1, .non, _ => rfl
  | n + 1, .bl _, _ => rfl
  | n + 1, .int _, _ => rfl
  | n + 1, .str z, h => by simpa only [D.plain] using h
  | n + 1, .dic _ _ _, h => by cases h
  | n + 1, .ref _, h => by cases h
  | n + 1, .scr _, h => by cases h
  | n + 1, .exc _ _, h => by cases h
theorem D.plain_le {n m : Nat} {d : D} (h : n ≤ m) (q : d.plain n = true) : d.plain m = true := by
  obtain ⟨k, rfl⟩ := Nat.exists_eq_add_of_le h
  clear h
  induction k with
  | zero => exact q
  | succ k ih => exact D.plain_mono _ _ ih
/-! ### kinds of data -/
class Enc (α : Type) where
  enc : α → D
  dep : Nat
  pure : ∀ a, (enc a).pure = true
  plain : ∀ a, (enc a).plain dep = true
  eqv : ∀ a b, (enc a).eqv (enc b) = true ↔ a = b
  res : ∀ (S : Sto) a, Pf.res S (enc a) = enc a
open Enc (enc dep)
def tu {α : Type} [Enc α] (l : List α) : D := .tup (l.map enc)
def ls {α : Type} [Enc α] (l : List α) : D := .lst (l.map enc)
theorem pureL_map {α : Type} [Enc α] : ∀ l : List α, D.pureL (l.map enc) = true
  | [] => rfl
  | a :: l => by simp only [List.map_cons, D.pureL, Enc.pure, pureL_map l, Bool.and_self]
theorem all_plain {α : Type} [Enc α] {n : Nat} (h : dep α ≤ n) (l : List α) : (l.map enc).all (D.plain n) = true := by
  rw [List.all_eq_true]
  intro d hd
  obtain ⟨a, _, rfl⟩ := List.mem_map.mp hd
  exact D.plain_le h (Enc.plain a)
theorem eqvL_map {α : Type} [Enc α] : ∀ l m : List α, D.eqvL (l.map enc) (m.map enc) = true ↔ l = m
  | [], [] => by simp [D.eqvL]
  | [], b :: m => by simp [D.eqvL]
  | a :: l, [] => by simp [D.eqvL]
  | a :: l, b :: m => by simp only [List.map_cons, D.eqvL, Bool.and_eq_true, Enc.eqv, eqvL_map l m, List.cons.injEq]
@[simp] theorem pure_tu {α : Type} [Enc α] (l : List α) : (tu l).pure = true := by simp [tu, D.pure, pureL_map]
@[simp] theorem pure_ls {α : Type} [Enc α] (l : List α) : (ls l).pure = true := by simp [ls, D.pure, pureL_map]
theorem plain_tu {α : Type} [Enc α] (l : List α) : (tu l).plain (dep α + 1) = true := all_plain (Nat.le_refl _) l
theorem plain_ls {α : Type} [Enc α] (l : List α) : (ls l).plain (dep α + 1) = true := all_plain (Nat.le_refl _) l
instance : Enc Int := ⟨.int, 1, fun _ => rfl, fun _ => rfl, fun a b => by simp [D.eqv], fun _ _ => rfl⟩
instance : Enc Bool := ⟨.bl, 1, fun _ => rfl, fun _ => rfl, fun a b => by simp [D.eqv], fun _ _ => rfl⟩
instance : Enc (Int × Int) := ⟨pairD, 2, fun _ => rfl, fun _ => rfl, fun a b => by
  simp only [pairD, D.eqv, D.eqvL, Bool.and_true, Bool.and_eq_true, beq_iff_eq]
  exact Prod.ext_iff.symm, fun _ _ => rfl⟩
instance {α : Type} [Enc α] : Enc (List α) := ⟨tu, dep α + 1, pure_tu, plain_tu, fun a b => by simp only [tu, D.eqv]; exact eqvL_map a b, fun _ _ => rfl⟩
instance encNat : Enc Nat := ⟨fun n => .int n, 1, fun _ => rfl, fun _ => rfl, fun a b => by simp [D.eqv]; omega, fun _ _ => rfl⟩
@[simp] theorem enc_int (i : Int) : enc i = D.int i := rfl
@[simp] theorem enc_bool (i : Bool) : enc i = D.bl i := rfl
@[simp] theorem enc_nat (i : Nat) : enc i = D.int i := rfl
@[simp] theorem enc_pair (i : Int × Int) : enc i = pairD i := rfl
@[simp] theorem enc_list {α : Type} [Enc α] (l : List α) : enc l = tu l := rfl
@[simp] theorem dep_int : dep Int = 1 := rfl
@[simp] theorem dep_bool : dep Bool = 1 := rfl
@[simp] theorem dep_nat : dep Nat = 1 := rfl
@[simp] theorem dep_pair : dep (Int × Int) = 2 := rfl
@[simp] theorem dep_list {α : Type} [Enc α] : dep (List α) = dep α + 1 := rfl
@[simp] theorem pure_int (i : Int) : (D.int i).pure = true := rfl
@[simp] theorem pure_bl (i : Bool) : (D.bl i).pure = true := rfl
@[simp] theorem pure_non : D.non.pure = true := rfl
@[simp] theorem pure_pair (p : Int × Int) : (pairD p).pure = true := rfl
@[simp] theorem pure_web (n : Int) (ts : List (Int × Int)) : (webD n ts).pure = true := web_pure n ts
/-! ### places in lists -/
def gat {α : Type} [Inhabited α] (l : List α) (i : Int) : α := (atOf l i).getD default
def inR (n : Nat) (i : Int) : Prop := -(n : Int) ≤ i ∧ i < n
instance (n : Nat) (i : Int) : Decidable (inR n i) := inferInstanceAs (Decidable (_ ∧ _))
theorem inR_nat {n j : Nat} (h : j < n) : inR n (j : Int) := ⟨by omega, by omega⟩
theorem inR_pos {n : Nat} {i : Int} (h0 : 0 ≤ i) (h : i < n) : inR n i := ⟨by omega, h⟩
theorem atOf_if {α : Type} [Inhabited α] (l : List α) (i : Int) : atOf l i = if inR l.length i then some (gat l i) else none := by
  unfold gat
  by_cases h : inR l.length i
  · rw [if_pos h]
    obtain ⟨h1, h2⟩ := h
    have : ∃ a, atOf l i = some a := by
      unfold atOf ixOf
      by_cases q : 0 ≤ i
      · rw [if_pos q, if_pos h2]
        have z : i.toNat < l.length := by omega
        exact ⟨l[i.toNat], by simp [z]⟩
      · rw [if_neg q, if_pos h1]
        have z : (i + l.length).toNat < l.length := by omega
        exact ⟨l[(i + l.length).toNat], by simp [z]⟩
    obtain ⟨a, e⟩ := this
    rw [e]; rfl
  · rw [if_neg h]
    unfold atOf ixOf
    by_cases q : 0 ≤ i
    · rw [if_pos q, if_neg (fun z => h ⟨by omega, z⟩)]; rfl
    · rw [if_neg q, if_neg (fun z => h ⟨z, by omega⟩)]; rfl
theorem atOf_map {α β : Type} (f : α → β) (l : List α) (i : Int) : atOf (l.map f) i = (atOf l i).map f := by
  unfold atOf
  rw [List.length_map]
  cases ixOf l.length i with
  | none => rfl
  | some j => simp
theorem gat_nat {α : Type} [Inhabited α] (l : List α) (n : Nat) : gat l (n : Int) = l[n]?.getD default := by unfold gat; rw [s_atN]
theorem gat_pos {α : Type} [Inhabited α] (l : List α) (i : Int) (h : 0 ≤ i) : gat l i = l[i.toNat]?.getD default := by unfold gat; rw [s_atI _ _ h]
theorem gat_lt {α : Type} [Inhabited α] (l : List α) (n : Nat) (h : n < l.length) : gat l (n : Int) = l[n] := by rw [gat_nat]; simp [h]
@[simp] theorem gat_zero {α : Type} [Inhabited α] (a : α) (l : List α) : gat (a :: l) 0 = a := by simp [gat]
theorem gat_mem {α : Type} [Inhabited α] (l : List α) (i : Int) (h : inR l.length i) : gat l i ∈ l := by
  have e := atOf_if l i
  rw [if_pos h] at e
  unfold atOf at e
  obtain ⟨j, _, e2⟩ := Option.bind_eq_some_iff.mp e
  exact List.mem_of_getElem? e2
section
variable {α : Type} [Enc α] (S : Sto) (l m : List α) (i : Int)
@[simp] theorem o_lenT : biOp S .len [tu l] = some (.int l.length) := by simp [tu]
@[simp] theorem o_lenL : biOp S .len [ls l] = some (.int l.length) := by simp [ls]
@[simp] theorem o_idxT [Inhabited α] : idxOp S (tu l) (.int i) = if inR l.length i then some (enc (gat l i)) else none := by
  unfold tu
  rw [s_idxT, atOf_map, atOf_if]
  split <;> rfl
@[simp] theorem o_idxL [Inhabited α] : idxOp S (ls l) (.int i) = if inR l.length i then some (enc (gat l i)) else none := by
  unfold ls
  rw [s_idxL, atOf_map, atOf_if]
  split <;> rfl
theorem in_gen (h : dep α ≤ 60) (x : α) [Decidable (x ∈ l)] : cmpOp S .isin (enc x) (.lst (l.map enc)) = some (decide (x ∈ l)) ∧ cmpOp S .isin (enc x) (.tup (l.map enc)) = some (decide (x ∈ l)) := by
  have e : ((l.map enc).any fun z => z.eqv (enc x)) = decide (x ∈ l) := by
    rw [Bool.eq_iff_iff, List.any_eq_true, decide_eq_true_eq]
    constructor
    · rintro ⟨d, h1, h2⟩
      obtain ⟨a, h3, rfl⟩ := List.mem_map.mp h1
      rw [Enc.eqv] at h2
      exact h2 ▸ h3
    · exact fun h => ⟨enc x, List.mem_map_of_mem h, (Enc.eqv x x).mpr rfl⟩
  have p : ((enc x).plain 60 && (l.map enc).all (D.plain 60)) = true := by rw [D.plain_le h (Enc.plain x), all_plain h]; rfl
  refine ⟨?_, ?_⟩
  · show inOp S (enc x) (.lst (l.map enc)) = _
    simp only [inOp, Pf.res]
    rw [if_pos p, e]
  · show inOp S (enc x) (.tup (l.map enc)) = _
    simp only [inOp, Pf.res]
    rw [if_pos p, e]
theorem o_inT (h : dep α ≤ 60) (x : α) [Decidable (x ∈ l)] : cmpOp S .isin (enc x) (tu l) = some (decide (x ∈ l)) := (in_gen S l h x).2
theorem o_inL (h : dep α ≤ 60) (x : α) [Decidable (x ∈ l)] : cmpOp S .isin (enc x) (ls l) = some (decide (x ∈ l)) := (in_gen S l h x).1
theorem o_ninT (h : dep α ≤ 60) (x : α) [Decidable (x ∈ l)] : cmpOp S .notin (enc x) (tu l) = some (!decide (x ∈ l)) := by
  show (inOp S _ _).map _ = _
  rw [show inOp S (enc x) (tu l) = _ from o_inT S l h x]; rfl
theorem o_ninL (h : dep α ≤ 60) (x : α) [Decidable (x ∈ l)] : cmpOp S .notin (enc x) (ls l) = some (!decide (x ∈ l)) := by
  show (inOp S _ _).map _ = _
  rw [show inOp S (enc x) (ls l) = _ from o_inL S l h x]; rfl
theorem eq_gen (x y : D) (hx : x.plain 60 = true) (hy : y.plain 60 = true) (rx : Pf.res S x = x) (ry : Pf.res S y = y) : cmpOp S .eq x y = some (x.eqv y) := by
  show eqOp S x y = _
  unfold eqOp
  rw [rx, ry, hx, hy]
  rfl
@[simp] theorem o_eqT [Decidable (l = m)] (h : dep α ≤ 59) : cmpOp S .eq (tu l) (tu m) = some (decide (l = m)) := by
  rw [eq_gen S _ _ (D.plain_le (Nat.succ_le_succ h) (plain_tu l)) (D.plain_le (Nat.succ_le_succ h) (plain_tu m)) rfl rfl]
  congr 1
  rw [Bool.eq_iff_iff, decide_eq_true_eq]
  exact eqvL_map l m
@[simp] theorem o_eqL [Decidable (l = m)] (h : dep α ≤ 59) : cmpOp S .eq (ls l) (ls m) = some (decide (l = m)) := by
  rw [eq_gen S _ _ (D.plain_le (Nat.succ_le_succ h) (plain_ls l)) (D.plain_le (Nat.succ_le_succ h) (plain_ls m)) rfl rfl]
  congr 1
  rw [Bool.eq_iff_iff, decide_eq_true_eq]
  exact eqvL_map l m
@[simp] theorem o_eqL0 [Decidable (l = [])] (h : dep α ≤ 59) : cmpOp S .eq (ls l) (.lst []) = some (decide (l = [])) := o_eqL S l [] h
@[simp] theorem o_eqT0 [Decidable (l = [])] (h : dep α ≤ 59) : cmpOp S .eq (tu l) (.tup []) = some (decide (l = [])) := o_eqT S l [] h
@[simp] theorem o_ne (x y : D) : cmpOp S .ne x y = (cmpOp S .eq x y).map (!·) := rfl
@[simp] theorem o_addT : binOp S .add (tu l) (tu m) = if l.length + m.length ≤ big then some (tu (l ++ m)) else none := by
  simp [tu, binOp, Pf.res]
@[simp] theorem o_addL : binOp S .add (ls l) (ls m) = if l.length + m.length ≤ big then some (ls (l ++ m)) else none := by
  simp [ls, binOp, Pf.res]
theorem o_addT1 (x : α) : binOp S .add (tu l) (.tup [enc x]) = if l.length + 1 ≤ big then some (tu (l ++ [x])) else none := o_addT S l [x]
theorem o_addL1 (x : α) : binOp S .add (ls l) (.lst [enc x]) = if l.length + 1 ≤ big then some (ls (l ++ [x])) else none := o_addL S l [x]
@[simp] theorem o_slcT (lo hi : Option Int) : slcOp S (tu l) lo hi = some (tu (cut l lo hi)) := by
  simp [tu, slcOp, Pf.res, cut]
@[simp] theorem o_slcL (lo hi : Option Int) : slcOp S (ls l) lo hi = some (ls (cut l lo hi)) := by
  simp [ls, slcOp, Pf.res, cut]
@[simp] theorem o_walkT : walkOf S (tu l) = some ⟨l.map enc, none⟩ := rfl
@[simp] theorem o_walkL : walkOf S (ls l) = some ⟨l.map enc, none⟩ := rfl
@[simp] theorem o_tupL : biOp S .tuple [ls l] = some (tu l) := rfl
@[simp] theorem o_tupT : biOp S .tuple [tu l] = some (tu l) := rfl
@[simp] theorem o_listT : biOp S .list [tu l] = some (ls l) := rfl
@[simp] theorem o_listL : biOp S .list [ls l] = some (ls l) := rfl
@[simp] theorem o_trT : truth S (tu l) = some (!l.isEmpty) := by simp [tu, truth, Pf.res]
@[simp] theorem o_trL : truth S (ls l) = some (!l.isEmpty) := by simp [ls, truth, Pf.res]
@[simp] theorem o_tyT : isTy S .tuple (tu l) = some true := rfl
end
section
variable (S : Sto) (i j : Int) (p q : Int × Int)
@[simp] theorem o_inTI (l : List Int) : cmpOp S .isin (.int i) (tu l) = some (decide (i ∈ l)) := o_inT S l (by decide) i
@[simp] theorem o_inLI (l : List Int) : cmpOp S .isin (.int i) (ls l) = some (decide (i ∈ l)) := o_inL S l (by decide) i
@[simp] theorem o_ninTI (l : List Int) : cmpOp S .notin (.int i) (tu l) = some (!decide (i ∈ l)) := o_ninT S l (by decide) i
@[simp] theorem o_ninLI (l : List Int) : cmpOp S .notin (.int i) (ls l) = some (!decide (i ∈ l)) := o_ninL S l (by decide) i
@[simp] theorem o_inTP (l : List (Int × Int)) : cmpOp S .isin (pairD p) (tu l) = some (decide (p ∈ l)) := o_inT S l (by decide) p
@[simp] theorem o_inLP (l : List (Int × Int)) : cmpOp S .isin (pairD p) (ls l) = some (decide (p ∈ l)) := o_inL S l (by decide) p
@[simp] theorem o_inTT (x : List Int) (l : List (List Int)) : cmpOp S .isin (tu x) (tu l) = some (decide (x ∈ l)) := o_inT S l (by decide) x
@[simp] theorem o_inTL (x : List Int) (l : List (List Int)) : cmpOp S .isin (tu x) (ls l) = some (decide (x ∈ l)) := o_inL S l (by decide) x
@[simp] theorem o_ninTT (x : List Int) (l : List (List Int)) : cmpOp S .notin (tu x) (tu l) = some (!decide (x ∈ l)) := o_ninT S l (by decide) x
@[simp] theorem o_inT0 (l : List (List Int)) : cmpOp S .isin (.tup []) (tu l) = some (decide ([] ∈ l)) := o_inT S l (by decide) []
@[simp] theorem o_ninT0 (l : List (List Int)) : cmpOp S .notin (.tup []) (tu l) = some (!decide ([] ∈ l)) := o_ninT S l (by decide) []
@[simp] theorem o_inL0 (l : List (List Int)) : cmpOp S .isin (.tup []) (ls l) = some (decide ([] ∈ l)) := o_inL S l (by decide) []
@[simp] theorem o_ninL0 (l : List (List Int)) : cmpOp S .notin (.tup []) (ls l) = some (!decide ([] ∈ l)) := o_ninL S l (by decide) []
@[simp] theorem o_add1I (l : List Int) : binOp S .add (tu l) (.tup [.int i]) = if l.length + 1 ≤ big then some (tu (l ++ [i])) else none := o_addT1 S l i
@[simp] theorem o_idxP0 : idxOp S (pairD p) (.int 0) = some (.int p.1) := rfl
@[simp] theorem o_idxP1 : idxOp S (pairD p) (.int 1) = some (.int p.2) := rfl
@[simp] theorem o_putP (a b : Nat) (ρ : Env) : (Tgt.tp [a, b]).put (pairD p) ρ = some ((ρ.set a (some (.int p.1))).set b (some (.int p.2))) := rfl
@[simp] theorem o_inP : cmpOp S .isin (.int i) (pairD p) = some (decide (i = p.1 ∨ i = p.2)) := in_pair S i p.1 p.2
@[simp] theorem o_in2 (a b : Int) : cmpOp S .isin (.int i) (.tup [.int a, .int b]) = some (decide (i = a ∨ i = b)) := in_pair S i a b
@[simp] theorem o_nin2 (a b : Int) : cmpOp S .notin (.int i) (.tup [.int a, .int b]) = some (!decide (i = a ∨ i = b)) := by
  have h := in_pair S i a b
  simp only [cmpOp] at h ⊢
  rw [h]; rfl
@[simp] theorem o_lenP : biOp S .len [pairD p] = some (.int 2) := rfl
@[simp] theorem o_tyP : isTy S .tuple (pairD p) = some true := rfl
@[simp] theorem o_eqP : cmpOp S .eq (pairD p) (pairD q) = some (decide (p = q)) := by
  rw [eq_gen S _ _ rfl rfl rfl rfl]
  congr 1
  rw [Bool.eq_iff_iff, decide_eq_true_eq]
  exact Enc.eqv p q
@[simp] theorem o_idxW0 (n : Int) (ts : List (Int × Int)) : idxOp S (webD n ts) (.int 0) = some (.int n) := rfl
@[simp] theorem o_idxW1 (n : Int) (ts : List (Int × Int)) : idxOp S (webD n ts) (.int 1) = some (tu ts) := rfl
@[simp] theorem o_lenW (n : Int) (ts : List (Int × Int)) : biOp S .len [webD n ts] = some (.int 2) := rfl
@[simp] theorem o_tyW (n : Int) (ts : List (Int × Int)) : isTy S .tuple (webD n ts) = some true := rfl
theorem web_fold (n : Int) (ts : List (Int × Int)) : D.tup [.int n, tu ts] = webD n ts := rfl
@[simp] theorem o_all (l : List Bool) : biOp S .all [ls l] = some (.bl (l.all id)) := s_all S l
@[simp] theorem o_any (l : List Bool) : biOp S .any [ls l] = some (.bl (l.any id)) := s_any S l
@[simp] theorem o_sum (l : List Int) : biOp S .sum [ls l] = some (.int l.sum) := s_sum S l
@[simp] theorem o_sortI (l : List Int) : biOp S .sorted [ls l] = some (ls (sortI l)) := s_sortI S l
@[simp] theorem o_sortP (l : List (Int × Int)) : biOp S .sorted [ls l] = some (ls (sortP l)) := s_sortP' S l
@[simp] theorem o_sortTP (l : List (Int × Int)) : biOp S .sorted [tu l] = some (ls (sortP l)) := by
  have : allOf pairOf (l.map enc) = some l := by
    induction l with
    | nil => rfl
    | cons a l ih => simp only [List.map_cons, allOf, ih]; rfl
  simp only [tu, biOp, this]; rfl
@[simp] theorem o_sset (l : List Int) : biOp S .sortedSet [ls l] = if l.length < 64 then some (ls (sortI (dedupI l))) else none := by
  simp only [biOp, setOp, ls, lstOf, Pf.res, Option.bind_some, sortSetOp]
  rw [show l.map enc = l.map D.int from rfl, allOf_int]
  by_cases h : l.length < 64 <;> simp only [h, if_true, if_false] <;> rfl
@[simp] theorem o_ssetT (l : List Int) : biOp S .sortedSet [tu l] = if l.length < 64 then some (ls (sortI (dedupI l))) else none := by
  simp only [biOp, setOp, tu]
  rw [show l.map enc = l.map D.int from rfl, allOf_int]
  rfl
theorem o_ssetP (l : List (Int × Int)) (h64 : l.length < 64) (hb : ∀ p ∈ l, 0 ≤ p.1 ∧ p.1 < 64 ∧ 0 ≤ p.2 ∧ p.2 < 64) : biOp S .sortedSet [ls l] = some (ls (sortP (dedupP l))) := by
  cases l with
  | nil => simp [biOp, setOp, ls, lstOf, Pf.res, sortSetOp, allOf, sortI, dedupI, sortP, dedupP]
  | cons p l =>
    have e : allOf intOf ((p :: l).map enc) = none := by simp [allOf, pairD, intOf]
    have e2 : allOf pairOf ((p :: l).map enc) = some (p :: l) := allOf_pair (p :: l)
    simp only [biOp, setOp, ls, lstOf, Pf.res, Option.bind_some, sortSetOp, e, e2]
    rw [if_pos ⟨h64, List.all_eq_true.mpr fun q hq => by have := hb q hq; simp; omega⟩]
    rfl
@[simp] theorem o_mulI (h : mulOk i j = true) : binOp S .mul (.int i) (.int j) = some (.int (i * j)) := s_mul h
end
/-- lists that map shows -/
theorem ls_map {α β : Type} [Enc β] (f : α → β) (l : List α) : D.lst (l.map fun a => enc (f a)) = ls (l.map f) := by simp [ls]
theorem ls_mapI {α : Type} (f : α → Int) (l : List α) : D.lst (l.map fun a => D.int (f a)) = ls (l.map f) := ls_map f l
theorem ls_mapB {α : Type} (f : α → Bool) (l : List α) : D.lst (l.map fun a => D.bl (f a)) = ls (l.map f) := ls_map f l
theorem ls_mapT {α β : Type} [Enc β] (f : α → List β) (l : List α) : D.lst (l.map fun a => tu (f a)) = ls (l.map f) := ls_map f l
theorem ls_mapP {α : Type} (f : α → Int × Int) (l : List α) : D.lst (l.map fun a => pairD (f a)) = ls (l.map f) := ls_map f l
theorem tu_nil {α : Type} [Enc α] : D.tup [] = tu ([] : List α) := rfl
theorem ls_nil {α : Type} [Enc α] : D.lst [] = ls ([] : List α) := rfl
/-! ### comprehensions of typed data -/
section
variable {Φ : Fn} {ρ : Env} {S : Sto} {Q : Qd} {X : Xd} {t : Tok2 Q X} {α β : Type} [Enc β]
theorem Wm {elt : Exp} {tg : Tgt} {it : Itr} (l : List α) (e : α → D) (g : α → β)
    (hi : WI Φ it ρ S (fun w S1 => w = ⟨l.map e, none⟩ ∧ S1 = S) noX ⟨⟩)
    (hb : ∀ a ∈ l, putP (tg.put (e a) (wipe ρ tg.own)) (fun ρ' => W Φ elt ρ' S (fun d S3 => d = enc (g a) ∧ S3 = S) noX ⟨⟩) ⟨⟩)
    (hq : Q (ls (l.map g)) S) : W Φ (.comp elt tg it none) ρ S Q X t :=
  W_compN l e (fun a => enc (g a)) hi hb (by rw [ls_map]; exact hq)
theorem Wf {elt : Exp} {tg : Tgt} {it : Itr} {c : Option Exp} (l : List α) (e : α → D) (p : α → Bool) (g : α → β)
    (hi : WI Φ it ρ S (fun w S1 => w = ⟨l.map e, none⟩ ∧ S1 = S) noX ⟨⟩)
    (hb : ∀ a ∈ l, putP (tg.put (e a) (wipe ρ tg.own)) (fun ρ' => WC Φ c ρ' S (fun b S2 => b = p a ∧ S2 = S ∧ (p a = true → W Φ elt ρ' S (fun d S3 => d = enc (g a) ∧ S3 = S) noX ⟨⟩)) noX ⟨⟩) ⟨⟩)
    (hq : Q (ls ((l.filter p).map g)) S) : W Φ (.comp elt tg it c) ρ S Q X t :=
  W_comp l e p (fun a => enc (g a)) hi hb (by rw [ls_map]; exact hq)
end
@[simp] theorem ex_same (S : Sto) : (∃ T, S = S ++ T) = True := eq_true ⟨[], by simp⟩
@[simp] theorem own_nm (i : Nat) : (Tgt.nm i).own = [i] := rfl
@[simp] theorem own_tp (is : List Nat) : (Tgt.tp is).own = is := rfl
@[simp] theorem wipe_nil (ρ : Env) : wipe ρ [] = ρ := rfl
@[simp] theorem wipe_cons (ρ : Env) (v : Nat) (vs : List Nat) : wipe ρ (v :: vs) = (wipe ρ vs).set v none := rfl
/-! ### ranges -/
theorem rng2_nat (a b : Nat) : rangeI a b = (List.range' a (b - a)).map enc := by
  unfold rangeI
  rw [show ((b : Int) - (a : Int)).toNat = b - a by omega, List.range'_eq_map_range, List.map_map]
  congr 1
@[simp] theorem rngV_nat (n : Nat) (h : n < 1000) : rngV (n : Int) = some ⟨(List.range n).map enc, none⟩ := by
  rw [rngV_def, if_pos ⟨by omega, lt_big (by omega)⟩, rangeI_nat]; rfl
theorem rg_ok {a b : Nat} (h : a < 1000) (h2 : b < 1000) : rgOk a b := by
  have := big_val
  unfold rgOk
  omega
theorem rngW_nat (a b : Nat) (h : a < 1000) (h2 : b < 1000) : rngW (a : Int) (b : Int) = some ⟨(List.range' a (b - a)).map enc, none⟩ := by
  rw [rngW_def, if_pos (rg_ok h h2), rng2_nat]
@[simp] theorem rngW_one (b : Nat) (h2 : b < 1000) : rngW 1 (b : Int) = some ⟨(List.range' 1 (b - 1)).map enc, none⟩ := rngW_nat 1 b (by omega) h2
@[simp] theorem all_true {α : Type} (l : List α) : (l.all fun _ => true) = true := by simp
theorem le_big {n : Nat} (h : n ≤ 100000) : n ≤ big := by have := big_val; omega
theorem lt_big' {n : Nat} (h : n < 100000) : n < big := by have := big_val; omega
/-! ### objects of the store -/
def OL {α : Type} [Enc α] (l : List α) : O := .lst (l.map enc)
@[simp] theorem o_mutL {α : Type} [Enc α] (l : List α) : mutP (ls l) = some (OL l) := rfl
def resR (n : Nat) : Option O → D
  | some (.lst xs) => .lst xs
  | some (.dic t ks vs) => .dic t ks vs
  | _ => .ref n
@[simp] theorem resR_OL {α : Type} [Enc α] (n : Nat) (l : List α) : resR n (some (OL l)) = ls l := rfl
@[simp] theorem resR_lst (n : Nat) (xs : List D) : resR n (some (.lst xs)) = .lst xs := rfl
@[simp] theorem resR_dic (n : Nat) (b : Bool) (ks vs : List D) : resR n (some (.dic b ks vs)) = .dic b ks vs := rfl
theorem res_ref (S : Sto) (n : Nat) : res S (.ref n) = resR n S[n]? := by
  simp only [res]
  cases S[n]? with
  | none => rfl
  | some o => cases o <;> rfl
theorem res_resR (S : Sto) (n : Nat) : res S (resR n S[n]?) = resR n S[n]? := by
  cases h : S[n]? with
  | none => rw [show resR n none = .ref n from rfl, res_ref, h]; rfl
  | some o => cases o with
    | lst xs => rfl
    | dic t ks vs => rfl
    | ins c fs => rw [show resR n (some (.ins c fs)) = .ref n from rfl, res_ref, h]; rfl
section
variable (S : Sto) (n : Nat) (x y : D)
@[simp] theorem r_idx : idxOp S (.ref n) y = idxOp S (resR n S[n]?) y := by unfold idxOp; rw [res_resR, res_ref]
@[simp] theorem r_tr : truth S (.ref n) = truth S (resR n S[n]?) := by unfold truth; rw [res_resR, res_ref]
@[simp] theorem r_slc (lo hi : Option Int) : slcOp S (.ref n) lo hi = slcOp S (resR n S[n]?) lo hi := by unfold slcOp; rw [res_resR, res_ref]
@[simp] theorem r_rev : revOp S (.ref n) = revOp S (resR n S[n]?) := by unfold revOp; rw [res_resR, res_ref]
@[simp] theorem r_len : biOp S .len [.ref n] = biOp S .len [resR n S[n]?] := by simp only [biOp, lenOp]; rw [res_resR, res_ref]
@[simp] theorem r_tuple : biOp S .tuple [.ref n] = biOp S .tuple [resR n S[n]?] := by simp only [biOp, seqOf]; rw [res_resR, res_ref]
@[simp] theorem r_list : biOp S .list [.ref n] = biOp S .list [resR n S[n]?] := by simp only [biOp]; rw [res_resR, res_ref]
@[simp] theorem r_sorted : biOp S .sorted [.ref n] = biOp S .sorted [resR n S[n]?] := by
  have h : ∀ d : D, (∀ xs, d ≠ .tup xs) → biOp S .sorted [d] = ((lstOf S d).bind sortOp).map .lst := by
    intro d hd
    cases d <;> first | rfl | exact absurd rfl (hd _)
  have hr : ∀ xs, resR n S[n]? ≠ .tup xs := by
    intro xs
    cases S[n]? with
    | none => simp [resR]
    | some o => cases o <;> simp [resR]
  rw [h _ (by simp), h _ hr]
  simp only [lstOf]; rw [res_resR, res_ref]
@[simp] theorem r_sset : biOp S .sortedSet [.ref n] = biOp S .sortedSet [resR n S[n]?] := by
  simp only [biOp]
  have h : ∀ d : D, (∀ xs, d ≠ .tup xs) → setOp S d = ((lstOf S d).bind sortSetOp).map .lst := by
    intro d hd
    cases d <;> first | rfl | exact absurd rfl (hd _)
  rw [h _ (by intro xs z; cases z), h _ (by intro xs z; cases q : S[n]? with
    | none => rw [q] at z; cases z
    | some o => rw [q] at z; cases o <;> cases z)]
  simp only [lstOf]
  rw [res_resR, res_ref]
@[simp] theorem r_sum : biOp S .sum [.ref n] = biOp S .sum [resR n S[n]?] := by simp only [biOp, lstOf]; rw [res_resR, res_ref]
@[simp] theorem r_min1 : biOp S .min1 [.ref n] = biOp S .min1 [resR n S[n]?] := by simp only [biOp, lstOf]; rw [res_resR, res_ref]
@[simp] theorem r_repr : biOp S .repr [.ref n] = biOp S .repr [resR n S[n]?] := by
  have hr : dres S (resR n S[n]?) = res S (resR n S[n]?) := by
    cases S[n]? with
    | none => rfl
    | some o => cases o <;> rfl
  simp only [biOp]
  rw [hr, show dres S (.ref n) = res S (.ref n) from rfl, res_resR, res_ref]
@[simp] theorem r_eqL : cmpOp S .eq (.ref n) y = cmpOp S .eq (resR n S[n]?) y := by simp only [cmpOp, eqOp]; rw [res_resR, res_ref]
@[simp] theorem r_in : cmpOp S .isin x (.ref n) = cmpOp S .isin x (resR n S[n]?) := by simp only [cmpOp, inOp]; rw [res_resR, res_ref]
@[simp] theorem r_nin : cmpOp S .notin x (.ref n) = cmpOp S .notin x (resR n S[n]?) := by simp only [cmpOp, inOp]; rw [res_resR, res_ref]
@[simp] theorem r_add (b : Bop) : binOp S b (.ref n) y = binOp S b (resR n S[n]?) y := by unfold binOp; rw [res_resR, res_ref]
def walkO (n : Nat) : Option O → Option Wk
  | some (.lst xs) => some ⟨xs, some (n, .lst xs)⟩
  | _ => none
@[simp] theorem walkO_OL {α : Type} [Enc α] (l : List α) : walkO n (some (OL l)) = some ⟨l.map enc, some (n, OL l)⟩ := rfl
@[simp] theorem r_walk : walkOf S (.ref n) = walkO n S[n]? := by
  simp only [walkOf]
  cases S[n]? with
  | none => rfl
  | some o => cases o <;> rfl
def isL : Option O → Bool
  | some (.lst _) => true
  | _ => false
@[simp] theorem isL_lst (xs : List D) : isL (some (.lst xs)) = true := rfl
@[simp] theorem isL_OL {α : Type} [Enc α] (l : List α) : isL (some (OL l)) = true := rfl
theorem ty_ref (m : Mt) (h : m = .append ∨ m = .extend ∨ m = .insert ∨ m = .pop0 ∨ m = .pop1 ∨ m = .remove) : mtTy S m (.ref n) = isL S[n]? := by
  unfold mtTy
  rw [res_ref]
  rcases h with rfl | rfl | rfl | rfl | rfl | rfl <;> (cases S[n]? with
    | none => rfl
    | some o => cases o <;> rfl)
@[simp] theorem ty_append : mtTy S .append (.ref n) = isL S[n]? := ty_ref S n _ (by simp)
@[simp] theorem ty_extend : mtTy S .extend (.ref n) = isL S[n]? := ty_ref S n _ (by simp)
@[simp] theorem ty_insert : mtTy S .insert (.ref n) = isL S[n]? := ty_ref S n _ (by simp)
@[simp] theorem ty_pop0 : mtTy S .pop0 (.ref n) = isL S[n]? := ty_ref S n _ (by simp)
@[simp] theorem ty_pop1 : mtTy S .pop1 (.ref n) = isL S[n]? := ty_ref S n _ (by simp)
@[simp] theorem ty_remove : mtTy S .remove (.ref n) = isL S[n]? := ty_ref S n _ (by simp)
def appO (y : D) : Option O → Option O
  | some (.lst xs) => if xs.length < big then some (.lst (xs ++ [y])) else none
  | _ => none
theorem appO_gen {α : Type} [Enc α] (l : List α) (a : α) : appO (enc a) (some (OL l)) = if l.length < big then some (OL (l ++ [a])) else none := by simp [appO, OL]
@[simp] theorem appO_I (l : List Int) (a : Int) : appO (.int a) (some (OL l)) = if l.length < big then some (OL (l ++ [a])) else none := appO_gen l a
@[simp] theorem appO_P (l : List (Int × Int)) (a : Int × Int) : appO (pairD a) (some (OL l)) = if l.length < big then some (OL (l ++ [a])) else none := appO_gen l a
@[simp] theorem appO_T {α : Type} [Enc α] (l : List (List α)) (a : List α) : appO (tu a) (some (OL l)) = if l.length < big then some (OL (l ++ [a])) else none := appO_gen l a
@[simp] theorem r_append : mtOp S .append (.ref n) [y] = (appO y S[n]?).map fun o => (D.non, S.set n o) := by
  simp only [mtOp]
  cases S[n]? with
  | none => rfl
  | some o => cases o with
    | lst xs => simp only [appO]; split <;> rfl
    | dic t ks vs => rfl
    | ins c fs => rfl
end
section
variable (S T : Sto) (o o1 o2 o3 q : O)
@[simp high] theorem st_at0 : (S ++ o :: T)[S.length]? = some o := by simp
@[simp high] theorem st_at1 : (S ++ o :: o1 :: T)[S.length + 1]? = some o1 := by rw [List.getElem?_append_right (by omega)]; simp
@[simp high] theorem st_at2 : (S ++ o :: o1 :: o2 :: T)[S.length + 2]? = some o2 := by rw [List.getElem?_append_right (by omega)]; simp
@[simp high] theorem st_at3 : (S ++ o :: o1 :: o2 :: o3 :: T)[S.length + 3]? = some o3 := by rw [List.getElem?_append_right (by omega)]; simp
@[simp high] theorem st_set0 : (S ++ o :: T).set S.length q = S ++ q :: T := by rw [List.set_append_right _ _ (by omega)]; simp
@[simp high] theorem st_set1 : (S ++ o :: o1 :: T).set (S.length + 1) q = S ++ o :: q :: T := by rw [List.set_append_right _ _ (by omega)]; simp
@[simp high] theorem st_set2 : (S ++ o :: o1 :: o2 :: T).set (S.length + 2) q = S ++ o :: o1 :: q :: T := by rw [List.set_append_right _ _ (by omega)]; simp
@[simp high] theorem st_set3 : (S ++ o :: o1 :: o2 :: o3 :: T).set (S.length + 3) q = S ++ o :: o1 :: o2 :: q :: T := by rw [List.set_append_right _ _ (by omega)]; simp
variable (b : Nat) (x : Int)
@[simp high] theorem sx_at0 : (sx S b x (o :: T))[S.length]? = some o := by have := sx_at (S := S) (T := o :: T) (b := b) (x := x) (i := 0); simpa using this
@[simp high] theorem sx_at1 : (sx S b x (o :: o1 :: T))[S.length + 1]? = some o1 := by have := sx_at (S := S) (T := o :: o1 :: T) (b := b) (x := x) (i := 1); simpa using this
@[simp high] theorem sx_at2 : (sx S b x (o :: o1 :: o2 :: T))[S.length + 2]? = some o2 := by have := sx_at (S := S) (T := o :: o1 :: o2 :: T) (b := b) (x := x) (i := 2); simpa using this
@[simp high] theorem sx_set0 : (sx S b x (o :: T)).set S.length q = sx S b x (q :: T) := by have := sx_set (S := S) (T := o :: T) (b := b) (x := x) (i := 0) (o := q); simpa using this
@[simp high] theorem sx_set1 : (sx S b x (o :: o1 :: T)).set (S.length + 1) q = sx S b x (o :: q :: T) := by have := sx_set (S := S) (T := o :: o1 :: T) (b := b) (x := x) (i := 1) (o := q); simpa using this
@[simp high] theorem sx_set2 : (sx S b x (o :: o1 :: o2 :: T)).set (S.length + 2) q = sx S b x (o :: o1 :: q :: T) := by have := sx_set (S := S) (T := o :: o1 :: o2 :: T) (b := b) (x := x) (i := 2) (o := q); simpa using this
@[simp] theorem sx_len' : (sx S b x T).length = S.length + T.length := sx_len
@[simp] theorem sx_app' : sx S b x T ++ [o] = sx S b x (T ++ [o]) := sx_app
end
/-! ### texts of repr -/
def Fine (s : Str) : Prop := ∀ c ∈ s.cps.toList, c < 1114112
theorem fine_of (s : String) : Fine (Str.ofString s) := by
  intro c hc
  simp only [Str.ofString, cpsOfBytes_string] at hc
  rw [List.mem_map] at hc
  obtain ⟨d, _, rfl⟩ := hc
  have h := d.valid
  simp only [UInt32.isValidChar, Nat.isValidChar] at h
  show d.val.toNat < _
  omega
theorem fine_app {a b : Str} (ha : Fine a) (hb : Fine b) : Fine (a ++ b) := by
  intro c hc
  have e : (a ++ b).cps = a.cps ++ b.cps := rfl
  rw [e, Array.toList_append, List.mem_append] at hc
  exact hc.elim (ha c) (hb c)
theorem fine_join {sep : Str} (hs : Fine sep) : ∀ ts : List Str, (∀ t ∈ ts, Fine t) → Fine (Str.join sep ts)
  | [], _ => by intro c hc; simp [Str.join, Str.empty] at hc
  | [x], h => h x (by simp)
  | x :: y :: r, h => fine_app (fine_app (h x (by simp)) hs) (fine_join hs (y :: r) fun t ht => h t (by simp at ht ⊢; exact .inr ht))
theorem fine_tuple {ts : List Str} (h : ∀ t ∈ ts, Fine t) : Fine (tupleText ts) := by
  unfold tupleText
  refine fine_app (fine_app (fine_of _) (fine_join (fine_of _) ts h)) ?_
  split <;> exact fine_of _
mutual
/-- data without texts -/
def D.nost : D → Bool
  | .non => true
  | .bl _ => true
  | .int _ => true
  | .tup xs => D.nostL xs
  | .lst xs => D.nostL xs
  | _ => false
def D.nostL : List D → Bool
  | [] => true
  | x :: xs => D.nost x && D.nostL xs
end
end Pf
end

section 
set_option Elab.async false
set_option linter.all false
set_option maxRecDepth 100000
set_option maxHeartbeats 1000000
/-! PwD: what the small defs of the program do. -/
namespace Pf
open Enc (enc dep)
/-- a list of hues, lists of a web -/
structure HL (l : List Int) : Prop where
  len : l.length ≤ 8
  rng : ∀ h ∈ l, 0 ≤ h ∧ h ≤ 99
  ord : l.Pairwise (· < ·)
structure Lists (n : Int) (ll : List (List Int)) : Prop where
  len : (ll.length : Int) = n
  ok : ∀ l ∈ ll, HL l
def meets (p q : Int × Int) : Bool := decide (p.1 = q.1 ∨ p.1 = q.2) || decide (p.2 = q.1 ∨ p.2 = q.2)
def near (ts : List (Int × Int)) (p : Int) : List Int := (ts.filter fun t => decide (p = t.1 ∨ p = t.2)).map fun t => t.1 + t.2 - p
variable {P : Nat → Def} [Base P]
theorem atL {P : Nat → Def} {c K f : Nat} {args : List D} {S : Sto} {r : Out D} (h : ∀ k, run P (k + c) f args S = r) (hK : c ≤ K) : run P K f args S = r := by
  obtain ⟨k, rfl⟩ := Nat.exists_eq_add_of_le' hK
  exact h k
theorem spec_upto (k : Nat) (i lo hi : Int) (S : Sto) : run P (k + 1) F_is_upto [.int i, .int lo, .int hi] S = .ok (.bl (decide (lo ≤ i ∧ i ≤ hi))) S := by
  refine run_ok b_is_upto rfl rfl ?_
  simp
  refine brP_of (fun h => ?_) (fun h => ?_) <;> simp at h ⊢
  · simp [h]
  · omega
theorem spec_tie (k : Nat) (p : Int × Int) (n : Int) (S : Sto) (h : 0 ≤ p.1 ∧ p.1 < p.2 ∧ p.2 < n) : run P (k + 2) F_is_tie [pairD p, .int n] S = .ok (.bl true) S := by
  refine run_ok b_is_tie rfl rfl ?_
  simp
  refine Wm [p.1, p.2] D.int (fun _ => true) ?_ ?_ ?_
  · simp [pairD]
  · intro a ha
    have : 0 ≤ a ∧ a ≤ n - 1 := by
      simp at ha
      rcases ha with rfl | rfl <;> omega
    simp [spec_upto, this]
  · simp [h, pairD, ltOp, intsOf]
theorem pw_gat {l : List Int} (h : l.Pairwise (· < ·)) {a : Nat} (h1 : 1 ≤ a) (h2 : a < l.length) : gat l ((a : Int) - 1) < gat l a := by
  rw [show (a : Int) - 1 = ((a - 1 : Nat) : Int) by omega, gat_lt l (a - 1) (by omega), gat_lt l a h2]
  exact List.pairwise_iff_getElem.mp h _ _ _ _ (by omega)
theorem spec_risesI (k : Nat) (l : List Int) (S : Sto) (h : l.Pairwise (· < ·)) (hl : l.length < 1000) : run P (k + 1) F_rises [tu l] S = .ok (.bl true) S := by
  refine run_ok b_rises rfl rfl ?_
  simp
  refine Wm (List.range' 1 (l.length - 1)) enc (fun _ => true) ?_ ?_ ?_
  · simp [hl]
  · intro a ha
    rw [List.mem_range'_1] at ha
    simp
    exact ⟨⟨by omega, by omega⟩, inR_nat (by omega), pw_gat h ha.1 (by omega)⟩
  · simp
theorem spec_risesP (k : Nat) (ts : List (Int × Int)) (S : Sto) (hf : ts.length ≤ 1000) (h : ts.Pairwise fun p q => p.1 < q.1 ∨ (p.1 = q.1 ∧ p.2 < q.2)) : run P (k + 1) F_rises [tu ts] S = .ok (.bl true) S := rises_spec b_rises k ts S hf h
theorem spec_need_web (k : Nat) (n : Int) (ts : List (Int × Int)) (S : Sto) (h : Web n ts) : run P (k + 4) F_need_web [webD n ts] S = .ok .non S := need_web_spec b_is_upto b_is_tie b_rises b_is_web b_need_web k n ts S h
theorem spec_list (k : Nat) (l : List Int) (S : Sto) (h : HL l) : run P (k + 2) F_is_list [tu l] S = .ok (.bl true) S := by
  refine run_ok b_is_list rfl rfl ?_
  have := h.len
  have e : ¬ (8 : Int) < l.length := by omega
  simp [e]
  refine Wm l enc (fun _ => true) ?_ ?_ ?_
  · simp
  · intro a ha
    have := h.rng a ha
    simp [spec_upto, this]
  · have := spec_risesI (P := P) k l S h.ord (by omega)
    simp [this]
theorem spec_need_lists (k : Nat) (n : Int) (ts : List (Int × Int)) (ll : List (List Int)) (S : Sto) (h : Web n ts) (hl : Lists n ll) : run P (k + 5) F_need_lists [webD n ts, tu ll] S = .ok .non S := by
  have e : run P (k + 4) F_are_lists_of [tu ll, webD n ts] S = .ok (.bl true) S := by
    refine run_ok b_are_lists_of rfl rfl ?_
    simp [hl.len]
    refine Wm ll enc (fun _ => true) ?_ ?_ ?_
    · simp
    · intro a ha
      simp [spec_list (P := P) (k + 1) a S (hl.ok a ha)]
    · simp
  refine run_ok b_need_lists rfl rfl ?_
  simp [spec_need_web (P := P) k n ts S h, e]
theorem spec_need_tie_lists (k : Nat) (n : Int) (ts : List (Int × Int)) (ll : List (List Int)) (S : Sto) (h : Web n ts) (hl : Lists ts.length ll) : run P (k + 5) F_need_tie_lists [webD n ts, tu ll] S = .ok .non S := by
  have e : run P (k + 4) F_are_tie_lists_of [tu ll, webD n ts] S = .ok (.bl true) S := by
    refine run_ok b_are_tie_lists_of rfl rfl ?_
    simp [hl.len]
    refine Wm ll enc (fun _ => true) ?_ ?_ ?_
    · simp
    · intro a ha
      simp [spec_list (P := P) (k + 1) a S (hl.ok a ha)]
    · simp
  refine run_ok b_need_tie_lists rfl rfl ?_
  simp [spec_need_web (P := P) k n ts S h, e]
theorem spec_tied_to (k : Nat) (n p : Int) (ts : List (Int × Int)) (S : Sto) : run P (k + 1) F_tied_to [webD n ts, .int p] S = .ok (tu (sortI (near ts p))) S := by
  refine run_ok b_tied_to rfl (by simp) ?_
  simp
  refine Wf ts enc (fun t => decide (p = t.1 ∨ p = t.2)) (fun t => t.1 + t.2 - p) ?_ ?_ ?_
  · simp
  · intro a ha
    simp
  · simp [near]
theorem spec_meet (k : Nat) (p q : Int × Int) (S : Sto) : run P (k + 1) F_meet [pairD p, pairD q] S = .ok (.bl (meets p q)) S := by
  refine run_ok b_meet rfl rfl ?_
  simp
  refine brP_of (fun h => ?_) (fun h => ?_) <;> simp [meets] at h ⊢ <;> simp [h]
theorem spec_law_meet (k : Nat) (p q : Int × Int) (S : Sto) : run P (k + 1) F__law_meet [pairD p, pairD q] S = .ok (.bl (meets p q)) S := by
  refine run_ok b__law_meet rfl rfl ?_
  simp
  refine brP_of (fun h => ?_) (fun h => ?_) <;> simp [meets] at h ⊢ <;> simp [h]
/-! ### drawing -/
theorem spec_take (k : Nat) {S T : Sto} {b : Nat} {x m : Int} (hb : b < S.length) (hm : 0 < m ∧ m < 1073741824) : run P (k + 1) F__law_take [.ref b, .int m] (sx S b x T) = .ok (.int (x % m)) (sx S b (x / m) T) := take_sx b__law_take k hb hm
end Pf
end

section 
set_option Elab.async false
set_option linter.all false
set_option maxRecDepth 100000
set_option maxHeartbeats 1000000
/-! PwE: drawn lists. -/
namespace Pf
open Enc (enc dep)
variable {P : Nat → Def} [Base P]
theorem mem_sortI {l : List Int} {x : Int} : x ∈ sortI l ↔ x ∈ l := (sortI_perm l).mem_iff
theorem mem_dedupI : ∀ {l : List Int} {x : Int}, x ∈ dedupI l ↔ x ∈ l
  | [], x => by simp [dedupI]
  | a :: l, x => by
    simp only [dedupI, List.mem_cons, List.mem_filter, mem_dedupI (l := l)]
    constructor
    · rintro (h | ⟨h, _⟩)
      · exact .inl h
      · exact .inr h
    · rintro (h | h)
      · exact .inl h
      · by_cases q : x = a
        · exact .inl q
        · exact .inr ⟨h, by simp; exact fun z => q z.symm⟩
theorem nodup_dedupI : ∀ l : List Int, (dedupI l).Nodup
  | [] => List.nodup_nil
  | a :: l => by
    simp only [dedupI, List.nodup_cons, List.mem_filter]
    exact ⟨by simp, (nodup_dedupI l).filter _⟩
theorem len_dedupI : ∀ l : List Int, (dedupI l).length ≤ l.length
  | [] => Nat.le_refl _
  | a :: l => by
    simp only [dedupI, List.length_cons]
    have := List.length_filter_le (fun y => !(a == y)) (dedupI l)
    have := len_dedupI l
    omega
theorem sortI_le (l : List Int) : (sortI l).Pairwise (· ≤ ·) := by
  have h := List.pairwise_mergeSort (le := fun a b : Int => decide (a ≤ b)) (fun a b c h1 h2 => by simp at h1 h2 ⊢; omega) (fun a b => by simp; omega) l
  exact h.imp (by simp)
theorem sortI_lt {l : List Int} (h : l.Nodup) : (sortI l).Pairwise (· < ·) := by
  have h1 := sortI_le l
  have h2 : (sortI l).Nodup := (sortI_perm l).nodup_iff.mpr h
  exact h1.imp₂ (fun a b h1 h2 => by omega) h2
theorem sset_ok {l : List Int} {h : Int} (g : ∀ q ∈ l, 0 ≤ q ∧ q < h) : (sortI (dedupI l)).length ≤ l.length ∧ (∀ z ∈ sortI (dedupI l), 0 ≤ z ∧ z < h) ∧ (sortI (dedupI l)).Pairwise (· < ·) := by
  refine ⟨?_, fun z hz => g z (mem_dedupI.mp (mem_sortI.mp hz)), sortI_lt (nodup_dedupI l)⟩
  rw [(sortI_perm _).length_eq]
  exact len_dedupI l
theorem spec_lists (k : Nat) {S : Sto} {b : Nat} (x : Int) {m : Nat} {c h : Int} (hb : b < S.length) (hm : m < 1000) (hc : 0 ≤ c ∧ c ≤ 8) (hh : 0 < h ∧ h ≤ 1000) :
    ∃ (ll : List (List Int)) (y : Int), ll.length = m ∧ (∀ l ∈ ll, l.length ≤ c ∧ (∀ z ∈ l, 0 ≤ z ∧ z < h) ∧ l.Pairwise (· < ·)) ∧ run P (k + 2) F__law_lists [.ref b, .int m, .int c, .int h] (sx S b x []) = .ok (tu ll) (sx S b y []) := by
  have key : OP (run P (k + 2) F__law_lists [.ref b, .int m, .int c, .int h] (sx S b x [])) (fun d S' => ∃ (ll : List (List Int)) (y : Int), ll.length = m ∧ (∀ l ∈ ll, l.length ≤ c ∧ (∀ z ∈ l, 0 ≤ z ∧ z < h) ∧ l.Pairwise (· < ·)) ∧ d = tu ll ∧ S' = sx S b y []) noX ⟨⟩ := by
    refine run_op b__law_lists rfl ?_
    simp
    refine XS_for (List.range m) enc (fun pre ρ S' => ∃ (ll : List (List Int)) (y : Int) (o5 o6 : Option D), ll.length = pre.length ∧ (∀ l ∈ ll, l.length ≤ c ∧ (∀ z ∈ l, 0 ≤ z ∧ z < h) ∧ l.Pairwise (· < ·)) ∧ ρ = [some (.ref b), some (.int m), some (.int c), some (.int h), some (.ref S.length), o5, o6, none] ∧ S' = sx S b y [OL ll]) ?_ ?_ ?_
    · simp [hm]
      exact ⟨x, rfl⟩
    · rintro pre a post ρ S' e ⟨ll, y, o5, o6, h1, h2, rfl, rfl⟩
      have hp : pre.length < 1000 := by
        have := congrArg List.length e
        simp at this
        omega
      simp
      have lt : y % (c + 1) < c + 1 := Int.emod_lt_of_pos _ (by omega)
      have ge : 0 ≤ y % (c + 1) := Int.emod_nonneg _ (by omega)
      obtain ⟨r, hr⟩ : ∃ r : Nat, y % (c + 1) = r := ⟨(y % (c + 1)).toNat, by omega⟩
      refine W_compS (List.range r) enc (fun pre ys S' => ∃ (l : List Int) (z : Int), ys = l.map enc ∧ l.length = pre.length ∧ (∀ q ∈ l, 0 ≤ q ∧ q < h) ∧ S' = sx S b z [OL ll]) ?_ ?_ ?_
      · simp [spec_take (P := P) k hb (show 0 < c + 1 ∧ c + 1 < 1073741824 by omega), hr, show r < 1000 by omega]
        exact ⟨_, rfl⟩
      · rintro pr a post ys S' e ⟨l, z, rfl, g1, g2, rfl⟩
        simp [spec_take (P := P) k hb (show 0 < h ∧ h < 1073741824 by omega)]
        refine ⟨l ++ [z % h], by simp, by simp [g1], fun q hq => ?_, z / h, rfl⟩
        rcases List.mem_append.mp hq with hq | hq
        · exact g2 q hq
        · rw [List.mem_singleton.mp hq]
          exact ⟨Int.emod_nonneg _ (by omega), Int.emod_lt_of_pos _ (by omega)⟩
      · rintro ys S' ⟨l, z, rfl, g1, g2, rfl⟩
        simp [show D.lst (l.map enc) = ls l from rfl]
        simp at g1
        obtain ⟨s1, s2, s3⟩ := sset_ok g2
        refine ⟨by omega, lt_big' (by omega), ll ++ [sortI (dedupI l)], by simp [h1], fun l' hl' => ?_, z, rfl⟩
        rcases List.mem_append.mp hl' with hl' | hl'
        · exact h2 l' hl'
        · rw [List.mem_singleton.mp hl']
          exact ⟨by omega, s2, s3⟩
    · rintro ρ S' ⟨ll, y, o5, o6, h1, h2, rfl, rfl⟩
      simp
      exact ⟨sx_kept hb, ll, by simpa using h1, h2, rfl, y, by have := sx_take (S := S) (T := [OL ll]) (b := b) (x := x) (y := y); simpa using this⟩
  obtain ⟨d, S', e, ll, y, h1, h2, rfl, rfl⟩ := OP_ex key
  exact ⟨ll, y, h1, h2, e⟩
end Pf
end

section 
set_option Elab.async false
set_option linter.all false
set_option maxRecDepth 100000
set_option maxHeartbeats 1000000
/-! PwF: texts of repr; trees of beginnings. -/
namespace Pf
open PySem
open Enc (enc dep)
theorem fine_from : ∀ (ts : List Str) (k : Nat) (acc : Str), Fine acc → (∀ t ∈ ts, Fine t) → Fine (textFrom k acc ts)
  | [], k, acc, ha, _ => ha
  | t :: ts, k, acc, ha, h => by
    unfold textFrom
    exact fine_from ts (k + 1) _ (fine_app (fine_app ha (fine_of _)) (h t (by simp))) fun x hx => h x (by simp [hx])
theorem fine_list {ts : List Str} (h : ∀ t ∈ ts, Fine t) : Fine (listText ts) := by
  unfold listText
  exact fine_app (fine_from ts 0 _ (fine_of _) h) (fine_of _)
mutual
theorem fine_shown : ∀ d : D, d.nost = true → Fine (toPy d).shown
  | .non, _ => by simp only [toPy, PyData.shown]; exact fine_of _
  | .bl b, _ => by simp only [toPy, PyData.shown]; cases b <;> exact fine_of _
  | .int i, _ => by simp only [toPy, PyData.shown]; exact fine_of _
  | .tup xs, h => by
    simp only [toPy, PyData.shown]
    exact fine_tuple (fine_all xs (by simpa only [D.nost] using h))
  | .lst xs, h => by
    simp only [toPy, PyData.shown]
    exact fine_list (fine_all xs (by simpa only [D.nost] using h))
theorem fine_all : ∀ xs : List D, D.nostL xs = true → ∀ t ∈ PyData.shownAll (toPyL xs), Fine t
  | [], _, t, h => by simp [toPyL, PyData.shownAll] at h
  | x :: xs, hx, t, h => by
    simp only [D.nostL, Bool.and_eq_true] at hx
    simp only [toPyL, PyData.shownAll, List.mem_cons] at h
    rcases h with rfl | h
    · exact fine_shown x hx.1
    · exact fine_all xs hx.2 t h
end
/-- a thing that repr shows -/
structure Rp (d : D) : Prop where
  no : d.nost = true
  pl : d.plain 60 = true
  wt : d.wt ≤ 16000000
theorem Rp.fine {d : D} (h : Rp d) : (shownD d).all (fun c => decide (c < 1114112)) = true := by
  rw [List.all_eq_true]
  exact fun c hc => decide_eq_true (fine_shown d h.no c hc)
theorem Rp.res {d : D} (h : Rp d) (S : Sto) : Pf.res S d = d := by
  have := h.no
  cases d <;> first | rfl | cases this
theorem plain_res {n : Nat} {d : D} (h : d.plain n = true) (S : Sto) : Pf.res S d = d := by
  cases d <;> first | rfl | (cases n <;> simp [D.plain] at h)
theorem Rp.dres {d : D} (h : Rp d) (S : Sto) : Pf.dres S d = d := by
  cases d with
  | tup xs =>
    have := h.pl
    simp only [D.plain, List.all_eq_true] at this
    simp only [Pf.dres]
    congr 1
    exact (List.map_congr_left fun x hx => plain_res (this x hx) S).trans (List.map_id xs)
  | _ => exact h.res S
theorem o_repr {d : D} (h : Rp d) (S : Sto) : biOp S .repr [d] = some (.str (shownD d)) := by
  simp only [biOp, h.dres]
  rw [if_pos (by simp [reprOk, h.pl, h.wt])]
theorem o_eqr {d : D} (h : Rp d) (S : Sto) : cmpOp S .eq (.str (shownD d)) (.str (shownD d)) = some true := by
  have p : (D.str (shownD d)).plain 60 = true := h.fine
  rw [eq_gen S _ _ p p rfl rfl]
  simp [D.eqv]
theorem Rp.non : Rp .non := ⟨rfl, rfl, by decide⟩
theorem Rp.bl (b : Bool) : Rp (.bl b) := ⟨rfl, rfl, by cases b <;> decide⟩
theorem wt_int {i : Int} (h : i.natAbs < 2 ^ 1900) : (D.int i).wt = 1950 := by
  unfold D.wt
  rw [if_pos]
  by_cases z : i.natAbs = 0
  · rw [z]; decide
  · rwa [Nat.log2_lt z]
theorem Rp.int {i : Int} (h : i.natAbs < 2 ^ 1900) : Rp (.int i) := ⟨rfl, rfl, by rw [wt_int h]; omega⟩
theorem p1900 {n : Nat} (h : n < 2 ^ 64) : n < 2 ^ 1900 := Nat.lt_of_lt_of_le h (Nat.pow_le_pow_right (by decide) (by decide))
theorem wtL_map {α : Type} [Enc α] {B : Nat} : ∀ l : List α, (∀ a ∈ l, (enc a).wt ≤ B) → D.wtL (l.map enc) ≤ l.length * (B + 4)
  | [], _ => by simp [D.wtL]
  | a :: l, h => by
    have h1 := h a (by simp)
    have h2 := wtL_map l fun x hx => h x (by simp [hx])
    simp only [List.map_cons, D.wtL, List.length_cons, Nat.add_mul, Nat.one_mul]
    omega
theorem nostL_map {α : Type} [Enc α] : ∀ l : List α, (∀ a ∈ l, (enc a).nost = true) → D.nostL (l.map enc) = true
  | [], _ => rfl
  | a :: l, h => by
    simp only [List.map_cons, D.nostL, Bool.and_eq_true]
    exact ⟨h a (by simp), nostL_map l fun x hx => h x (by simp [hx])⟩
theorem wt_tu {α : Type} [Enc α] {B : Nat} {l : List α} (h : ∀ a ∈ l, (enc a).wt ≤ B) : (tu l).wt ≤ 10 + l.length * (B + 4) := by
  have := wtL_map l h
  simp only [tu, D.wt]
  omega
theorem wt_ls {α : Type} [Enc α] {B : Nat} {l : List α} (h : ∀ a ∈ l, (enc a).wt ≤ B) : (ls l).wt ≤ 10 + l.length * (B + 4) := by
  have := wtL_map l h
  simp only [ls, D.wt]
  omega
theorem no_tu {α : Type} [Enc α] {l : List α} (h : ∀ a ∈ l, (enc a).nost = true) : (tu l).nost = true := by
  simp only [tu, D.nost]; exact nostL_map l h
theorem no_ls {α : Type} [Enc α] {l : List α} (h : ∀ a ∈ l, (enc a).nost = true) : (ls l).nost = true := by
  simp only [ls, D.nost]; exact nostL_map l h
theorem no_tuI (l : List Int) : (tu l).nost = true := no_tu fun _ _ => rfl
theorem wt_tuI {l : List Int} {n : Nat} (hl : l.length ≤ n) (h : ∀ a ∈ l, a.natAbs < 2 ^ 64) : (tu l).wt ≤ 10 + n * 1954 := by
  have := wt_tu (B := 1950) (l := l) fun a ha => Nat.le_of_eq (wt_int (p1900 (h a ha)))
  have : l.length * 1954 ≤ n * 1954 := Nat.mul_le_mul_right _ hl
  omega
theorem Rp.tuI {l : List Int} (hl : l.length ≤ 1000) (h : ∀ a ∈ l, a.natAbs < 2 ^ 64) : Rp (tu l) :=
  ⟨no_tuI l, D.plain_le (by decide) (plain_tu l), by have := wt_tuI hl h; omega⟩
theorem Rp.tuL {ll : List (List Int)} (hl : ll.length ≤ 60) (h : ∀ l ∈ ll, l.length ≤ 100 ∧ ∀ a ∈ l, a.natAbs < 2 ^ 64) : Rp (tu ll) := by
  refine ⟨no_tu fun l _ => no_tuI l, D.plain_le (by decide) (plain_tu ll), ?_⟩
  have := wt_tu (B := 10 + 100 * 1954) (l := ll) fun l hm => wt_tuI (h l hm).1 (h l hm).2
  have : ll.length * (10 + 100 * 1954 + 4) ≤ 60 * (10 + 100 * 1954 + 4) := Nat.mul_le_mul_right _ hl
  omega
/-! ### trees of beginnings -/
section
variable (ext : List Int → List Int)
def paths : Nat → List Int → List (List Int)
  | 0, b => [b]
  | n + 1, b => (ext b).flatMap fun h => paths n (b ++ [h])
def grow (l : List (List Int)) : List (List Int) := l.flatMap fun b => (ext b).map fun h => b ++ [h]
def grown : Nat → List (List Int)
  | 0 => [[]]
  | n + 1 => grow ext (grown n)
theorem grow_paths : ∀ (n : Nat) (b : List Int), paths ext (n + 1) b = grow ext (paths ext n b)
  | 0, b => by
    simp only [paths, grow, List.flatMap_cons, List.flatMap_nil, List.append_nil]
    generalize ext b = l
    induction l with
    | nil => rfl
    | cons a l ih => simp only [List.flatMap_cons, ih, List.map_cons]; rfl
  | n + 1, b => by
    rw [paths]
    have : (fun h => paths ext (n + 1) (b ++ [h])) = fun h => grow ext (paths ext n (b ++ [h])) := funext fun h => grow_paths n (b ++ [h])
    rw [this]
    show _ = grow ext ((ext b).flatMap fun h => paths ext n (b ++ [h]))
    unfold grow
    rw [List.flatMap_assoc]
theorem grown_paths : ∀ n : Nat, grown ext n = paths ext n []
  | 0 => rfl
  | n + 1 => by rw [grown, grown_paths n, grow_paths]
theorem paths_len : ∀ (n : Nat) (b : List Int), ∀ c ∈ paths ext n b, c.length = b.length + n
  | 0, b, c, h => by simp [paths] at h; simp [h]
  | n + 1, b, c, h => by
    simp only [paths, List.mem_flatMap] at h
    obtain ⟨x, _, h⟩ := h
    have := paths_len n _ c h
    simp at this
    omega
theorem paths_many (hx : ∀ b, (ext b).length ≤ 8) : ∀ (n : Nat) (b : List Int), (paths ext n b).length ≤ 8 ^ n
  | 0, b => by simp [paths]
  | n + 1, b => by
    simp only [paths, List.length_flatMap]
    have : ∀ l : List Int, (l.map fun h => (paths ext n (b ++ [h])).length).sum ≤ l.length * 8 ^ n := by
      intro l
      induction l with
      | nil => simp
      | cons a l ih =>
        have := paths_many hx n (b ++ [a])
        simp only [List.map_cons, List.sum_cons, List.length_cons, Nat.add_mul, Nat.one_mul]
        omega
    have h1 := this (ext b)
    have h2 : (ext b).length * 8 ^ n ≤ 8 * 8 ^ n := Nat.mul_le_mul_right _ (hx b)
    rw [Nat.pow_succ]
    omega
theorem paths_sum (n : Nat) (b : List Int) : ((paths ext (n + 1) b).length : Int) = ((ext b).map fun h => ((paths ext n (b ++ [h])).length : Int)).sum := by
  simp only [paths, List.length_flatMap]
  generalize ext b = l
  induction l with
  | nil => rfl
  | cons a l ih => simp only [List.map_cons, List.sum_cons, Int.natCast_add, ih]
end
end Pf
end

section 
set_option Elab.async false
set_option linter.all false
set_option maxRecDepth 100000
set_option maxHeartbeats 1000000
/-! PwG: tie lists: may_have, first_from, many_from. -/
namespace Pf
open Enc (enc dep)
variable {P : Nat → Def} [Base P]
@[simp] theorem o_zipT {α β : Type} [Enc α] [Enc β] (S : Sto) (a : List α) (b : List β) : walkZip S (tu a) (tu b) = some ⟨(a.zip b).map fun p => .tup [enc p.1, enc p.2], none⟩ := by
  simp only [walkZip, tu, zipD, List.zipWith_map, List.zip, List.map_zipWith]
@[simp] theorem o_isT {α : Type} [Enc α] (S : Sto) (l : List α) : cmpOp S .is (tu l) .non = some false := by simp [cmpOp, isOp, tu]
@[simp] theorem o_isnT {α : Type} [Enc α] (S : Sto) (l : List α) : cmpOp S .isnot (tu l) .non = some true := by simp [cmpOp, isOp, tu]
@[simp] theorem o_isnN (S : Sto) : cmpOp S .isnot .non .non = some false := by simp [cmpOp, isOp]
def mayT (ts : List (Int × Int)) (b : List Int) (h : Int) : Bool := !((b.zip ts).any fun p => decide (p.1 = h) && meets p.2 (gat ts b.length))
def extT (ts : List (Int × Int)) (ll : List (List Int)) (b : List Int) : List Int := (gat ll b.length).filter (mayT ts b)
theorem spec_may (k : Nat) (n : Int) (ts : List (Int × Int)) (b : List Int) (h : Int) (S : Sto) (hb : b.length < ts.length) : run P (k + 2) F_may_have [webD n ts, tu b, .int h] S = .ok (.bl (mayT ts b h)) S := by
  refine run_ok b_may_have rfl rfl ?_
  have r : inR ts.length (b.length : Int) := ⟨by omega, by omega⟩
  simp [r]
  refine Wm (b.zip ts) (fun p => .tup [enc p.1, enc p.2]) (fun p => decide (p.1 = h) && meets p.2 (gat ts b.length)) ?_ ?_ ?_
  · simp
  · intro p hp
    simp [spec_meet]
    refine brP_dec (fun q => ?_) (fun q => ?_) <;> simp [q, spec_meet]
  · simp [mayT]
/-- what stays small -/
structure Sm (ts : List (Int × Int)) (ll : List (List Int)) : Prop where
  few : ts.length ≤ 1000
  len : ll.length = ts.length
def optD (o : Option (List Int)) : D := match o with
  | some l => tu l
  | none => .non
theorem spec_many (n : Int) (ts : List (Int × Int)) (ll : List (List Int)) (S : Sto) (h : Sm ts ll) : ∀ (m K : Nat) (b : List Int), b.length + m = ts.length → m + 3 ≤ K → run P K F_many_from [webD n ts, tu ll, tu b] S = .ok (.int (paths (extT ts ll) m b).length) S
  | 0, 0, b, hb, hK => by omega
  | m + 1, 0, b, hb, hK => by omega
  | 0, K + 1, b, hb, hK => by
    refine run_ok b_many_from rfl rfl ?_
    have e : (b.length : Int) = ts.length := by omega
    simp [e, paths]
  | m + 1, K + 1, b, hb, hK => by
    refine run_ok b_many_from rfl rfl ?_
    have e : ¬ (b.length : Int) = ts.length := by omega
    have r : inR ll.length (b.length : Int) := by rw [h.len]; exact inR_nat (by omega)
    have hf := h.few
    simp [e]
    refine Wf (gat ll b.length) enc (mayT ts b) id ?_ ?_ ?_
    · simp [r]
    · intro a ha
      simp [atL (P := P) (fun k => spec_may k n ts b a S (by omega)) (show 2 ≤ K by omega)]
    · simp
      refine Wm (extT ts ll b) enc (fun a => ((paths (extT ts ll) m (b ++ [a])).length : Int)) ?_ ?_ ?_
      · simp [extT]
      · intro a ha
        have := spec_many n ts ll S h m K (b ++ [a]) (by simp; omega) (by omega)
        simp [this, le_big (show b.length + 1 ≤ 100000 by omega)]
      · simp [paths_sum]
theorem spec_first (n : Int) (ts : List (Int × Int)) (ll : List (List Int)) (S : Sto) (h : Sm ts ll) : ∀ (m K : Nat) (b : List Int), b.length + m = ts.length → m + 3 ≤ K → run P K F_first_from [webD n ts, tu ll, tu b] S = .ok (optD (paths (extT ts ll) m b).head?) S
  | 0, 0, b, hb, hK => by omega
  | m + 1, 0, b, hb, hK => by omega
  | 0, K + 1, b, hb, hK => by
    refine run_ok b_first_from rfl (by simp [paths, optD]) ?_
    have e : (b.length : Int) = ts.length := by omega
    simp [e, paths, optD]
  | m + 1, K + 1, b, hb, hK => by
    refine run_ok b_first_from rfl (by unfold optD; split <;> simp) ?_
    have e : ¬ (b.length : Int) = ts.length := by omega
    have r : inR ll.length (b.length : Int) := by rw [h.len]; exact inR_nat (by omega)
    have hf := h.few
    simp [e]
    refine XS_for (gat ll b.length) enc (fun pre ρ S' => (∃ o3 o4, ρ = [some (webD n ts), some (tu ll), some (tu b), o3, o4]) ∧ S' = S ∧ ((pre.filter (mayT ts b)).flatMap fun a => paths (extT ts ll) m (b ++ [a])) = []) ?_ ?_ ?_
    · simp [r]
    · rintro pre a post ρ S' e ⟨⟨o3, o4, rfl⟩, rfl, g⟩
      have e1 := atL (P := P) (fun k => spec_may k n ts b a S' (by omega)) (show 2 ≤ K by omega)
      have e2 := spec_first n ts ll S' h m K (b ++ [a]) (by simp; omega) (by omega)
      simp [e1]
      refine brP_of (fun q => ?_) (fun q => ?_)
      · simp [e2, le_big (show b.length + 1 ≤ 100000 by omega)]
        have pe : ∃ r, paths (extT ts ll) (m + 1) b = paths (extT ts ll) m (b ++ [a]) ++ r := by
          refine ⟨(post.filter (mayT ts b)).flatMap fun a => paths (extT ts ll) m (b ++ [a]), ?_⟩
          simp only [paths]
          unfold extT
          rw [e, List.filter_append, List.filter_cons, if_pos q, List.flatMap_append, List.flatMap_cons]
          have g2 : List.flatMap (fun h => paths (extT ts ll) m (b ++ [h])) (List.filter (mayT ts b) pre) = [] := g
          unfold extT at g2
          rw [g2, List.nil_append]
        obtain ⟨r, pe⟩ := pe
        cases z : paths (extT ts ll) m (b ++ [a]) with
        | nil =>
          simp [optD, q]
          exact ⟨by simpa using g, z⟩
        | cons c cs =>
          rw [z] at pe
          simp [optD, pe]
      · simp [q]
        simpa using g
    · rintro ρ S' ⟨⟨o3, o4, rfl⟩, rfl, g⟩
      have : paths (extT ts ll) (m + 1) b = [] := g
      simp [this, optD]
end Pf
end

section 
set_option Elab.async false
set_option linter.all false
set_option maxRecDepth 100000
set_option maxHeartbeats 1000000
/-! PwH: the law's outer loop, boxes, webs drawn. -/
namespace Pf
open Enc (enc dep)
variable {P : Nat → Def} [Base P]
theorem cells (m M : Nat) (N : Int) (h : N = M) : (if 1 < (if N < (m : Int) then N else (m : Int)) then (if N < (m : Int) then N else (m : Int)) else 1) = ((max 1 (min m M) : Nat) : Int) := by
  subst h
  split <;> split at * <;> omega
theorem it_cells {Φ : Fn} {ns : List Int} {os : Env} {S : Sto} {Q : Wk → Sto → Prop} {X : Xd} {t : Tok2 Q X} (M : Nat) (N : Int) (h : N = M) (hM : M < 1000) (q : Q ⟨(List.range (max 1 (min ns.length M))).map enc, none⟩ S) :
    WI Φ (.rng1 (.bi .max2 [.cst (.int 1), .bi .min2 [.bi .len [.var 0], .cst (.int N)]])) (some (.scr ns) :: os) S Q X t := by
  simp
  rw [cells ns.length M N h]
  simp [show max 1 (min ns.length M) < 1000 by omega]
  exact q
theorem spec_box2 (k : Nat) (ns : List Int) (j : Nat) (S : Sto) : ∃ x, run P (k + 1) F__law_box_v2 [.scr ns, .int j] S = .ok (.ref S.length) (sx (S ++ [.lst [.int x]]) S.length x []) := by
  obtain ⟨x, e⟩ := box_spec (prog := P) b__law_box_v2 k ns j S
  exact ⟨x, by rw [e]; simp [sx]⟩
theorem spec_web (k : Nat) {S : Sto} {b : Nat} (x : Int) (hb : b < S.length) : ∃ (n : Nat) (ts : List (Int × Int)) (y : Int), Web n ts ∧ run P (k + 2) F__law_web [.ref b, .int 1, .int 6] (sx S b x []) = .ok (webD n ts) (sx S b y []) :=
  web_spec b__law_take b__law_web x hb
theorem kept_nil (S : Sto) : Kept [] S := ⟨Nat.zero_le _, fun i hi => absurd hi (Nat.not_lt_zero _)⟩
theorem cut_take {α : Type} (l : List α) (n : Nat) : cut l none (some (n : Int)) = l.take n := by
  simp only [cut, sIx, List.drop_zero, Nat.sub_zero]
  rw [if_neg (by omega)]
  simp only [Int.toNat_natCast]
  by_cases h : n ≤ l.length
  · rw [Nat.min_eq_left h]
  · rw [Nat.min_eq_right (by omega), List.take_of_length_le (Nat.le_refl _), List.take_of_length_le (by omega)]
theorem cut_drop {α : Type} (l : List α) (n : Nat) : cut l (some (n : Int)) none = l.drop n := by
  simp only [cut, sIx]
  rw [if_neg (by omega)]
  simp only [Int.toNat_natCast]
  by_cases h : n ≤ l.length
  · rw [Nat.min_eq_left h, List.take_of_length_le (by simp)]
  · rw [Nat.min_eq_right (by omega), List.drop_of_length_le (Nat.le_refl _), List.drop_of_length_le (by omega)]; simp
theorem Web.take {n : Int} {ts : List (Int × Int)} (h : Web n ts) (m : Nat) : Web n (ts.take m) :=
  ⟨h.lo, h.hi, fun p hp => h.tie p (List.mem_of_mem_take hp), h.up.sublist (List.take_sublist _ _), by have := h.few; simp; omega⟩
/-- some list and None behind it, the first -/
theorem o_headN (S : Sto) (l : List (List Int)) (h : l.length + 1 ≤ big) : binOp S .add (ls l) (.lst [.non]) = some (.lst (l.map enc ++ [.non])) := by
  simp [ls, binOp, Pf.res, h]
theorem o_headN2 (l : List (List Int)) : atOf (l.map enc ++ [.non]) 0 = some (optD l.head?) := by
  cases l with
  | nil => simp [optD]
  | cons a l => simp [optD]
theorem Rp.opt {o : Option (List Int)} (h : ∀ l, o = some l → l.length ≤ 1000 ∧ ∀ a ∈ l, a.natAbs < 2 ^ 64) : Rp (optD o) := by
  cases o with
  | none => exact Rp.non
  | some l => exact Rp.tuI (h l rfl).1 (h l rfl).2
theorem paths_mem (ext : List Int → List Int) : ∀ (n : Nat) (b : List Int), ∀ c ∈ paths ext n b, ∀ a ∈ c, a ∈ b ∨ ∃ b', a ∈ ext b'
  | 0, b, c, h, a, ha => by simp [paths] at h; subst h; exact .inl ha
  | n + 1, b, c, h, a, ha => by
    simp only [paths, List.mem_flatMap] at h
    obtain ⟨x, hx, h⟩ := h
    rcases paths_mem ext n _ c h a ha with q | q
    · rcases List.mem_append.mp q with q | q
      · exact .inl q
      · exact .inr ⟨b, by rw [List.mem_singleton.mp q]; exact hx⟩
    · exact .inr q
theorem gat_bad {α : Type} [Inhabited α] {l : List α} {i : Int} (h : ¬ inR l.length i) : gat l i = default := by
  have := atOf_if l i
  rw [if_neg h] at this
  simp [gat, this]
theorem extT_mem {ts : List (Int × Int)} {ll : List (List Int)} {b : List Int} {a : Int} (h : a ∈ extT ts ll b) : ∃ l ∈ ll, a ∈ l := by
  have h := (List.mem_filter.mp h).1
  by_cases q : inR ll.length (b.length : Int)
  · exact ⟨_, gat_mem _ _ q, h⟩
  · rw [gat_bad q] at h; cases h
theorem extT_len {ts : List (Int × Int)} {ll : List (List Int)} (h8 : ∀ l ∈ ll, l.length ≤ 8) (b : List Int) : (extT ts ll b).length ≤ 8 := by
  refine Nat.le_trans (List.length_filter_le _ _) ?_
  by_cases q : inR ll.length (b.length : Int)
  · exact h8 _ (gat_mem _ _ q)
  · rw [gat_bad q]; exact Nat.zero_le _
end Pf
end

section 
set_option Elab.async false
set_option linter.all false
set_option maxRecDepth 100000
set_option maxHeartbeats 1000000
/-! PwI: drawing by the other box: cells, mixed numbers, webs and lists drawn. -/
namespace Pf
open Enc (enc dep)
variable {P : Nat → Def} [Base P]
theorem optP_at {xs : List D} {i : Int} {f : D → Prop} {t : Tok f} (h : inR xs.length i) (q : ∀ x ∈ xs, f x) : optP (atOf xs i) f t := by
  have e := @atOf_if D ⟨.non⟩ xs i
  rw [if_pos h] at e
  exact optP_of e (q _ (@gat_mem D ⟨.non⟩ xs i h))
theorem XS_cut {Φ : Fn} {ρ : Env} {S : Sto} {E : Ex} {u : Tok E} {s : Stm} {ss : List Stm} (R : Env → Sto → Prop) (h : XS Φ [s] ρ S { E with nx := R } ⟨⟩) (h2 : ∀ ρ' S', R ρ' S' → XS Φ ss ρ' S' E ⟨⟩) : XS Φ (s :: ss) ρ S E u := by
  rw [XS_cons] at h ⊢
  exact RP_imp h (fun ρ S q => h2 ρ S (by simpa using q)) (fun _ _ q => q) (fun _ _ q => q) (fun _ _ q => q) (fun _ _ _ _ q => q)
theorem run_keep {P : Nat → Def} {k f np ns : Nat} {args : List D} {S : Sto} {body : List Stm} (hP : P f = ⟨np, ns, true, body⟩) (hn : args.length = np)
    (h : XS (run P k) body (args.map some ++ List.replicate (ns - np) none) S ⟨fun _ _ => False, fun d S' => d = .ref S.length ∧ ∃ x, S' = S ++ [.lst [.int x]], fun _ _ => False, fun _ _ => False, fun _ _ _ _ => False⟩ ⟨⟩) :
    ∃ x, run P (k + 1) f args S = .ok (.ref S.length) (S ++ [.lst [.int x]]) := by
  rw [run_succ, hP]
  unfold callD
  rw [if_pos hn]
  rw [XS_def] at h
  cases q : execs (run P k) body (args.map some ++ List.replicate (ns - np) none) S with
  | rt d S' =>
    rw [q] at h
    obtain ⟨rfl, x, rfl⟩ := h
    refine ⟨x, ?_⟩
    show finK S (.ref S.length) (S ++ [.lst [.int x]]) = _
    unfold finK
    simp only [List.getElem?_append_right (Nat.le_refl _), Nat.sub_self, List.getElem?_cons_zero]
    rw [if_pos ⟨Kept.ext _ _, Nat.le_refl _, rfl⟩, List.take_left]
  | nx ρ S' => rw [q] at h; exact h.elim
  | bk ρ S' => rw [q] at h; exact h.elim
  | ct ρ S' => rw [q] at h; exact h.elim
  | ex c x ρ S' => rw [q] at h; exact h.elim
  | stuck => rw [q] at h; exact h.elim
@[simp] theorem o_mod {S : Sto} {i j : Int} (h : 0 < j) : binOp S .mod (.int i) (.int j) = some (.int (i % j)) := s_mod h
@[simp] theorem o_fdiv {S : Sto} {i j : Int} (h : 0 < j ∧ j < 1073741824) : binOp S .fdiv (.int i) (.int j) = some (.int (i / j)) := s_fdiv h
theorem mulC {i j : Int} (h : -1000000000000 ≤ j ∧ j ≤ 1000000000000) : mulOk i j = true := mulR (by omega)
theorem mulC' {i j : Int} (h : -1000000000000 ≤ i ∧ i ≤ 1000000000000) : mulOk i j = true := mulL (by omega)
@[simp] theorem o_abs (S : Sto) (i : Int) : biOp S .abs [.int i] = some (.int (if i < 0 then -i else i)) := rfl
theorem spec_cell (k : Nat) (ns : List Int) (j : Nat) (S : Sto) : ∃ x, run P (k + 1) F__law_cell [.scr ns, .int j] S = .ok (.int x) S := by
  by_cases h : j < ns.length
  · refine ⟨ns[j], run_ok b__law_cell rfl rfl ?_⟩
    have h' : (j : Int) < ns.length := by omega
    simp [h, s_atN]
  · refine ⟨0, run_ok b__law_cell rfl rfl ?_⟩
    simp [h]
theorem spec_mix (k : Nat) (c : Int) (j : Nat) (hj : j < 1000) (S : Sto) : ∃ y, run P (k + 1) F__law_mix [.int c, .int j] S = .ok (.int y) S := by
  have key : OP (run P (k + 1) F__law_mix [.int c, .int j] S) (fun d S' => ∃ y, d = .int y ∧ S' = S) noX ⟨⟩ := by
    refine run_op b__law_mix rfl ?_
    simp
    refine optP_at (by simp only [List.length_cons, List.length_nil]; exact ⟨by omega, by omega⟩) ?_
    intro d hd
    obtain ⟨v, hv, rfl⟩ : ∃ v : Int, (0 ≤ v ∧ v ≤ 100000) ∧ d = .int v := by
      simp only [List.mem_cons, List.not_mem_nil, or_false] at hd
      rcases hd with rfl | rfl | rfl | rfl | rfl | rfl | rfl | rfl | rfl | rfl | rfl | rfl | rfl <;> exact ⟨_, by decide, rfl⟩
    simp [mulC (show -1000000000000 ≤ v ∧ v ≤ 1000000000000 by omega), mulC (show -1000000000000 ≤ (j : Int) ∧ (j : Int) ≤ 1000000000000 by omega), mulC' (show -1000000000000 ≤ (7919 : Int) ∧ (7919 : Int) ≤ 1000000000000 by omega)]
    generalize ((c % 2147483647 + 12345) * v + 977 * ↑j + 7919 * (↑j / 13)) = u
    simp [mulC (i := u % 1000000007) (show -1000000000000 ≤ u % 1000000007 ∧ u % 1000000007 ≤ 1000000000000 by omega), mulC (show -1000000000000 ≤ (j : Int) ∧ (j : Int) ≤ 1000000000000 by omega), Kept.refl]
  obtain ⟨d, S', e, y, rfl, rfl⟩ := OP_ex key
  exact ⟨y, e⟩
theorem spec_box1 (k : Nat) (ns : List Int) (j : Nat) (S : Sto) : ∃ x, run P (k + 2) F__law_box [.scr ns, .int j] S = .ok (.ref S.length) (sx (S ++ [.lst [.int x]]) S.length x []) := by
  have key : ∃ x, run P (k + 2) F__law_box [.scr ns, .int j] S = .ok (.ref S.length) (S ++ [.lst [.int x]]) := by
    refine run_keep b__law_box rfl ?_
    obtain ⟨c, ec⟩ := spec_cell (P := P) k ns j S
    simp [ec]
    refine brP_dec (fun h => ?_) (fun h => ?_)
    · simp
    · simp
      refine XS_for (List.range 40) enc (fun pre ρ S' => S' = S ∧ ∃ (x : Int) (o4 : Option D), ρ = [some (.scr ns), some (.int j), some (.int c), some (.int x), o4]) ?_ ?_ ?_
      · simp [show rngV 40 = _ from rngV_nat 40 (by omega)]
      · rintro pre a post ρ S' e ⟨rfl, x, o4, rfl⟩
        have ha : a < 1000 := by
          have : a ∈ List.range 40 := by rw [e]; simp
          have := List.mem_range.mp this
          omega
        obtain ⟨y, ey⟩ := spec_mix (P := P) k c a ha S'
        simp [mulC (i := x) (show -1000000000000 ≤ (142857143 : Int) ∧ (142857143 : Int) ≤ 1000000000000 by omega), ey]
      · rintro ρ S' ⟨rfl, x, o4, rfl⟩
        simp
  obtain ⟨x, e⟩ := key
  exact ⟨x, by rw [e]; simp [sx]⟩
def prs (n : Nat) : List (Int × Int) := (List.range n).flatMap fun i => (List.range' (i + 1) (n - (i + 1))).map fun (j : Nat) => ((i : Int), (j : Int))
theorem prs_mem {n : Nat} {p : Int × Int} (h : p ∈ prs n) : 0 ≤ p.1 ∧ p.1 < p.2 ∧ p.2 < n := by
  simp only [prs, List.mem_flatMap, List.mem_range, List.mem_map, List.mem_range'_1] at h
  obtain ⟨i, hi, j, hj, rfl⟩ := h
  simp only
  omega
theorem prs_len {n : Nat} (h : n ≤ 6) : (prs n).length ≤ 15 := by
  have : n = 0 ∨ n = 1 ∨ n = 2 ∨ n = 3 ∨ n = 4 ∨ n = 5 ∨ n = 6 := by omega
  rcases this with rfl | rfl | rfl | rfl | rfl | rfl | rfl <;> decide +kernel
theorem spec_pairs (k : Nat) (n : Nat) (hn : n ≤ 6) (S : Sto) : run P (k + 1) F__law_pairs [.int n] S = .ok (ls (prs n)) S := by
  refine run_ok b__law_pairs rfl (by simp) ?_
  simp
  refine XS_for (List.range n) enc (fun pre ρ S' => S' = S ∧ ∃ o2 : Option D, ρ = [some (.int n), some (ls (pre.flatMap fun i => (List.range' (i + 1) (n - (i + 1))).map fun (j : Nat) => ((i : Int), (j : Int)))), o2, none]) ?_ ?_ ?_
  · simp [show n < 1000 by omega]
    rfl
  · rintro pre a post ρ S' e ⟨rfl, o2, rfl⟩
    have ha : a < n := by
      have : a ∈ List.range n := by rw [e]; simp
      exact List.mem_range.mp this
    simp
    refine Wm (List.range' (a + 1) (n - (a + 1))) enc (fun j => ((a : Int), (j : Int))) ?_ ?_ ?_
    · simp
      rw [show (a : Int) + 1 = ((a + 1 : Nat) : Int) by omega, rngW_nat (a + 1) n (by omega) (by omega)]
      simp
    · intro j hj
      simp [pairD]
    · simp
      refine le_big ?_
      have h1 : (pre.flatMap fun i => (List.range' (i + 1) (n - (i + 1))).map fun (j : Nat) => ((i : Int), (j : Int))).length ≤ (prs n).length := by
        unfold prs
        rw [e, List.flatMap_append, List.length_append]
        omega
      have h2 := prs_len hn
      rw [List.length_flatMap] at h1
      simp at h1
      omega
  · rintro ρ S' ⟨rfl, o2, rfl⟩
    simp [prs]
/-- pairs of places, few -/
structure GP (n : Nat) (ps : List (Int × Int)) : Prop where
  few : ps.length < 64
  ok : ∀ p ∈ ps, 0 ≤ p.1 ∧ p.1 < p.2 ∧ p.2 < n
theorem len_dedupP : ∀ l : List (Int × Int), (dedupP l).length ≤ l.length
  | [] => Nat.le_refl _
  | a :: l => by
    simp only [dedupP, List.length_cons]
    have := List.length_filter_le (fun y => !(a == y)) (dedupP l)
    have := len_dedupP l
    omega
theorem GP.web {n : Nat} {ps : List (Int × Int)} (h : GP n ps) (h1 : 1 ≤ n) (h6 : n ≤ 6) : Web n (sortP (dedupP ps)) :=
  web_sort (by omega) (by omega) (dedupP_nodup ps) (fun p hp => h.ok p ((dedupP_mem ps p).mp hp)) (by have := len_dedupP ps; have := h.few; omega)
theorem spec_drawn_web (k : Nat) {S : Sto} {b m : Nat} (x : Int) (hb : b < S.length) (hm : 1 ≤ m ∧ m ≤ 6) : ∃ (n : Nat) (ts : List (Int × Int)) (y : Int), Web n ts ∧ n ≤ m ∧ run P (k + 2) F__law_drawn_web [.ref b, .int m] (sx S b x []) = .ok (webD n ts) (sx S b y []) := by
  have key : OP (run P (k + 2) F__law_drawn_web [.ref b, .int m] (sx S b x [])) (fun d S' => ∃ (n : Nat) (ts : List (Int × Int)) (y : Int), Web n ts ∧ n ≤ m ∧ d = webD n ts ∧ S' = sx S b y []) noX ⟨⟩ := by
    refine run_op b__law_drawn_web rfl ?_
    have T : ∀ (j z : Int), 0 < j → j < 1000 → run P (k + 1) F__law_take [.ref b, .int j] (sx S b z []) = .ok (.int (z % j)) (sx S b (z / j) []) := fun j z h1 h2 => spec_take k hb ⟨h1, by omega⟩
    have m1 := Int.emod_nonneg x (show (m : Int) ≠ 0 by omega)
    have m2 := Int.emod_lt_of_pos x (show (0 : Int) < m by omega)
    obtain ⟨n, hn, hn1, hn2⟩ : ∃ n : Nat, 1 + x % (m : Int) = n ∧ 1 ≤ n ∧ n ≤ m := ⟨(1 + x % (m : Int)).toNat, by omega, by omega, by omega⟩
    simp [T m x (by omega) (by omega), hn, T 6 _ (by omega) (by omega), T 4 _ (by omega) (by omega)]
    refine optP_at (by simp only [List.length_cons, List.length_nil]; exact ⟨by omega, by omega⟩) ?_
    intro d hd
    obtain ⟨v, rfl⟩ : ∃ v : Int, d = .int v := by
      simp only [List.mem_cons, List.not_mem_nil, or_false] at hd
      rcases hd with rfl | rfl | rfl | rfl <;> exact ⟨_, rfl⟩
    simp
    generalize hw : x / (m : Int) % 6 = way
    let R : Env → Sto → Prop := fun ρ S' => ∃ (ps : List (Int × Int)) (z : Int), GP n ps ∧ ρ = [some (.ref b), some (.int m), some (.int n), some (.int way), some (.int v), some (ls ps), none, none] ∧ S' = sx S b z []
    refine W_compS (prs n) enc (fun pre ys S' => ∃ (ps : List (Int × Int)) (z : Int), ys = ps.map enc ∧ ps.length ≤ pre.length ∧ (∀ p ∈ ps, p ∈ prs n) ∧ S' = sx S b z []) ?_ ?_ ?_
    · simp [spec_pairs (P := P) k n (by omega)]
      exact ⟨_, rfl⟩
    · rintro pr a post ys S' e ⟨ps, z, rfl, g1, g2, rfl⟩
      have ha : a ∈ prs n := by rw [e]; simp
      simp [T 8 z (by omega) (by omega)]
      refine brP_dec (fun q => ?_) (fun q => ?_)
      · simp [-Prod.forall]
        refine ⟨ps ++ [a], by simp, by simp; omega, fun p hp => ?_, _, rfl⟩
        rcases List.mem_append.mp hp with hp | hp
        · exact g2 p hp
        · rw [List.mem_singleton.mp hp]; exact ha
      · exact ⟨ps, _, rfl, by simp; omega, g2, rfl⟩
    · rintro ys S' ⟨ps, z, rfl, g1, g2, rfl⟩
      have hl := prs_len (n := n) (by omega)
      have G0 : GP n ps := ⟨by omega, fun p hp => prs_mem (g2 p hp)⟩
      simp only [show D.lst (ps.map enc) = ls ps from rfl]
      refine XS_cut R ?_ ?_
      · simp
        refine brP_dec (fun q => ?_) (fun q => ?_)
        · simp
          refine W_compS (List.range' 1 (n - 1)) enc (fun pre ys S' => ∃ (ps : List (Int × Int)) (z : Int), ys = ps.map enc ∧ ps.length = pre.length ∧ (∀ p ∈ ps, 0 ≤ p.1 ∧ p.1 < p.2 ∧ p.2 < n) ∧ S' = sx S b z []) ?_ ?_ ?_
          · simp [show n < 1000 by omega]
            exact ⟨_, rfl⟩
          · rintro pr a post ys S' e ⟨ps, z, rfl, g1, g2, rfl⟩
            have ha : a ∈ List.range' 1 (n - 1) := by rw [e]; simp
            rw [List.mem_range'_1] at ha
            simp [T a z (by omega) (by omega), -Prod.forall]
            refine ⟨ps ++ [(z % a, (a : Int))], by simp [pairD], by simp [g1], fun p hp => ?_, _, rfl⟩
            rcases List.mem_append.mp hp with hp | hp
            · exact g2 p hp
            · rw [List.mem_singleton.mp hp]
              exact ⟨Int.emod_nonneg _ (by omega), Int.emod_lt_of_pos _ (by omega), by simp only; omega⟩
          · rintro ys S' ⟨ps, z, rfl, g1, g2, rfl⟩
            simp at g1
            simp
            exact ⟨ps, z, ⟨by omega, g2⟩, rfl, rfl⟩
        · simp
          exact ⟨ps, z, G0, rfl, rfl⟩
      · rintro ρ S' ⟨ps, z, G, rfl, rfl⟩
        refine XS_cut R ?_ ?_
        · simp
          refine brP_dec (fun q => ?_) (fun q => ?_)
          · simp
            refine brP_dec (fun q2 => ?_) (fun q2 => ?_)
            · simp
              refine Wm (List.range (n - 1)) enc (fun j => ((j : Int), (j : Int) + 1)) ?_ ?_ ?_
              · simp
                rw [show (n : Int) - 1 = ((n - 1 : Nat) : Int) by omega]
                simp [show n - 1 < 1000 by omega]
              · intro j hj
                simp [pairD]
              · simp [show D.lst [.tup [.int 0, .int ((n : Int) - 1)]] = ls [((0 : Int), (n : Int) - 1)] from rfl]
                refine ⟨le_big (by omega), _, z, ⟨?_, ?_⟩, rfl, rfl⟩
                · simp; omega
                · intro p hp
                  simp at hp
                  rcases hp with ⟨j, hj, rfl⟩ | rfl
                  · simp only; omega
                  · simp only; omega
            · simp
              exact ⟨ps, z, G, rfl, rfl⟩
          · simp [q]
            exact ⟨ps, z, G, rfl, rfl⟩
        · rintro ρ S' ⟨ps, z, G, rfl, rfl⟩
          refine XS_cut R ?_ ?_
          · simp
            refine brP_dec (fun q => ?_) (fun q => ?_)
            · simp
              refine Wf (prs n) enc (fun p => !decide (p.1 % 2 = p.2 % 2) || decide (p.1 + p.2 = v)) id ?_ ?_ ?_
              · simp [spec_pairs (P := P) k n (by omega)]
              · intro p hp
                simp
                refine brP_of (fun h => ?_) (fun h => ?_) <;> simp at h ⊢ <;> simp [h]
              · simp
                refine ⟨_, z, ⟨?_, fun p hp => prs_mem (List.mem_filter.mp hp).1⟩, rfl, rfl⟩
                exact Nat.lt_of_le_of_lt (List.length_filter_le _ _) (by omega)
            · simp
              exact ⟨ps, z, G, rfl, rfl⟩
          · rintro ρ S' ⟨ps, z, G, rfl, rfl⟩
            simp [o_ssetP _ ps G.few (fun p hp => by have := G.ok p hp; omega), web_fold]
            refine ⟨sx_kept hb, n, _, G.web hn1 (by omega), hn2, rfl, ?_⟩
            exact ⟨z, by have := sx_take (S := S) (T := []) (b := b) (x := x) (y := z); simpa using this⟩
  obtain ⟨d, S', e, n, ts, y, h1, h2, rfl, rfl⟩ := OP_ex key
  exact ⟨n, ts, y, h1, h2, e⟩
@[simp high] theorem sx_atE (S T : Sto) (b : Nat) (x : Int) (o : O) : (sx S b x (T ++ [o]))[S.length + T.length]? = some o := by rw [sx_at]; simp
@[simp high] theorem sx_setE (S T : Sto) (b : Nat) (x : Int) (o q : O) : (sx S b x (T ++ [o])).set (S.length + T.length) q = sx S b x (T ++ [q]) := by rw [sx_set]; simp
theorem sx_keptT {S T : Sto} {b : Nat} {x y : Int} {o : O} (hb : b < S.length) : Kept (sx S b x T) (sx S b y (T ++ [o])) := by
  refine ⟨by simp [sx], fun i hi => ?_⟩
  rw [sx_len] at hi
  unfold sx
  by_cases z : i = b
  · right
    refine ⟨.lst [.int y], ?_, rfl⟩
    rw [z, List.getElem?_append_left (by simpa using hb), List.getElem?_set_self hb]
  · left
    by_cases h2 : i < S.length
    · rw [List.getElem?_append_left (by simpa using h2), List.getElem?_append_left (by simpa using h2), List.getElem?_set_ne (by omega), List.getElem?_set_ne (by omega)]
    · rw [List.getElem?_append_right (l₁ := S.set b (.lst [.int y])) (by simp; omega), List.getElem?_append_right (l₁ := S.set b (.lst [.int x])) (by simp; omega)]
      simp only [List.length_set]
      rw [List.getElem?_append_left (by omega)]
theorem sx_takeT {S T : Sto} {b : Nat} {y : Int} {o : O} : (sx S b y (T ++ [o])).take (S.length + T.length) = sx S b y T := by
  unfold sx
  rw [← List.append_assoc, List.take_left' (by simp)]
theorem spec_drawn_list (k : Nat) {S : Sto} {b : Nat} (x : Int) {c h : Int} (T : Sto) (hb : b < S.length) (hc : 0 ≤ c ∧ c ≤ 8) (hh : 0 < h ∧ h ≤ 1000) :
    ∃ (l : List Int) (y : Int), (l.length ≤ c ∧ (∀ z ∈ l, 0 ≤ z ∧ z < h) ∧ l.Pairwise (· < ·)) ∧ run P (k + 2) F__law_drawn_list [.ref b, .int c, .int h] (sx S b x T) = .ok (tu l) (sx S b y T) := by
  have key : OP (run P (k + 2) F__law_drawn_list [.ref b, .int c, .int h] (sx S b x T)) (fun d S' => ∃ (l : List Int) (y : Int), (l.length ≤ c ∧ (∀ z ∈ l, 0 ≤ z ∧ z < h) ∧ l.Pairwise (· < ·)) ∧ d = tu l ∧ S' = sx S b y T) noX ⟨⟩ := by
    refine run_op b__law_drawn_list rfl ?_
    have m1 := Int.emod_nonneg x (show c + 1 ≠ 0 by omega)
    have m2 := Int.emod_lt_of_pos x (show (0 : Int) < c + 1 by omega)
    obtain ⟨r, hr⟩ : ∃ r : Nat, x % (c + 1) = r := ⟨(x % (c + 1)).toNat, by omega⟩
    simp
    refine XS_for (List.range r) enc (fun pre ρ S' => ∃ (l : List Int) (z : Int) (o4 : Option D), l.length = pre.length ∧ (∀ q ∈ l, 0 ≤ q ∧ q < h) ∧ ρ = [some (.ref b), some (.int c), some (.int h), some (.ref (S.length + T.length)), o4] ∧ S' = sx S b z (T ++ [OL l])) ?_ ?_ ?_
    · simp [spec_take (P := P) k hb (show 0 < c + 1 ∧ c + 1 < 1073741824 by omega), hr, show r < 1000 by omega]
      exact ⟨_, rfl⟩
    · rintro pre a post ρ S' e ⟨l, z, o4, g1, g2, rfl, rfl⟩
      have hp : pre.length < 1000 := by
        have := congrArg List.length e
        simp at this
        omega
      simp [spec_take (P := P) k hb (show 0 < h ∧ h < 1073741824 by omega)]
      refine ⟨lt_big' (by omega), l ++ [z % h], by simp [g1], fun q hq => ?_, z / h, rfl⟩
      rcases List.mem_append.mp hq with hq | hq
      · exact g2 q hq
      · rw [List.mem_singleton.mp hq]
        exact ⟨Int.emod_nonneg _ (by omega), Int.emod_lt_of_pos _ (by omega)⟩
    · rintro ρ S' ⟨l, z, o4, g1, g2, rfl, rfl⟩
      simp at g1
      obtain ⟨s1, s2, s3⟩ := sset_ok g2
      simp
      exact ⟨by omega, sx_keptT hb, _, ⟨by omega, s2, s3⟩, rfl, z, sx_takeT⟩
  obtain ⟨d, S', e, l, y, h1, rfl, rfl⟩ := OP_ex key
  exact ⟨l, y, h1, e⟩
theorem spec_law_tied (k : Nat) (n p : Int) (ts : List (Int × Int)) (S : Sto) (hw : Web n ts) : run P (k + 1) F__law_tied [webD n ts, .int p] S = .ok (tu (sortI (near ts p))) S := by
  refine run_ok b__law_tied rfl (by simp) ?_
  simp
  refine XS_for ts enc (fun pre ρ S' => S' = S ++ [OL (near pre p)] ∧ ∃ o3 o4 : Option D, ρ = [some (webD n ts), some (.int p), some (.ref S.length), o3, o4]) ?_ ?_ ?_
  · simp
    rfl
  · rintro pre a post ρ S' e ⟨rfl, o3, o4, rfl⟩
    have ha := hw.tie a (by rw [e]; simp)
    have hl : pre.length ≤ 1000 := by
      have := congrArg List.length e
      have := hw.few
      simp at *
      omega
    have hl2 : (near pre p).length < big := by
      unfold near
      rw [List.length_map]
      exact lt_big' (Nat.lt_of_le_of_lt (List.length_filter_le _ _) (by omega))
    simp
    refine brP_dec (fun q => ?_) (fun q => ?_)
    · have q2 : ¬ a.2 = p := by omega
      simp [q2, hl2]
      have : near (pre ++ [a]) p = near pre p ++ [a.2] := by
        simp [near, q]
        omega
      rw [this]
    · simp
      refine brP_dec (fun q2 => ?_) (fun q2 => ?_)
      · simp [hl2]
        have : near (pre ++ [a]) p = near pre p ++ [a.1] := by
          simp [near, q2]
        rw [this]
      · simp
        have : near (pre ++ [a]) p = near pre p := by
          simp [near, Ne.symm q, Ne.symm q2]
        rw [this]
  · rintro ρ S' ⟨rfl, o3, o4, rfl⟩
    simp
theorem spec_drawn_lists (k : Nat) {S : Sto} {b n : Nat} {ts : List (Int × Int)} (x : Int) (hb : b < S.length) (hn : n ≤ 6) :
    ∃ (ll : List (List Int)) (y : Int), Lists n ll ∧ (∀ l ∈ ll, l.length ≤ 4) ∧ run P (k + 3) F__law_drawn_lists [.ref b, webD n ts] (sx S b x []) = .ok (tu ll) (sx S b y []) := by
  have key : OP (run P (k + 3) F__law_drawn_lists [.ref b, webD n ts] (sx S b x [])) (fun d S' => ∃ (ll : List (List Int)) (y : Int), Lists n ll ∧ (∀ l ∈ ll, l.length ≤ 4) ∧ d = tu ll ∧ S' = sx S b y []) noX ⟨⟩ := by
    refine run_op b__law_drawn_lists rfl ?_
    have T : ∀ (U : Sto) (j z : Int), 0 < j → j < 1001 → run P (k + 2) F__law_take [.ref b, .int j] (sx S b z U) = .ok (.int (z % j)) (sx S b (z / j) U) := fun U j z h1 h2 => spec_take (k + 1) hb ⟨h1, by omega⟩
    simp [T [] 4 _ (by omega) (by omega)]
    refine optP_at (by simp only [List.length_cons, List.length_nil]; exact ⟨by omega, by omega⟩) ?_
    intro d hd
    obtain ⟨h, hh, rfl⟩ : ∃ v : Int, (0 < v ∧ v ≤ 100) ∧ d = .int v := by
      simp only [List.mem_cons, List.not_mem_nil, or_false] at hd
      rcases hd with rfl | rfl | rfl | rfl <;> exact ⟨_, by decide, rfl⟩
    clear hd
    have c1 := Int.emod_nonneg x (show (4 : Int) ≠ 0 by omega)
    have c2 := Int.emod_lt_of_pos x (show (0 : Int) < 4 by omega)
    obtain ⟨c, hc⟩ : ∃ c : Int, 1 + x % 4 = c := ⟨_, rfl⟩
    simp [hc]
    refine XS_for (List.range n) enc (fun pre ρ S' => ∃ (ll : List (List Int)) (z : Int) (o5 o6 : Option D), ll.length = pre.length ∧ (∀ l ∈ ll, l.length ≤ 4 ∧ HL l) ∧ ρ = [some (.ref b), some (webD n ts), some (.int c), some (.int h), some (.ref S.length), o5, o6] ∧ S' = sx S b z [OL ll]) ?_ ?_ ?_
    · simp [show n < 1000 by omega]
      exact ⟨_, rfl⟩
    · rintro pre a post ρ S' e ⟨ll, z, o5, o6, g1, g2, rfl, rfl⟩
      have hp : pre.length < 1000 := by
        have := congrArg List.length e
        simp at this
        omega
      obtain ⟨l, z2, ⟨l1, l2, l3⟩, el⟩ := spec_drawn_list (P := P) k z (c := c) (h := h) [OL ll] hb (by omega) (by omega)
      have H : HL l := ⟨by omega, fun q hq => by have := l2 q hq; omega, l3⟩
      let R : Env → Sto → Prop := fun ρ S' => ∃ (l : List Int) (z : Int), l.length ≤ 4 ∧ HL l ∧ ρ = [some (.ref b), some (webD n ts), some (.int c), some (.int h), some (.ref S.length), some (.int a), some (tu l)] ∧ S' = sx S b z [OL ll]
      simp only [s_putN, enc_nat, List.set_cons_succ, List.set_cons_zero, putP_some]
      refine XS_cut (fun ρ S' => ρ = [some (.ref b), some (webD n ts), some (.int c), some (.int h), some (.ref S.length), some (.int a), some (tu l)] ∧ S' = sx S b z2 [OL ll]) (by simp [el]) ?_
      rintro ρ S' ⟨rfl, rfl⟩
      refine XS_cut R ?_ ?_
      · simp
        refine brP_dec (fun q => ?_) (fun q => ?_)
        · simp [T _ 4 z2 (by omega) (by omega)]
          refine brP_dec (fun q2 => ?_) (fun q2 => ?_)
          · simp [T _ h _ (by omega) (by omega)]
            have d1 := Int.emod_nonneg (z2 / 4) (show h ≠ 0 by omega)
            have d2 := Int.emod_lt_of_pos (z2 / 4) (show (0 : Int) < h by omega)
            exact ⟨[z2 / 4 % h], _, by simp, ⟨by simp, by simp; omega, by simp⟩, rfl, rfl⟩
          · simp
            exact ⟨l, _, by omega, H, rfl, rfl⟩
        · simp [q]
          exact ⟨l, _, by omega, H, rfl, rfl⟩
      · rintro ρ S' ⟨l, z, h1, h2, rfl, rfl⟩
        simp
        refine ⟨lt_big' (by omega), ll ++ [l], by simp [g1], fun l' hl' => ?_, z, rfl⟩
        rcases List.mem_append.mp hl' with hl' | hl'
        · exact g2 l' hl'
        · rw [List.mem_singleton.mp hl']; exact ⟨h1, h2⟩
    · rintro ρ S' ⟨ll, z, o5, o6, g1, g2, rfl, rfl⟩
      simp at g1
      simp
      exact ⟨sx_kept hb, ll, ⟨by omega, fun l hl => (g2 l hl).2⟩, fun l hl => (g2 l hl).1, rfl, z, by have := sx_take (S := S) (T := [OL ll]) (b := b) (x := x) (y := z); simpa using this⟩
  obtain ⟨d, S', e, ll, y, h1, h2, rfl, rfl⟩ := OP_ex key
  exact ⟨ll, y, h1, h2, e⟩
end Pf
end

section 
set_option Elab.async false
set_option linter.all false
set_option maxRecDepth 100000
set_option maxHeartbeats 1000000
/-! PwJ: choices: fits, many_of, first_of. -/
namespace Pf
open Enc (enc dep)
variable {P : Nat → Def} [Base P]
theorem mem_near {n : Int} {ts : List (Int × Int)} (hw : Web n ts) {p o : Int} (h : o ∈ near ts p) : 0 ≤ o ∧ o < n := by
  simp only [near, List.mem_map, List.mem_filter, decide_eq_true_eq] at h
  obtain ⟨t, ⟨h1, h2⟩, rfl⟩ := h
  have := hw.tie t h1
  rcases h2 with rfl | rfl <;> omega
def fitB (ts : List (Int × Int)) (b : List Int) (h : Int) : Bool := ((sortI (near ts b.length)).filter fun (o : Int) => decide (o < b.length)).all fun o => !decide (gat b o = h)
def extC (ts : List (Int × Int)) (ll : List (List Int)) (b : List Int) : List Int := (gat ll b.length).filter (fitB ts b)
theorem spec_fits (k : Nat) (n : Int) (ts : List (Int × Int)) (b : List Int) (h : Int) (S : Sto) (hw : Web n ts) : run P (k + 2) F_fits [webD n ts, tu b, .int h] S = .ok (.bl (fitB ts b h)) S := by
  refine run_ok b_fits rfl rfl ?_
  simp
  refine Wf (sortI (near ts b.length)) enc (fun o => decide (o < b.length)) (fun o => !decide (gat b o = h)) ?_ ?_ ?_
  · simp [spec_tied_to]
  · intro o ho
    have := mem_near hw (mem_sortI.mp ho)
    simp
    intro q
    exact inR_pos (by omega) q
  · simp [fitB, List.all_map]
theorem extC_mem {ts : List (Int × Int)} {ll : List (List Int)} {b : List Int} {a : Int} (h : a ∈ extC ts ll b) : ∃ l ∈ ll, a ∈ l := by
  have h := (List.mem_filter.mp h).1
  by_cases q : inR ll.length (b.length : Int)
  · exact ⟨_, gat_mem _ _ q, h⟩
  · rw [gat_bad q] at h; cases h
theorem extC_len {ts : List (Int × Int)} {ll : List (List Int)} (h8 : ∀ l ∈ ll, l.length ≤ 8) (b : List Int) : (extC ts ll b).length ≤ 8 := by
  refine Nat.le_trans (List.length_filter_le _ _) ?_
  by_cases q : inR ll.length (b.length : Int)
  · exact h8 _ (gat_mem _ _ q)
  · rw [gat_bad q]; exact Nat.zero_le _
theorem spec_many_of (n : Nat) (ts : List (Int × Int)) (ll : List (List Int)) (S : Sto) (hw : Web n ts) (hl : ll.length = n) : ∀ (m K : Nat) (b : List Int), b.length + m = n → m + 3 ≤ K → run P K F_many_of [webD n ts, tu ll, tu b] S = .ok (.int (paths (extC ts ll) m b).length) S
  | 0, 0, b, hb, hK => by omega
  | m + 1, 0, b, hb, hK => by omega
  | 0, K + 1, b, hb, hK => by
    refine run_ok b_many_of rfl rfl ?_
    have e : (b.length : Int) = n := by omega
    simp [e, paths]
  | m + 1, K + 1, b, hb, hK => by
    refine run_ok b_many_of rfl rfl ?_
    have e : ¬ (b.length : Int) = n := by omega
    have r : inR ll.length (b.length : Int) := inR_nat (by omega)
    have hf := hw.hi
    simp [e]
    refine Wf (gat ll b.length) enc (fitB ts b) (fun a => ((paths (extC ts ll) m (b ++ [a])).length : Int)) ?_ ?_ ?_
    · simp [r]
    · intro a ha
      have := spec_many_of n ts ll S hw hl m K (b ++ [a]) (by simp; omega) (by omega)
      simp [atL (P := P) (fun k => spec_fits k n ts b a S hw) (show 2 ≤ K by omega), this, le_big (show b.length + 1 ≤ 100000 by omega)]
    · simp [paths_sum, extC]
theorem head_none {ext : List Int → List Int} {m : Nat} {b : List Int} (h : ((ext b).filter fun a => decide (0 < (paths ext m (b ++ [a])).length)) = []) : paths ext (m + 1) b = [] := by
  simp only [paths]
  rw [List.filter_eq_nil_iff] at h
  rw [List.flatMap_eq_nil_iff]
  intro a ha
  have := h a ha
  simp at this
  simpa using this
theorem head_some {ext : List Int → List Int} {m : Nat} {b : List Int} {h0 : Int} {r : List Int} (h : ((ext b).filter fun a => decide (0 < (paths ext m (b ++ [a])).length)) = h0 :: r) : (paths ext (m + 1) b).head? = (paths ext m (b ++ [h0])).head? ∧ paths ext m (b ++ [h0]) ≠ [] := by
  simp only [paths]
  revert h
  generalize ext b = l
  intro h
  induction l with
  | nil => cases h
  | cons a l ih =>
    rw [List.filter_cons] at h
    split at h
    · rename_i q
      cases h
      simp at q
      have ne : paths ext m (b ++ [h0]) ≠ [] := fun e => by rw [e] at q; simp at q
      refine ⟨?_, ne⟩
      rw [List.flatMap_cons]
      cases z : paths ext m (b ++ [h0]) with
      | nil => exact absurd z ne
      | cons c cs => rfl
    · rename_i q
      simp at q
      have e : paths ext m (b ++ [a]) = [] := by simpa using q
      rw [List.flatMap_cons, e, List.nil_append]
      exact ih h
theorem spec_first_of (n : Nat) (ts : List (Int × Int)) (ll : List (List Int)) (S : Sto) (hw : Web n ts) (hl : ll.length = n) (K : Nat) (hK : n + 4 ≤ K) : run P K F_first_of [webD n ts, tu ll] S = .ok (optD (paths (extC ts ll) n []).head?) S := by
  obtain ⟨K, rfl⟩ : ∃ K', K = K' + 1 := ⟨K - 1, by omega⟩
  refine run_ok b_first_of rfl (by unfold optD; split <;> simp) ?_
  simp
  have h6 := hw.hi
  refine XS_wh (fun m ρ S' => S' = S ∧ ∃ (b : List Int) (o3 : Option D), b.length + m = n ∧ (paths (extC ts ll) n []).head? = (paths (extC ts ll) m b).head? ∧ ρ = [some (webD n ts), some (tu ll), some (tu b), o3, none]) n ⟨rfl, [], none, by simp, rfl, rfl⟩ ?_
  rintro m ρ S' ⟨rfl, b, o3, hb, hh, rfl⟩
  cases m with
  | zero =>
    have e : ¬ b.length < n := by omega
    simp [e]
    rw [hh]
    simp [paths, optD]
  | succ m =>
    have e : b.length < n := by omega
    simp [e]
    refine Wf (gat ll b.length) enc (fitB ts b) id ?_ ?_ ?_
    · simp [inR_nat (show b.length < ll.length by omega)]
    · intro a ha
      simp [atL (P := P) (fun k => spec_fits k n ts b a S' hw) (show 2 ≤ K by omega)]
    · simp
      refine Wf (extC ts ll b) enc (fun a => decide (0 < (paths (extC ts ll) m (b ++ [a])).length)) id ?_ ?_ ?_
      · simp [extC]
      · intro a ha
        have := spec_many_of (P := P) n ts ll S' hw hl m K (b ++ [a]) (by simp; omega) (by omega)
        simp [this, le_big (show b.length + 1 ≤ 100000 by omega)]
      · cases q : (extC ts ll b).filter fun a => decide (0 < (paths (extC ts ll) m (b ++ [a])).length) with
        | nil =>
          have := head_none q
          simp
          rw [hh, this]
          simp [optD]
        | cons h0 r =>
          obtain ⟨q1, q2⟩ := head_some q
          simp [show inR (r.length + 1) 0 from ⟨by omega, by omega⟩, le_big (show b.length + 1 ≤ 100000 by omega)]
          refine ⟨m, by omega, b ++ [h0], by simp; omega, by rw [hh, q1], rfl⟩
end Pf
end

section 
set_option Elab.async false
set_option linter.all false
set_option maxRecDepth 100000
set_option maxHeartbeats 1000000
/-! PwK: orders: peeled; sizes. -/
namespace Pf
open Enc (enc dep)
variable {P : Nat → Def} [Base P]
/-! ### lists of the store -/
section
variable (S T : Sto) (n : Nat) (o o1 o2 q : O)
@[simp high] theorem st1_at : (S ++ o :: (T ++ [q]))[S.length + (T.length + 1)]? = some q := by
  rw [List.getElem?_append_right (by omega), show S.length + (T.length + 1) - S.length = T.length + 1 by omega, List.getElem?_cons_succ, List.getElem?_append_right (by omega)]
  simp
@[simp high] theorem st2_at : (S ++ o :: o1 :: (T ++ [q]))[S.length + (T.length + 1 + 1)]? = some q := by
  rw [List.getElem?_append_right (by omega), show S.length + (T.length + 1 + 1) - S.length = T.length + 1 + 1 by omega, List.getElem?_cons_succ, List.getElem?_cons_succ, List.getElem?_append_right (by omega)]
  simp
@[simp high] theorem st2_set (q' : O) : (S ++ o :: o1 :: (T ++ [q])).set (S.length + (T.length + 1 + 1)) q' = S ++ o :: o1 :: (T ++ [q']) := by
  rw [List.set_append_right _ _ (by omega), show S.length + (T.length + 1 + 1) - S.length = T.length + 1 + 1 by omega, List.set_cons_succ, List.set_cons_succ, List.set_append_right _ _ (by omega)]
  simp
def insO (y : D) : Option O → Option O
  | some (.lst xs) => if xs.length < big then some (.lst (y :: xs)) else none
  | _ => none
@[simp] theorem insO_I (l : List Int) (a : Int) : insO (.int a) (some (OL l)) = if l.length < big then some (OL (a :: l)) else none := by simp [insO, OL]
@[simp] theorem r_insert (y : D) : mtOp S .insert (.ref n) [.int 0, y] = (insO y S[n]?).map fun o => (D.non, S.set n o) := by
  simp only [mtOp]
  cases S[n]? with
  | none => rfl
  | some o => cases o with
    | lst xs => simp only [insO]; split <;> rfl
    | dic t ks vs => rfl
    | ins c fs => rfl
def remO (k : Int) : Option O → Option O
  | some (.lst xs) => (allOf intOf xs).bind fun ns => if k ∈ ns then some (.lst ((ns.erase k).map .int)) else none
  | _ => none
@[simp] theorem remO_I (l : List Int) (k : Int) : remO k (some (OL l)) = if k ∈ l then some (OL (l.erase k)) else none := by
  simp only [remO, OL]
  rw [show l.map enc = l.map D.int from rfl, allOf_int]
  rfl
@[simp] theorem r_remove (k : Int) : mtOp S .remove (.ref n) [.int k] = (remO k S[n]?).map fun o => (D.non, S.set n o) := by
  simp only [mtOp]
  cases S[n]? with
  | none => rfl
  | some o => cases o with
    | lst xs =>
      simp only [remO]
      cases allOf intOf xs with
      | none => rfl
      | some ns => simp only [Option.bind_some]; split <;> rfl
    | dic t ks vs => rfl
    | ins c fs => rfl
@[simp] theorem o_min1 (l : List Int) : biOp S .min1 [ls l] = (minI l).map D.int := by
  simp only [biOp, ls, lstOf, Pf.res, Option.bind_some, minOp]
  rw [show l.map enc = l.map D.int from rfl, allOf_int]
  rfl
@[simp] theorem o_revL {α : Type} [Enc α] (l : List α) : revOp S (ls l) = some (ls l.reverse) := by simp [revOp, ls, Pf.res]
@[simp] theorem o_listRange (m : Nat) (h : m < 1000) : biOp S .listRange [.int m] = some (ls (List.range m)) := by
  show (if -1000000 < (m : Int) ∧ (m : Int) < big then some (D.lst (rangeI 0 m)) else none) = _
  rw [if_pos ⟨by omega, lt_big (by omega)⟩, rangeI_nat]
  rfl
@[simp] theorem o_mulT (a : Int) (m : Nat) (h : m ≤ 1000) : binOp S .mul (.tup [.int a]) (.int m) = some (tu (List.replicate m a)) := by
  show (if -1000 ≤ (m : Int) ∧ (m : Int) ≤ 1000 ∧ [D.int a].length ≤ 1000 then some (D.tup (List.replicate (m : Int).toNat [D.int a]).flatten) else none) = _
  rw [if_pos ⟨by omega, by omega, by simp⟩]
  simp [tu]
end
theorem rangeOL (m : Nat) : OL (List.range m) = OL ((List.range m).map fun (j : Nat) => (j : Int)) := by
  simp [OL]
theorem ls_range (m : Nat) : ls (List.range m) = ls ((List.range m).map fun (j : Nat) => (j : Int)) := by
  simp [ls]
/-! ### sizes -/
structure Sizes (n : Nat) (sz : List Int) : Prop where
  len : sz.length = n
  ok : ∀ s ∈ sz, 0 ≤ s ∧ s ≤ 8
theorem spec_are_sizes (k : Nat) (n : Nat) (ts : List (Int × Int)) (sz : List Int) (S : Sto) (h : Web n ts) (hl : Sizes n sz) : run P (k + 5) F_are_sizes [tu sz, webD n ts] S = .ok (.bl true) S := by
  refine run_ok b_are_sizes rfl rfl ?_
  simp [spec_need_web (P := P) k n ts S h, hl.len]
  refine Wm sz enc (fun _ => true) ?_ ?_ ?_
  · simp
  · intro a ha
    have := hl.ok a ha
    simp [spec_upto, this]
  · simp
theorem spec_need_sizes (k : Nat) (n : Nat) (ts : List (Int × Int)) (sz : List Int) (S : Sto) (h : Web n ts) (hl : Sizes n sz) : run P (k + 6) F_need_sizes [webD n ts, tu sz] S = .ok .non S := by
  refine run_ok b_need_sizes rfl rfl ?_
  simp [spec_are_sizes (P := P) k n ts sz S h hl]
/-! ### what goes from behind -/
def mayGo (ts : List (Int × Int)) (sz left : List Int) (p : Int) : Bool := decide ((((sortI (near ts p)).filter fun o => decide (o ∈ left)).length : Int) < gat sz p)
def cand (ts : List (Int × Int)) (sz left : List Int) : List Int := left.filter (mayGo ts sz left)
def peel (ts : List (Int × Int)) (sz : List Int) : Nat → List Int → List Int → List Int × List Int
  | 0, gone, left => (gone, left)
  | m + 1, gone, left => match cand ts sz left with
    | [] => (gone, left)
    | c :: _ => peel ts sz m (c :: gone) (left.erase c)
def pl (n : Nat) : List Int := (List.range n).map fun (j : Nat) => (j : Int)
def peelAll (ts : List (Int × Int)) (sz : List Int) (n : Nat) : List Int × List Int := peel ts sz n [] (pl n)
theorem cand_mem {ts : List (Int × Int)} {sz left : List Int} {c : Int} {r : List Int} (h : cand ts sz left = c :: r) : c ∈ left := by
  have : c ∈ cand ts sz left := by rw [h]; simp
  exact (List.mem_filter.mp this).1
theorem erase_len {l : List Int} {c : Int} (h : c ∈ l) : (l.erase c).length + 1 = l.length := by
  have := List.length_erase_of_mem h
  have := List.length_pos_of_mem h
  omega
theorem pl_mem {n : Nat} {x : Int} (h : x ∈ pl n) : 0 ≤ x ∧ x < n := by
  simp only [pl, List.mem_map, List.mem_range] at h
  obtain ⟨j, hj, rfl⟩ := h
  omega
theorem spec_peeled (n : Nat) (ts : List (Int × Int)) (sz : List Int) (S : Sto) (k : Nat) (hw : Web n ts) (hs : sz.length = n) : run P (k + 2) F_peeled [webD n ts, tu sz] S = .ok (.tup [tu (peelAll ts sz n).1, tu (peelAll ts sz n).2]) S := by
  have h6 := hw.hi
  refine run_ok b_peeled rfl (by simp [D.pure, D.pureL]) ?_
  simp [show n < 1000 by omega, rangeOL]
  refine XS_wh (fun m ρ S' => ∃ (gone left : List Int) (T : Sto) (more : Bool) (o5 o6 : Option D), m = left.length + (if more then 1 else 0) ∧ left.length + gone.length ≤ n ∧ (∀ x ∈ left, 0 ≤ x ∧ x < (n : Int)) ∧ (more = false → cand ts sz left = []) ∧ peel ts sz left.length gone left = peelAll ts sz n ∧
    ρ = [some (webD n ts), some (tu sz), some (.ref S.length), some (.ref (S.length + 1)), some (.bl more), o5, o6, none] ∧ S' = S ++ OL left :: OL gone :: T) (n + 1) ⟨[], pl n, [], true, none, none, by simp [pl], by simp [pl], fun x hx => pl_mem hx, by simp, by simp [peelAll, pl], rfl, by simp [pl]; rfl⟩ ?_
  rintro m ρ S' ⟨gone, left, T, more, o5, o6, rfl, hl, hb, hc, hp, rfl, rfl⟩
  cases more with
  | false =>
    have e : peel ts sz left.length gone left = (gone, left) := by
      cases left with
      | nil => rfl
      | cons a l => simp only [List.length_cons, peel, hc rfl]
    rw [e] at hp
    rw [← hp]
    simp
  | true =>
    simp
    refine XS_forW left enc (fun pre ρ S' => ∃ o6 : Option D, ρ = [some (webD n ts), some (tu sz), some (.ref S.length), some (.ref (S.length + 1)), some (.bl true), some (.ref (S.length + (T.length + 1 + 1))), o6, none] ∧ S' = S ++ OL left :: OL gone :: (T ++ [OL (pre.filter (mayGo ts sz left))])) ⟨left.map enc, some (S.length, OL left)⟩ rfl ?_ ?_ ?_ ?_
    · rintro pre ρ S' ⟨o6, rfl, rfl⟩
      show (S ++ OL left :: OL gone :: _)[S.length]? = _
      simp
    · simp
      rfl
    · rintro pre a post ρ S' e ⟨o6, rfl, rfl⟩
      have ha := hb a (by rw [e]; simp)
      have hpl : pre.length ≤ n := by have := congrArg List.length e; simp at this; omega
      simp [inR_pos (n := sz.length) ha.1 (by omega)]
      refine Wf (sortI (near ts a)) enc (fun o => decide (o ∈ left)) id ?_ ?_ ?_
      · simp [spec_tied_to]
      · intro o ho
        simp
      · simp
        refine brP_dec (fun q => ?_) (fun q => ?_)
        · have : mayGo ts sz left a = true := by simp [mayGo, q]
          have hl2 : (pre.filter (mayGo ts sz left)).length < big := lt_big' (Nat.lt_of_le_of_lt (List.length_filter_le _ _) (by omega))
          simp [hl2, this]
        · have : mayGo ts sz left a = false := by simp [mayGo]; omega
          simp [this]
    · rintro ρ S' ⟨o6, rfl, rfl⟩
      change XS _ _ _ (S ++ OL left :: OL gone :: (T ++ [OL (cand ts sz left)])) _ _
      cases q : cand ts sz left with
      | nil =>
        simp
        exact ⟨left.length, by omega, gone, left, rfl, hl, hb, q, hp, rfl, rfl⟩
      | cons c r =>
        have hm := cand_mem q
        have hle := erase_len hm
        simp [show inR (r.length + 1) 0 from ⟨by omega, by omega⟩, lt_big' (show gone.length < 100000 by omega), hm]
        refine ⟨(left.erase c).length + 1, by omega, c :: gone, left.erase c, rfl, by simp; omega, fun x hx => hb x (List.mem_of_mem_erase hx), ?_, rfl, rfl⟩
        rw [← hp, ← hle]
        simp only [peel, q]
/-! ### near places are unlike -/
theorem near_nodup {n : Int} {ts : List (Int × Int)} (hw : Web n ts) (p : Int) : (near ts p).Nodup := by
  unfold near
  have h := hw.up
  have ht := hw.tie
  clear hw
  induction ts with
  | nil => simp
  | cons a l ih =>
    rw [List.pairwise_cons] at h
    have ih := ih h.2 (fun q hq => ht q (by simp [hq]))
    have ha := ht a (by simp)
    rw [List.filter_cons]
    split
    · rename_i hq
      simp only [decide_eq_true_eq] at hq
      rw [List.map_cons, List.nodup_cons]
      refine ⟨fun hm => ?_, ih⟩
      obtain ⟨b, hb, e⟩ := List.mem_map.mp hm
      obtain ⟨hb1, hb2⟩ := List.mem_filter.mp hb
      simp only [decide_eq_true_eq] at hb2
      have h1 := h.1 b hb1
      have h2 := ht b (by simp [hb1])
      omega
    · exact ih
theorem near_self {n : Int} {ts : List (Int × Int)} (hw : Web n ts) (p : Int) : p ∉ near ts p := by
  intro h
  simp only [near, List.mem_map, List.mem_filter, decide_eq_true_eq] at h
  obtain ⟨t, ⟨h1, h2⟩, e⟩ := h
  have := hw.tie t h1
  omega
theorem nodup_len : ∀ (l m : List Int), l.Nodup → (∀ x ∈ l, x ∈ m) → l.length ≤ m.length
  | [], m, _, _ => Nat.zero_le _
  | a :: l, m, nd, h => by
    rw [List.nodup_cons] at nd
    have ha := h a (by simp)
    have h2 := nodup_len l (m.erase a) nd.2 fun x hx => (List.mem_erase_of_ne (show x ≠ a from fun e => nd.1 (by rw [← e]; exact hx))).mpr (h x (by simp [hx]))
    have := erase_len ha
    simp only [List.length_cons]
    omega
theorem near_few {n : Nat} {ts : List (Int × Int)} (hw : Web n ts) {p : Int} (hp : 0 ≤ p ∧ p < n) : (near ts p).length + 1 ≤ n := by
  have nd : (p :: near ts p).Nodup := List.nodup_cons.mpr ⟨near_self hw p, near_nodup hw p⟩
  have sub : ∀ x ∈ p :: near ts p, x ∈ pl n := by
    intro x hx
    have : 0 ≤ x ∧ x < (n : Int) := by
      rcases List.mem_cons.mp hx with rfl | hx
      · exact hp
      · exact mem_near hw hx
    simp only [pl, List.mem_map, List.mem_range]
    exact ⟨x.toNat, by omega, by omega⟩
  have := nodup_len _ _ nd sub
  simpa [pl] using this
/-- with sizes as great as there are places all go -/
theorem peel_all {n : Nat} {ts : List (Int × Int)} (hw : Web n ts) {s : Int} (hs : n ≤ s) : ∀ (m : Nat) (gone left : List Int), left.length ≤ m → (∀ x ∈ left, 0 ≤ x ∧ x < (n : Int)) → (peel ts (List.replicate n s) m gone left).2 = []
  | 0, gone, left, hm, hb => by
    have : left = [] := List.eq_nil_of_length_eq_zero (by omega)
    simp [peel, this]
  | m + 1, gone, left, hm, hb => by
    have e : cand ts (List.replicate n s) left = left := by
      unfold cand
      rw [List.filter_eq_self]
      intro a ha
      have h1 := hb a ha
      have h2 := near_few hw h1
      have h3 : ((sortI (near ts a)).filter fun o => decide (o ∈ left)).length ≤ (near ts a).length := Nat.le_trans (List.length_filter_le _ _) (by rw [(sortI_perm _).length_eq]; exact Nat.le_refl _)
      have h4 : gat (List.replicate n s) a = s := by
        rw [gat_pos _ _ h1.1]
        simp [List.getElem?_replicate, show a.toNat < n by omega]
      simp only [mayGo, h4, decide_eq_true_eq]
      omega
    cases left with
    | nil => simp [peel, e]
    | cons c r =>
      simp only [peel, e]
      refine peel_all hw hs m _ _ ?_ fun x hx => hb x (List.mem_of_mem_erase hx)
      have := erase_len (l := c :: r) (c := c) (by simp)
      simp at this hm ⊢
      omega
theorem spec_narrowness (k : Nat) (n : Nat) (ts : List (Int × Int)) (S : Sto) (hw : Web n ts) : ∃ s : Nat, 1 ≤ s ∧ s ≤ 6 ∧ (peelAll ts (List.replicate n (s : Int)) n).2 = [] ∧ (∀ s' : Nat, 1 ≤ s' → s' < s → (peelAll ts (List.replicate n (s' : Int)) n).2 ≠ []) ∧ run P (k + 5) F_narrowness [webD n ts] S = .ok (.int s) S := by
  have h6 := hw.hi
  have key : OP (run P (k + 5) F_narrowness [webD n ts] S) (fun d S' => ∃ s : Nat, 1 ≤ s ∧ s ≤ 6 ∧ (peelAll ts (List.replicate n (s : Int)) n).2 = [] ∧ (∀ s' : Nat, 1 ≤ s' → s' < s → (peelAll ts (List.replicate n (s' : Int)) n).2 ≠ []) ∧ d = .int s ∧ S' = S) noX ⟨⟩ := by
    refine run_op b_narrowness rfl ?_
    simp [spec_need_web (P := P) k n ts S hw]
    refine XS_wh (fun m ρ S' => S' = S ∧ ∃ s : Nat, 1 ≤ s ∧ s + m = 7 ∧ (∀ s' : Nat, 1 ≤ s' → s' < s → (peelAll ts (List.replicate n (s' : Int)) n).2 ≠ []) ∧ ρ = [some (webD n ts), some (.int s)]) 6 ⟨rfl, 1, by omega, by omega, fun s' h1 h2 => by omega, rfl⟩ ?_
    rintro m ρ S' ⟨rfl, s, h1, h2, h3, rfl⟩
    have e := spec_peeled (P := P) n ts (List.replicate n (s : Int)) S' (k + 2) hw (by simp)
    simp [show n ≤ 1000 by omega, e]
    refine brP_of (fun q => ?_) (fun q => ?_)
    · simp at q
      have hs : s < 6 := by
        rcases Nat.lt_or_ge s 6 with z | z
        · exact z
        · exact absurd (peel_all hw (s := s) (by omega) n [] (pl n) (by simp [pl]) fun x hx => pl_mem hx) q
      simp
      refine ⟨m - 1, by omega, s + 1, by omega, by omega, fun s' a1 a2 => ?_, by simp⟩
      rcases Nat.lt_or_ge s' s with z | z
      · exact h3 s' a1 z
      · rw [show s' = s by omega]; exact q
    · simp at q
      simp [Kept.refl]
      exact ⟨s, h1, by
        rcases Nat.lt_or_ge s 7 with z | z
        · omega
        · have := h3 6 (by omega) (by omega)
          exact absurd (peel_all hw (s := 6) (by omega) n [] (pl n) (by simp [pl]) fun x hx => pl_mem hx) this, q, h3, rfl⟩
  obtain ⟨d, S', e, s, h1, h2, h3, h4, rfl, rfl⟩ := OP_ex key
  exact ⟨s, h1, h2, h3, h4, e⟩
theorem spec_order_for (k : Nat) (n : Nat) (ts : List (Int × Int)) (sz : List Int) (S : Sto) (hw : Web n ts) (hs : Sizes n sz) : run P (k + 7) F_order_for [webD n ts, tu sz] S = .ok (optD (if (peelAll ts sz n).2 = [] then some (peelAll ts sz n).1 else none)) S := by
  refine run_ok b_order_for rfl (by unfold optD; split <;> simp) ?_
  have e1 := spec_need_sizes (P := P) k n ts sz S hw hs
  have e2 := spec_peeled (P := P) n ts sz S (k + 4) hw hs.len
  simp only [XS_expr]
  simp [e1]
  rw [XS_asgT]
  simp [e2]
  refine brP_of (fun q => ?_) (fun q => ?_) <;> simp at q <;> simp [q, optD]
theorem spec_core (k : Nat) (n : Nat) (ts : List (Int × Int)) (sz : List Int) (S : Sto) (hw : Web n ts) (hs : Sizes n sz) : run P (k + 7) F_core [webD n ts, tu sz] S = .ok (tu (peelAll ts sz n).2) S := by
  refine run_ok b_core rfl (by simp) ?_
  have e1 := spec_need_sizes (P := P) k n ts sz S hw hs
  have e2 := spec_peeled (P := P) n ts sz S (k + 4) hw hs.len
  simp [e1, e2]
theorem spec_drawn_sizes (k : Nat) {S : Sto} {b n : Nat} {ts : List (Int × Int)} (x : Int) {m : Int} (hb : b < S.length) (hw : Web n ts) (hm : 1 ≤ m ∧ m ≤ 7) :
    ∃ (sz : List Int) (y : Int), Sizes n sz ∧ run P (k + 2) F__law_drawn_sizes [.ref b, webD n ts, .int m] (sx S b x []) = .ok (tu sz) (sx S b y []) := by
  have h6 := hw.hi
  have key : OP (run P (k + 2) F__law_drawn_sizes [.ref b, webD n ts, .int m] (sx S b x [])) (fun d S' => ∃ (sz : List Int) (y : Int), Sizes n sz ∧ d = tu sz ∧ S' = sx S b y []) noX ⟨⟩ := by
    refine run_op b__law_drawn_sizes rfl ?_
    have T : ∀ (U : Sto) (j z : Int), 0 < j → j < 1001 → run P (k + 1) F__law_take [.ref b, .int j] (sx S b z U) = .ok (.int (z % j)) (sx S b (z / j) U) := fun U j z h1 h2 => spec_take k hb ⟨h1, by omega⟩
    simp [T [] 4 _ (by omega) (by omega)]
    refine brP_dec (fun q => ?_) (fun q => ?_)
    · simp [T [] m _ (by omega) (by omega), show n ≤ 1000 by omega]
      have c1 := Int.emod_nonneg (x / 4) (show m ≠ 0 by omega)
      have c2 := Int.emod_lt_of_pos (x / 4) (show (0 : Int) < m by omega)
      refine ⟨sx_kept hb, _, ⟨by simp, fun s hs => ?_⟩, rfl, _, by have := sx_take (S := S) (T := []) (b := b) (x := x) (y := x / 4 / m); simpa using this⟩
      rw [List.eq_of_mem_replicate hs]
      omega
    · simp
      have q1 := Int.emod_nonneg x (show (4 : Int) ≠ 0 by omega)
      have q2 := Int.emod_lt_of_pos x (show (0 : Int) < 4 by omega)
      obtain ⟨wy, hwy⟩ : ∃ wy : Int, x % 4 = wy := ⟨_, rfl⟩
      simp [hwy]
      refine XS_for (List.range n) enc (fun pre ρ S' => ∃ (sz : List Int) (z : Int) (o5 o6 : Option D), sz.length = pre.length ∧ (∀ s ∈ sz, 0 ≤ s ∧ s ≤ 8) ∧ ρ = [some (.ref b), some (webD n ts), some (.int m), some (.int wy), some (.ref S.length), o5, o6] ∧ S' = sx S b z [OL sz]) ?_ ?_ ?_
      · simp [show n < 1000 by omega]
        exact ⟨_, rfl⟩
      · rintro pre a post ρ S' e ⟨sz, z, o5, o6, g1, g2, rfl, rfl⟩
        have hp : pre.length < 1000 := by
          have := congrArg List.length e
          simp at this
          omega
        simp [spec_law_tied (P := P) k n a ts _ hw, T _ (m + 1) _ (by omega) (by omega), T _ 3 _ (by omega) (by omega)]
        generalize hL : ((sortI (near ts (a : Int))).length : Int) = L
        have hL0 : 0 ≤ L := by omega
        refine optP_at (by simp only [List.length_cons, List.length_nil]; exact ⟨by omega, by omega⟩) ?_
        intro d hd
        obtain ⟨v, hv, rfl⟩ : ∃ v : Int, 0 ≤ v ∧ d = .int v := by
          have d1 := Int.emod_nonneg z (show m + 1 ≠ 0 by omega)
          simp only [List.mem_cons, List.not_mem_nil, or_false] at hd
          rcases hd with rfl | rfl | rfl
          · exact ⟨_, d1, rfl⟩
          · exact ⟨_, hL0, rfl⟩
          · exact ⟨_, by split <;> omega, rfl⟩
        simp
        refine ⟨lt_big' (by omega), sz ++ [if v < 8 then v else 8], by simp [g1], fun s hs => ?_, _, rfl⟩
        rcases List.mem_append.mp hs with hs | hs
        · exact g2 s hs
        · rw [List.mem_singleton.mp hs]; split <;> omega
      · rintro ρ S' ⟨sz, z, o5, o6, g1, g2, rfl, rfl⟩
        simp at g1
        simp
        exact ⟨sx_kept hb, sz, ⟨g1, g2⟩, rfl, z, by have := sx_take (S := S) (T := [OL sz]) (b := b) (x := x) (y := z); simpa using this⟩
  obtain ⟨d, S', e, sz, y, h1, rfl, rfl⟩ := OP_ex key
  exact ⟨sz, y, h1, e⟩
end Pf
end

section 
set_option Elab.async false
set_option linter.all false
set_option maxRecDepth 100000
set_option maxHeartbeats 1000000
/-! PwL: dicts of whole numbers; papers of none. -/
namespace Pf
open Enc (enc dep)
variable {P : Nat → Def} [Base P]
/-! ### dicts -/
abbrev keys (fx : List (Int × Int)) : List Int := fx.map Prod.fst
def lkp (fx : List (Int × Int)) (k : Int) : Option Int := (fx.find? fun p => decide (p.1 = k)).map Prod.snd
def dI (fx : List (Int × Int)) : D := .dic false (fx.map fun p => .int p.1) (fx.map fun p => .int p.2)
def OD (fx : List (Int × Int)) : O := .dic false (fx.map fun p => .int p.1) (fx.map fun p => .int p.2)
theorem keyAt_dI (fx : List (Int × Int)) (k : Int) : keyAt (fx.map fun p => D.int p.1) (fx.map fun p => D.int p.2) (.int k) = (lkp fx k).map D.int := by
  unfold keyAt lkp
  induction fx with
  | nil => rfl
  | cons a l ih =>
    simp only [List.map_cons, List.zip_cons_cons, List.find?_cons, D.int.injEq]
    by_cases h : a.1 = k
    · simp [h]
    · simp only [h, decide_false]
      exact ih
theorem lkp_some {fx : List (Int × Int)} {k : Int} (h : k ∈ keys fx) : ∃ v, lkp fx k = some v ∧ (k, v) ∈ fx := by
  unfold lkp
  induction fx with
  | nil => cases h
  | cons a l ih =>
    simp only [List.find?_cons]
    by_cases q : a.1 = k
    · simp only [q, decide_true, Option.map_some]
      exact ⟨a.2, rfl, by rw [← q]; simp⟩
    · simp only [q, decide_false]
      have : k ∈ keys l := by
        simp only [keys, List.map_cons, List.mem_cons] at h
        rcases h with h | h
        · exact absurd h.symm q
        · exact h
      obtain ⟨v, h1, h2⟩ := ih this
      exact ⟨v, h1, by simp [h2]⟩
theorem lkp_none {fx : List (Int × Int)} {k : Int} (h : k ∉ keys fx) : lkp fx k = none := by
  unfold lkp
  have : (fx.find? fun p => decide (p.1 = k)) = none := by
    rw [List.find?_eq_none]
    intro p hp
    simp only [decide_eq_true_eq]
    exact fun e => h (by rw [← e]; exact List.mem_map_of_mem hp)
  rw [this]; rfl
def lkv (fx : List (Int × Int)) (k : Int) : Int := (lkp fx k).getD 0
theorem lkp_v {fx : List (Int × Int)} {k : Int} (h : k ∈ keys fx) : lkp fx k = some (lkv fx k) := by
  obtain ⟨v, e, _⟩ := lkp_some h
  simp [lkv, e]
@[simp] theorem pure_dI (fx : List (Int × Int)) : (dI fx).pure = true := by
  have h : ∀ (l : List (Int × Int)) (g : Int × Int → Int), D.pureL (l.map fun p => D.int (g p)) = true := by
    intro l g
    induction l with
    | nil => rfl
    | cons a l ih => simp [D.pureL, D.pure, ih]
  simp [dI, D.pure, h]
section
variable {S : Sto} {fd : D} {fx : List (Int × Int)} (h : res S fd = dI fx) (k : Int)
include h
theorem d_in : cmpOp S .isin (.int k) fd = some (decide (k ∈ keys fx)) := by
  simp only [cmpOp, inOp, h, dI]
  simp only [D.key, D.key0, if_true, keyAt_dI]
  by_cases q : k ∈ keys fx
  · obtain ⟨v, e, _⟩ := lkp_some q
    simp only [e, q, decide_true]; rfl
  · simp only [lkp_none q, q, decide_false]; rfl
theorem d_nin : cmpOp S .notin (.int k) fd = some (!decide (k ∈ keys fx)) := by
  have := d_in h k
  simp only [cmpOp] at this ⊢
  rw [this]; rfl
theorem d_idx (hk : k ∈ keys fx) : idxOp S fd (.int k) = some (.int (lkv fx k)) := by
  simp only [idxOp, h, dI]
  simp only [D.key, D.key0, if_true, keyAt_dI, lkp_v hk]
  rfl
theorem d_copy : biOp S .dict [fd] = some (dI fx) := by
  simp only [biOp, h, dI]
end
@[simp] theorem mut_dI (fx : List (Int × Int)) : mutP (dI fx) = some (OD fx) := rfl
@[simp] theorem resR_OD (n : Nat) (fx : List (Int × Int)) : resR n (some (OD fx)) = dI fx := rfl
theorem put_dI (fx : List (Int × Int)) (x s : Int) (h : x ∉ keys fx) : keyPut (fx.map fun p => D.int p.1) (fx.map fun p => D.int p.2) (.int x) (.int s) = ((fx ++ [(x, s)]).map (fun p => D.int p.1), (fx ++ [(x, s)]).map fun p => D.int p.2) := by
  unfold keyPut
  rw [if_neg]
  · simp
  · intro hm
    obtain ⟨p, hp, e⟩ := List.mem_map.mp hm
    simp only [D.int.injEq] at e
    exact h (by rw [← e]; exact List.mem_map_of_mem hp)
theorem put_OD {S : Sto} {n : Nat} {fx : List (Int × Int)} (hS : S[n]? = some (OD fx)) (x s : Int) (h : x ∉ keys fx) (hl : fx.length < 1000000) : putOp S (.ref n) (.int x) (.int s) = some (S.set n (OD (fx ++ [(x, s)]))) := by
  simp only [putOp, hS, OD]
  simp only [D.key, D.key0, List.length_map, hl, decide_true, Bool.and_self, if_true, put_dI fx x s h]
/-- a call that hands back what it made -/
theorem run_fz {P : Nat → Def} {k f np ns : Nat} {args : List D} {S : Sto} {body : List Stm} {d : D} (hP : P f = ⟨np, ns, false, body⟩) (hn : args.length = np) (hd : d.pure = true)
    (h : XS (run P k) body (args.map some ++ List.replicate (ns - np) none) S ⟨fun _ _ => False, fun d' S' => ∃ T, S' = S ++ T ∧ fz S' S.length d' = d, fun _ _ => False, fun _ _ => False, fun _ _ _ _ => False⟩ ⟨⟩) :
    run P (k + 1) f args S = .ok d S := by
  rw [run_succ, hP]
  unfold callD
  rw [if_pos hn]
  rw [XS_def] at h
  cases q : execs (run P k) body (args.map some ++ List.replicate (ns - np) none) S with
  | rt d' S' =>
    rw [q] at h
    obtain ⟨T, rfl, e⟩ := h
    show finV S d' (S ++ T) = _
    unfold finV
    rw [e, if_pos ⟨Kept.ext S T, pure_lo _ hd⟩, List.take_left]
  | nx ρ S' => rw [q] at h; exact h.elim
  | bk ρ S' => rw [q] at h; exact h.elim
  | ct ρ S' => rw [q] at h; exact h.elim
  | ex c x ρ S' => rw [q] at h; exact h.elim
  | stuck => rw [q] at h; exact h.elim
theorem fz_new (S T : Sto) (fx : List (Int × Int)) : fz (S ++ OD fx :: T) S.length (.ref S.length) = dI fx := by
  simp [fz, fz1, OD, dI]
theorem spec_with_one (k : Nat) (fd : D) (fx : List (Int × Int)) (p h : Int) (S : Sto) (hf : res S fd = dI fx) (hp : p ∉ keys fx) (hl : fx.length < 1000) : run P (k + 1) F_with_one [fd, .int p, .int h] S = .ok (dI (fx ++ [(p, h)])) S := by
  refine run_fz b_with_one rfl (by simp) ?_
  simp [d_copy hf]
  rw [XS_asgSub]
  have e : putOp (S ++ [OD fx]) (.ref S.length) (.int p) (.int h) = some (S ++ [OD (fx ++ [(p, h)])]) := by
    rw [put_OD (fx := fx) (by simp) p h hp (by omega)]
    simp
  simp [e]
  exact fz_new S [] (fx ++ [(p, h)])
/-! ### open hues -/
def goneH (ts : List (Int × Int)) (fx : List (Int × Int)) (p : Int) : List Int := ((sortI (near ts p)).filter fun o => decide (o ∈ keys fx)).map (lkv fx)
def opn (ts : List (Int × Int)) (ll : List (List Int)) (fx : List (Int × Int)) (p : Int) : List Int := (gat ll p).filter fun h => !decide (h ∈ goneH ts fx p)
theorem spec_open (k : Nat) (n : Nat) (ts : List (Int × Int)) (ll : List (List Int)) (fd : D) (fx : List (Int × Int)) (p : Int) (S : Sto) (hf : res S fd = dI fx) (hp : inR ll.length p) : run P (k + 2) F_open_hues [webD n ts, tu ll, fd, .int p] S = .ok (ls (opn ts ll fx p)) S := by
  refine run_ok b_open_hues rfl (by simp) ?_
  simp
  refine Wf (sortI (near ts p)) enc (fun o => decide (o ∈ keys fx)) (lkv fx) ?_ ?_ ?_
  · simp [spec_tied_to]
  · intro o ho
    simp [d_in hf]
    intro a b
    have : o ∈ keys fx := by simp; exact ⟨a, b⟩
    simp [d_idx hf o this]
  · simp
    refine Wf (gat ll p) enc (fun h => !decide (h ∈ goneH ts fx p)) id ?_ ?_ ?_
    · simp [hp]
    · intro h hh
      simp only [goneH]; simp; exact decide_eq_decide.mpr Iff.rfl
    · simp [opn]
end Pf
end

section 
set_option Elab.async false
set_option linter.all false
set_option maxRecDepth 100000
set_option maxHeartbeats 1000000
/-! PwM: papers of none. -/
namespace Pf
open Enc (enc dep)
variable {P : Nat → Def} [Base P]
theorem res_app {S : Sto} {fd : D} {fx : List (Int × Int)} (h : res S fd = dI fx) (T : Sto) : res (S ++ T) fd = dI fx := by
  cases fd with
  | ref i =>
    by_cases q : i < S.length
    · rw [res_ref] at h ⊢
      rw [List.getElem?_append_left q]; exact h
    · rw [res_ref, List.getElem?_eq_none (by omega)] at h
      simp [resR, dI] at h
  | _ => exact h
theorem res_dI (S : Sto) (fx : List (Int × Int)) : res S (dI fx) = dI fx := rfl
theorem keys_app (fx : List (Int × Int)) (p h : Int) : keys (fx ++ [(p, h)]) = keys fx ++ [p] := by simp [keys]
theorem lkv_old {fx : List (Int × Int)} {a : Int} (x : Int × Int) (h : a ∈ keys fx) : lkv (fx ++ [x]) a = lkv fx a := by
  have := lkp_v h
  unfold lkv lkp at this ⊢
  rw [List.find?_append]
  cases q : fx.find? (fun p => decide (p.1 = a)) with
  | none => rw [q] at this; cases this
  | some y => rfl
theorem lkv_new {fx : List (Int × Int)} {a h : Int} (q : a ∉ keys fx) : lkv (fx ++ [(a, h)]) a = h := by
  have := lkp_none q
  unfold lkv lkp at this ⊢
  rw [List.find?_append]
  cases q : fx.find? (fun p => decide (p.1 = a)) with
  | none => simp
  | some y => rw [q] at this; cases this
theorem near_iff {ts : List (Int × Int)} {p o : Int} : o ∈ near ts p ↔ (p, o) ∈ ts ∨ (o, p) ∈ ts := by
  simp only [near, List.mem_map, List.mem_filter, decide_eq_true_eq]
  constructor
  · rintro ⟨⟨a, b⟩, ⟨h1, h2⟩, rfl⟩
    dsimp only at *
    rcases h2 with rfl | rfl
    · left; rw [show p + b - p = b by omega]; exact h1
    · right; rw [show a + p - p = a by omega]; exact h1
  · rintro (h | h)
    · exact ⟨(p, o), ⟨h, .inl rfl⟩, by dsimp only; omega⟩
    · exact ⟨(o, p), ⟨h, .inr rfl⟩, by dsimp only; omega⟩
/-- a choice, as a function -/
def Val (n : Nat) (ts : List (Int × Int)) (ll : List (List Int)) (c : Int → Int) : Prop := (∀ p : Int, 0 ≤ p → p < n → c p ∈ gat ll p) ∧ ∀ a b : Int, (a, b) ∈ ts → c a ≠ c b
structure Good (n : Nat) (ts : List (Int × Int)) (ll : List (List Int)) (fx : List (Int × Int)) : Prop where
  mem : ∀ a ∈ keys fx, lkv fx a ∈ gat ll a
  tie : ∀ a b : Int, (a, b) ∈ ts → a ∈ keys fx → b ∈ keys fx → lkv fx a ≠ lkv fx b
  no : ∀ c, Val n ts ll c → ¬ ∀ a ∈ keys fx, c a = lkv fx a
def lft (n : Nat) (fx : List (Int × Int)) : List Int := (pl n).filter fun p => !decide (p ∈ keys fx)
theorem mem_lft {n : Nat} {fx : List (Int × Int)} {p : Int} : p ∈ lft n fx ↔ (0 ≤ p ∧ p < n) ∧ p ∉ keys fx := by
  simp only [lft, List.mem_filter, Bool.not_eq_true', decide_eq_false_iff_not]
  constructor
  · rintro ⟨h1, h2⟩; exact ⟨pl_mem h1, h2⟩
  · rintro ⟨⟨h1, h2⟩, h3⟩
    refine ⟨?_, h3⟩
    unfold pl
    rw [List.mem_map]
    exact ⟨p.toNat, by rw [List.mem_range]; omega, by omega⟩
theorem Good.left {n : Nat} {ts : List (Int × Int)} {ll : List (List Int)} {fx : List (Int × Int)} (hw : Web n ts) (h : Good n ts ll fx) : lft n fx ≠ [] := by
  intro e
  have all : ∀ p : Int, 0 ≤ p → p < n → p ∈ keys fx := by
    intro p h1 h2
    by_cases q : p ∈ keys fx
    · exact q
    · have := mem_lft.mpr ⟨⟨h1, h2⟩, q⟩
      rw [e] at this; cases this
  refine h.no (lkv fx) ⟨fun p h1 h2 => h.mem p (all p h1 h2), fun a b t => ?_⟩ fun _ _ => rfl
  have := hw.tie _ t
  dsimp only at this
  exact h.tie a b t (all a (by omega) (by omega)) (all b (by omega) (by omega))
theorem mem_goneH {ts : List (Int × Int)} {fx : List (Int × Int)} {p o : Int} (h : o ∈ near ts p) (hk : o ∈ keys fx) : lkv fx o ∈ goneH ts fx p := by
  unfold goneH
  exact List.mem_map_of_mem (List.mem_filter.mpr ⟨mem_sortI.mpr h, by simpa using hk⟩)
theorem Good.child {n : Nat} {ts : List (Int × Int)} {ll : List (List Int)} {fx : List (Int × Int)} (hw : Web n ts) (g : Good n ts ll fx) {p h : Int} (hp : p ∉ keys fx) (hh : h ∈ opn ts ll fx p) : Good n ts ll (fx ++ [(p, h)]) := by
  simp only [opn, List.mem_filter, Bool.not_eq_true', decide_eq_false_iff_not] at hh
  refine ⟨?_, ?_, ?_⟩
  · intro a ha
    rw [keys_app, List.mem_append, List.mem_singleton] at ha
    rcases ha with ha | rfl
    · rw [lkv_old _ ha]; exact g.mem a ha
    · rw [lkv_new hp]; exact hh.1
  · intro a b t ha hb
    have := hw.tie _ t
    dsimp only at this
    rw [keys_app, List.mem_append, List.mem_singleton] at ha hb
    rcases ha with ha | rfl <;> rcases hb with hb | rfl
    · rw [lkv_old _ ha, lkv_old _ hb]; exact g.tie a b t ha hb
    · rw [lkv_old _ ha, lkv_new hp]
      intro e
      exact hh.2 (e ▸ mem_goneH (near_iff.mpr (.inr t)) ha)
    · rw [lkv_old _ hb, lkv_new hp]
      intro e
      exact hh.2 (e ▸ mem_goneH (near_iff.mpr (.inl t)) hb)
    · omega
  · intro c hc ha
    refine g.no c hc fun a h1 => ?_
    rw [ha a (by rw [keys_app]; simp [h1]), lkv_old _ h1]
theorem lft_len {n : Nat} {fx : List (Int × Int)} {p : Int} (h : p ∈ lft n fx) (x : Int) : (lft n (fx ++ [(p, x)])).length < (lft n fx).length := by
  have e : lft n (fx ++ [(p, x)]) = (lft n fx).filter fun a => !decide (a = p) := by
    unfold lft
    rw [List.filter_filter]
    refine List.filter_congr fun a _ => ?_
    rw [keys_app, Bool.eq_iff_iff]
    simp only [Bool.not_eq_true', decide_eq_false_iff_not, Bool.and_eq_true, List.mem_append, List.mem_singleton]
    constructor
    · intro h; exact ⟨fun q => h (.inr q), fun q => h (.inl q)⟩
    · rintro ⟨h1, h2⟩ (q | q)
      · exact h2 q
      · exact h1 q
  rw [e]
  have h1 := List.length_filter_le (fun a => !decide (a = p)) (lft n fx)
  rcases Nat.lt_or_eq_of_le h1 with h1 | h1
  · exact h1
  · have := (List.length_filter_eq_length_iff.mp h1) p h
    simp at this
theorem good_nil {n : Nat} {ts : List (Int × Int)} {ll : List (List Int)} (hw : Web n ts) (hl : ll.length = n) (h : paths (extC ts ll) n [] = []) : Good n ts ll [] := by
  refine ⟨by simp, by simp, fun c hc _ => ?_⟩
  have key : ∀ (m j : Nat), j + m = n → paths (extC ts ll) m ((List.range j).map fun (i : Nat) => c i) ≠ [] := by
    intro m
    induction m with
    | zero => intro j _; simp [paths]
    | succ m ih =>
      intro j hj
      simp only [paths]
      have hm : c j ∈ extC ts ll ((List.range j).map fun (i : Nat) => c i) := by
        unfold extC
        rw [List.mem_filter]
        simp only [List.length_map, List.length_range]
        refine ⟨hc.1 j (by omega) (by omega), ?_⟩
        unfold fitB
        rw [List.all_eq_true]
        intro o ho
        simp only [List.length_map, List.length_range, List.mem_filter, mem_sortI, decide_eq_true_eq] at ho
        have hb := mem_near hw ho.1
        have e : gat ((List.range j).map fun (i : Nat) => c i) o = c o := by
          obtain ⟨k, rfl⟩ : ∃ k : Nat, o = k := ⟨o.toNat, by omega⟩
          have : k < j := by omega
          rw [gat_nat]
          simp [this]
        rw [e]
        simp only [Bool.not_eq_true', decide_eq_false_iff_not]
        rcases near_iff.mp ho.1 with t | t
        · exact fun q => hc.2 _ _ t q.symm
        · exact hc.2 _ _ t
      have := ih (j + 1) (by omega)
      intro e
      rw [List.flatMap_eq_nil_iff] at e
      have e := e _ hm
      rw [List.range_succ, List.map_append] at this
      exact this e
  exact key n 0 (by omega) h
/-- a paper of none -/
inductive Pap (n : Nat) (ts : List (Int × Int)) (ll : List (List Int)) : Nat → List (Int × Int) → D → Prop
  | bare (m : Nat) (fx : List (Int × Int)) (p : Int) : 0 ≤ p → p < n → p ∉ keys fx → opn ts ll fx p = [] → Pap n ts ll (m + 1) fx (.tup [.str [98, 97, 114, 101], .int p])
  | byP (m : Nat) (fx : List (Int × Int)) (p : Int) (g : Int → D) : 0 ≤ p → p < n → p ∉ keys fx → opn ts ll fx p ≠ [] → (∀ h ∈ opn ts ll fx p, Pap n ts ll m (fx ++ [(p, h)]) (g h)) → Pap n ts ll (m + 1) fx (.tup [.str [98, 121], .int p, .tup ((opn ts ll fx p).map g)])
theorem Pap.plain {n : Nat} {ts : List (Int × Int)} {ll : List (List Int)} {m : Nat} {fx : List (Int × Int)} {d : D} (h : Pap n ts ll m fx d) : d.plain (2 * m + 1) = true := by
  induction h with
  | bare m fx p _ _ _ _ => rfl
  | byP m fx p g _ _ _ _ _ ih =>
    rw [show 2 * (m + 1) + 1 = 2 * m + 1 + 1 + 1 from rfl]
    simp only [D.plain, List.all_cons, List.all_nil, Bool.and_true]
    refine Bool.and_eq_true _ _ |>.mpr ⟨by decide, Bool.and_eq_true _ _ |>.mpr ⟨rfl, ?_⟩⟩
    rw [List.all_map, List.all_eq_true]
    exact fun a ha => ih a ha
theorem Pap.pure {n : Nat} {ts : List (Int × Int)} {ll : List (List Int)} {m : Nat} {fx : List (Int × Int)} {d : D} (h : Pap n ts ll m fx d) : d.pure = true := by
  induction h with
  | bare m fx p _ _ _ _ => rfl
  | byP m fx p g _ _ _ _ _ ih =>
    have : ∀ l : List Int, (∀ a ∈ l, (g a).pure = true) → D.pureL (l.map g) = true := by
      intro l
      induction l with
      | nil => intro _; rfl
      | cons a l il => intro h; simp only [List.map_cons, D.pureL, h a (by simp), il fun x hx => h x (by simp [hx]), Bool.and_self]
    simp only [D.pure, D.pureL, this _ ih, Bool.and_self]
theorem Pap.refl {n : Nat} {ts : List (Int × Int)} {ll : List (List Int)} {m : Nat} {fx : List (Int × Int)} {d : D} (h : Pap n ts ll m fx d) : d.eqv d = true := by
  induction h with
  | bare m fx p _ _ _ _ => simp [D.eqv, D.eqvL]
  | byP m fx p g _ _ _ _ _ ih =>
    have : ∀ l : List Int, (∀ a ∈ l, (g a).eqv (g a) = true) → D.eqvL (l.map g) (l.map g) = true := by
      intro l
      induction l with
      | nil => intro _; rfl
      | cons a l il => intro h; simp only [List.map_cons, D.eqvL, h a (by simp), il fun x hx => h x (by simp [hx]), Bool.and_self]
    simp [D.eqv, D.eqvL, this _ ih]
theorem Pap.eqS {n : Nat} {ts : List (Int × Int)} {ll : List (List Int)} {m : Nat} {fx : List (Int × Int)} {d : D} (h : Pap n ts ll m fx d) (hm : m ≤ 20) (S : Sto) : cmpOp S .eq d d = some true := by
  have r : res S d = d := by cases h <;> rfl
  have p : d.plain 60 = true := D.plain_le (by omega) h.plain
  rw [eq_gen S d d p p r r, h.refl]
theorem spec_none_by (n : Nat) (ts : List (Int × Int)) (ll : List (List Int)) (S : Sto) (hw : Web n ts) (hl : ll.length = n) : ∀ (m K : Nat) (fd : D) (fx : List (Int × Int)), res S fd = dI fx → Good n ts ll fx → (lft n fx).length ≤ m → fx.length + m ≤ 100 → m + 3 ≤ K → ∃ d, Pap n ts ll m fx d ∧ run P K F_none_by [webD n ts, tu ll, fd] S = .ok d S
  | 0, K, fd, fx, hf, hg, hm, h100, hK => by
    have := hg.left hw
    exact absurd (List.eq_nil_of_length_eq_zero (by omega)) this
  | m + 1, 0, fd, fx, hf, hg, hm, h100, hK => by omega
  | m + 1, K + 1, fd, fx, hf, hg, hm, h100, hK => by
    have h6 := hw.hi
    have hk2 : ∃ k, K = k + 2 := ⟨K - 2, by omega⟩
    obtain ⟨k, hk2⟩ := hk2
    have op : ∀ p : Int, p ∈ lft n fx → run P K F_open_hues [webD n ts, tu ll, fd, .int p] S = .ok (ls (opn ts ll fx p)) S := by
      intro p hp
      have hp := mem_lft.mp hp
      rw [hk2]
      exact spec_open k n ts ll fd fx p S hf (inR_pos hp.1.1 (by omega))
    have ih : ∀ p : Int, p ∈ lft n fx → ∀ h ∈ opn ts ll fx p, ∃ d, Pap n ts ll m (fx ++ [(p, h)]) d ∧ run P K F_none_by [webD n ts, tu ll, dI (fx ++ [(p, h)])] S = .ok d S := by
      intro p hp h hh
      have hp' := mem_lft.mp hp
      have := lft_len hp h
      exact spec_none_by n ts ll S hw hl m K _ _ (res_dI S _) (hg.child hw hp'.2 hh) (by omega) (by simp; omega) (by omega)
    have one : ∀ p : Int, p ∈ lft n fx → ∀ h, run P K F_with_one [fd, .int p, .int h] S = .ok (dI (fx ++ [(p, h)])) S := by
      intro p hp h
      rw [hk2]
      exact spec_with_one (k + 1) fd fx p h S hf (mem_lft.mp hp).2 (by omega)
    have g : ∃ g : Int → Int → D, ∀ p : Int, p ∈ lft n fx → ∀ h ∈ opn ts ll fx p, Pap n ts ll m (fx ++ [(p, h)]) (g p h) ∧ run P K F_none_by [webD n ts, tu ll, dI (fx ++ [(p, h)])] S = .ok (g p h) S := by
      refine ⟨fun p h => match run P K F_none_by [webD n ts, tu ll, dI (fx ++ [(p, h)])] S with | .ok d _ => d | _ => .non, fun p hp h hh => ?_⟩
      obtain ⟨d, h1, h2⟩ := ih p hp h hh
      simp only [h2]
      exact ⟨h1, trivial⟩
    obtain ⟨g, hgg⟩ := g
    have : OP (run P (K + 1) F_none_by [webD n ts, tu ll, fd] S) (fun d S' => Pap n ts ll (m + 1) fx d ∧ S' = S) noX ⟨⟩ := by
      refine run_op b_none_by rfl ?_
      simp
      refine Wf (pl n) enc (fun p => !decide (p ∈ keys fx)) id ?_ ?_ ?_
      · simp [show n < 1000 by omega, pl]
      · intro p hp
        simp [d_nin hf]
      · have hne := hg.left hw
        have e : (pl n).filter (fun p => !decide (p ∈ keys fx)) = lft n fx := rfl
        rw [e]
        cases q : lft n fx with
        | nil => exact absurd q hne
        | cons p0 r =>
          simp [show inR (r.length + 1) 0 from ⟨by omega, by omega⟩]
          rw [← q]
          have hp0 : p0 ∈ lft n fx := by rw [q]; simp
          refine XS_for (lft n fx) enc (fun _ ρ S' => S' = S ∧ ∃ (b : Int) (o5 : Option D), b ∈ lft n fx ∧ ρ = [some (webD n ts), some (tu ll), some fd, some (ls (lft n fx)), some (.int b), o5, none, none]) ?_ ?_ ?_
          · simp
            exact hp0
          · rintro pre a post ρ S' e ⟨rfl, b, o5, hb, rfl⟩
            have ha : a ∈ lft n fx := by rw [e]; simp
            simp [op a ha, op b hb]
            refine brP_dec (fun _ => ?_) (fun _ => ?_)
            · simp
              exact ha
            · simp
              exact hb
          · rintro ρ S' ⟨rfl, b, o5, hb, rfl⟩
            have hb' := mem_lft.mp hb
            simp [op b hb]
            refine brP_dec (fun z => ?_) (fun z => ?_)
            · simp
              exact ⟨rfl, Kept.refl _, .bare m fx b hb'.1.1 hb'.1.2 hb'.2 z⟩
            · simp
              refine W_compN (opn ts ll fx b) enc (g b) ?_ ?_ ?_
              · simp
              · intro h hh
                simp [one b hb h, (hgg b hb h hh).2]
              · simp
                have hP := Pap.byP m fx b (g b) hb'.1.1 hb'.1.2 hb'.2 z fun h hh => (hgg b hb h hh).1
                exact ⟨hP.pure, Kept.refl _, hP⟩
    obtain ⟨d, S', e, h1, rfl⟩ := OP_ex this
    exact ⟨d, h1, e⟩
@[simp] theorem putNil : putAll false [] [] (pairUp []) = some ([], []) := rfl
theorem spec_none_paper (n : Nat) (ts : List (Int × Int)) (ll : List (List Int)) (S : Sto) (hw : Web n ts) (hl : Lists n ll) (K : Nat) (hK : n + 5 ≤ K) :
    (paths (extC ts ll) n [] ≠ [] → run P K F_none_paper [webD n ts, tu ll] S = .ok .non S) ∧ (paths (extC ts ll) n [] = [] → ∃ d, Pap n ts ll n [] d ∧ run P K F_none_paper [webD n ts, tu ll] S = .ok d S) := by
  obtain ⟨K, rfl⟩ : ∃ K', K = K' + 1 := ⟨K - 1, by omega⟩
  have h1 := hw.lo
  have h6 := hw.hi
  have e1 : run P K F_need_lists [webD n ts, tu ll] S = .ok .non S := atL (fun k => spec_need_lists k n ts ll S hw hl) (by omega)
  have ll' : ll.length = n := by have := hl.len; omega
  have e2 := spec_many_of (P := P) n ts ll S hw ll' n K [] (by simp) (by omega)
  have e2 : run P K F_many_of [webD n ts, tu ll, .tup []] S = .ok (.int (paths (extC ts ll) n []).length) S := e2
  constructor
  · intro hp
    have : 0 < (paths (extC ts ll) n []).length := List.length_pos_iff.mpr hp
    refine run_ok b_none_paper rfl rfl ?_
    simp [e1, e2, this]
  · intro hp
    obtain ⟨d, hd, e3⟩ := spec_none_by (P := P) n ts ll S hw ll' n K (.dic false [] []) [] rfl (good_nil hw ll' hp) (by refine Nat.le_trans (List.length_filter_le _ _) ?_; simp [pl]) (by simp; omega) (by omega)
    refine ⟨d, hd, ?_⟩
    refine run_ok b_none_paper rfl hd.pure ?_
    simp [e1, e2, hp, e3]
end Pf
end

section 
set_option Elab.async false
set_option linter.all false
set_option maxRecDepth 100000
set_option maxHeartbeats 1000000
/-! PwN: choices by number, plain laws. -/
namespace Pf
open Enc (enc dep)
/-- what a path through the tree is -/
theorem paths_is (ext : List Int → List Int) : ∀ (m : Nat) (b c : List Int), c ∈ paths ext m b → c.length = b.length + m ∧ c.take b.length = b ∧ ∀ i, b.length ≤ i → i < c.length → gat c i ∈ ext (c.take i)
  | 0, b, c, h => by
    simp only [paths, List.mem_singleton] at h
    subst h
    exact ⟨rfl, List.take_length, fun i h1 h2 => by omega⟩
  | m + 1, b, c, h => by
    simp only [paths, List.mem_flatMap] at h
    obtain ⟨a, ha, hc⟩ := h
    obtain ⟨h1, h2, h3⟩ := paths_is ext m (b ++ [a]) c hc
    simp only [List.length_append, List.length_cons, List.length_nil] at h1 h2 h3
    have e : c.take b.length = b := by
      have := congrArg (List.take b.length) h2
      rw [List.take_take, Nat.min_eq_left (by omega)] at this
      rw [this]; simp
    refine ⟨by omega, e, fun i g1 g2 => ?_⟩
    rcases Nat.lt_or_eq_of_le g1 with g | rfl
    · exact h3 i (by omega) g2
    · rw [e]
      have : gat c b.length = a := by
        have := congrArg (fun l => l[b.length]?) h2
        simp only [List.getElem?_take] at this
        rw [if_pos (by omega)] at this
        rw [gat_nat, this]; simp
      rw [this]; exact ha
theorem paths_step {ext : List Int → List Int} {m : Nat} {b c : List Int} {a : Int} (h : c ∈ paths ext m (b ++ [a])) : gat c b.length = a := by
  obtain ⟨h1, h2, _⟩ := paths_is ext m (b ++ [a]) c h
  have := congrArg (fun l => l[b.length]?) h2
  simp only [List.getElem?_take, List.length_append, List.length_cons, List.length_nil] at this
  rw [if_pos (by omega)] at this
  rw [gat_nat, this]; simp
/-- the number of a choice, level by level -/
theorem count_step {f : Int → List (List Int)} {fit : Int → Bool} {c : List Int} {j : Int} (hf : ∀ a, c ∈ f a → j = a) : ∀ (l : List Int) (r : Nat), l.Pairwise (· < ·) → ((l.filter fit).flatMap f)[r]? = some c →
    ∃ s : Nat, (((l.filter fun h => decide (h < j) && fit h).map fun h => ((f h).length : Int)).sum = s) ∧ s ≤ r ∧ (f j)[r - s]? = some c
  | [], r, _, h => by simp at h
  | a :: l, r, hs, h => by
    rw [List.pairwise_cons] at hs
    by_cases q : fit a = true
    · rw [List.filter_cons, if_pos q, List.flatMap_cons] at h
      by_cases g : r < (f a).length
      · rw [List.getElem?_append_left g] at h
        have ej := hf a (List.mem_of_getElem? h)
        subst ej
        refine ⟨0, ?_, Nat.zero_le _, h⟩
        have : ((j :: l).filter fun h => decide (h < j) && fit h) = [] := by
          rw [List.filter_eq_nil_iff]
          intro x hx
          rcases List.mem_cons.mp hx with rfl | hx
          · simp
          · have := hs.1 x hx
            simp; omega
        rw [this]; rfl
      · rw [List.getElem?_append_right (by omega)] at h
        obtain ⟨s, h1, h2, h3⟩ := count_step hf l _ hs.2 h
        obtain ⟨x, hx, hc⟩ := List.mem_flatMap.mp (List.mem_of_getElem? h)
        have ej := hf x hc
        have := hs.1 x (List.mem_filter.mp hx).1
        refine ⟨(f a).length + s, ?_, by omega, by rw [show r - ((f a).length + s) = r - (f a).length - s by omega]; exact h3⟩
        rw [List.filter_cons, if_pos (by simp [q]; omega), List.map_cons, List.sum_cons, h1]
        omega
    · rw [List.filter_cons, if_neg q] at h
      obtain ⟨s, h1, h2, h3⟩ := count_step hf l r hs.2 h
      refine ⟨s, ?_, h2, h3⟩
      rw [List.filter_cons, if_neg (by simp [q]), h1]
/-- the choices stand in order -/
theorem lex_app : ∀ (b x y : List Int), lexLt (b ++ x) (b ++ y) = lexLt x y
  | [], x, y => rfl
  | a :: b, x, y => by simp only [List.cons_append, lexLt, if_true]; exact lex_app b x y
theorem lex_self : ∀ x : List Int, lexLt x x = false
  | [] => rfl
  | a :: x => by simp only [lexLt, if_true]; exact lex_self x
theorem paths_lex (ext : List Int → List Int) (he : ∀ b, (ext b).Pairwise (· < ·)) : ∀ (m : Nat) (b : List Int), (paths ext m b).Pairwise fun x y => lexLt y x = false
  | 0, b => by simp [paths]
  | m + 1, b => by
    simp only [paths]
    rw [List.pairwise_flatMap]
    refine ⟨fun a _ => paths_lex ext he m _, (he b).imp fun {a a'} h x hx y hy => ?_⟩
    have h1 := (paths_is ext m _ x hx).2.1
    have h2 := (paths_is ext m _ y hy).2.1
    rw [← List.take_append_drop (b ++ [a]).length x, ← List.take_append_drop (b ++ [a']).length y, h1, h2]
    rw [List.append_assoc, List.append_assoc, lex_app]
    simp only [List.singleton_append, lexLt]
    rw [if_neg (by omega)]
    simp; omega
theorem head_least {ext : List Int → List Int} (he : ∀ b, (ext b).Pairwise (· < ·)) {m : Nat} {b c c0 : List Int} (h0 : (paths ext m b).head? = some c0) (hc : c ∈ paths ext m b) : lexLt c c0 = false := by
  have := paths_lex ext he m b
  cases q : paths ext m b with
  | nil => rw [q] at hc; cases hc
  | cons x l =>
    rw [q] at h0 hc this
    cases h0
    rw [List.pairwise_cons] at this
    rcases List.mem_cons.mp hc with rfl | hc
    · exact lex_self _
    · exact this.1 c hc
theorem perm_sum {l m : List Int} (h : l.Perm m) : l.sum = m.sum := by
  induction h with
  | nil => rfl
  | cons a _ ih => simp only [List.sum_cons, ih]
  | swap a b l => simp only [List.sum_cons]; omega
  | trans _ _ h1 h2 => exact h1.trans h2
theorem sum_pos {g : Int → Int} (h : ∀ a, 0 ≤ g a) : ∀ m : List Int, 0 ≤ (m.map g).sum
  | [] => by simp
  | a :: m => by
    have := h a
    have := sum_pos h m
    simp only [List.map_cons, List.sum_cons]
    omega
/-- more ways, no fewer choices -/
theorem sum_sub {g g' : Int → Int} (hg : ∀ a, g a ≤ g' a) (h0 : ∀ a, 0 ≤ g' a) : ∀ (l m : List Int), l.Nodup → (∀ x ∈ l, x ∈ m) → (l.map g).sum ≤ (m.map g').sum
  | [], m, _, _ => sum_pos h0 m
  | a :: l, m, nd, h => by
    rw [List.nodup_cons] at nd
    have ha := h a (by simp)
    have h2 := sum_sub hg h0 l (m.erase a) nd.2 fun x hx => (List.mem_erase_of_ne (show x ≠ a from fun e => nd.1 (by rw [← e]; exact hx))).mpr (h x (by simp [hx]))
    have hp := perm_sum ((List.perm_cons_erase ha).map g')
    simp only [List.map_cons, List.sum_cons] at hp ⊢
    have := hg a
    omega
theorem paths_mono {ext ext' : List Int → List Int} (nd : ∀ b, (ext b).Nodup) (sub : ∀ b, ∀ x ∈ ext b, x ∈ ext' b) : ∀ (m : Nat) (b : List Int), ((paths ext m b).length : Int) ≤ (paths ext' m b).length
  | 0, b => by simp [paths]
  | m + 1, b => by
    rw [paths_sum, paths_sum]
    exact sum_sub (fun a => paths_mono nd sub m _) (fun a => by omega) _ _ (nd b) (sub b)
theorem extC_up {ts : List (Int × Int)} {ll : List (List Int)} (h : ∀ l ∈ ll, HL l) (b : List Int) : (extC ts ll b).Pairwise (· < ·) := by
  unfold extC
  refine List.Pairwise.sublist List.filter_sublist ?_
  by_cases q : inR ll.length (b.length : Int)
  · exact (h _ (gat_mem _ _ q)).ord
  · rw [gat_bad q]; exact .nil
theorem nodup_up {l : List Int} (h : l.Pairwise (· < ·)) : l.Nodup := h.imp fun h => by omega
end Pf
end

section 
set_option Elab.async false
set_option linter.all false
set_option maxRecDepth 100000
set_option maxHeartbeats 1000000
/-! PwO: is_none, choice_at, number_of, begun_many, is_choice. -/
namespace Pf
open Enc (enc dep)
variable {P : Nat → Def} [Base P]
theorem o_zipM (S : Sto) (l : List Int) (g : Int → D) : walkZip S (.tup (l.map g)) (ls l) = some ⟨l.map fun h => .tup [g h, .int h], none⟩ := by
  have : zipD (l.map g) (l.map enc) = l.map fun h => .tup [g h, .int h] := by
    unfold zipD
    induction l with
    | nil => rfl
    | cons a l ih => simp only [List.map_cons, List.zipWith_cons_cons, ih]; rfl
  simp only [walkZip, ls, this]
theorem eqBB (S : Sto) : cmpOp S .eq (.str [98, 121]) (.str [98, 121]) = some true := by rw [eq_gen S _ _ (by decide) (by decide) rfl rfl]; decide
theorem eqRR (S : Sto) : cmpOp S .eq (.str [98, 97, 114, 101]) (.str [98, 97, 114, 101]) = some true := by rw [eq_gen S _ _ (by decide) (by decide) rfl rfl]; decide
theorem eqBR (S : Sto) : cmpOp S .eq (.str [98, 121]) (.str [98, 97, 114, 101]) = some false := by rw [eq_gen S _ _ (by decide) (by decide) rfl rfl]; decide
theorem at2' (a b c : D) : atOf [a, b, c] 2 = some c := rfl
theorem isStr (S : Sto) (z : List Nat) : isTy S .str (.str z) = some true := rfl
theorem spec_is_none (n : Nat) (ts : List (Int × Int)) (ll : List (List Int)) (hw : Web n ts) (hl : ll.length = n) : ∀ (m K : Nat) (S : Sto) (fd : D) (fx : List (Int × Int)) (d : D), Pap n ts ll m fx d → res S fd = dI fx → fx.length + m ≤ 100 → m + 2 ≤ K → run P K F_is_none [d, webD n ts, tu ll, fd] S = .ok (.bl true) S
  | m, 0, S, fd, fx, d, hd, hf, h100, hK => by omega
  | m, K + 1, S, fd, fx, d, hd, hf, h100, hK => by
    refine run_ok b_is_none rfl rfl ?_
    cases hd with
    | bare m fx p h1 h2 h3 h4 =>
      have r : inR ll.length p := inR_pos h1 (by omega)
      have eo := atL (P := P) (fun k => spec_open k n ts ll fd fx p S hf r) (show 2 ≤ K by omega)
      have eu := atL (P := P) (fun k => spec_upto k p 0 (n - 1) S) (show 1 ≤ K by omega)
      simp [isStr, eu, d_in hf, h1, show p ≤ (n : Int) - 1 by omega, h3, eo, h4, eqRR]
    | byP m fx p g h1 h2 h3 h4 h5 =>
      have r : inR ll.length p := inR_pos h1 (by omega)
      have eo := atL (P := P) (fun k => spec_open k n ts ll fd fx p S hf r) (show 2 ≤ K by omega)
      have eu := atL (P := P) (fun k => spec_upto k p 0 (n - 1) S) (show 1 ≤ K by omega)
      simp [isStr, eu, d_in hf, h1, show p ≤ (n : Int) - 1 by omega, h3, eo, eqBR, eqBB, at2']
      refine Wm (opn ts ll fx p) (fun h => .tup [g h, .int h]) (fun _ => true) ?_ ?_ ?_
      · simp [at2', o_zipM]
      · intro h hh
        have ih := spec_is_none n ts ll hw hl m K S (dI (fx ++ [(p, h)])) _ _ (h5 h hh) rfl (by simp; omega) (by omega)
        have e1 := atL (P := P) (fun k => spec_with_one k fd fx p h S hf h3 (by omega)) (show 1 ≤ K by omega)
        simp [e1, ih]
      · simp
theorem spec_is_none_paper (n : Nat) (ts : List (Int × Int)) (ll : List (List Int)) (S : Sto) (hw : Web n ts) (hl : Lists n ll) (K : Nat) (hK : n + 5 ≤ K) (d : D) (hd : Pap n ts ll n [] d) : run P K F_is_none_paper [d, webD n ts, tu ll] S = .ok (.bl true) S := by
  obtain ⟨K, rfl⟩ : ∃ K', K = K' + 1 := ⟨K - 1, by omega⟩
  have h1 := hw.lo
  have h6 := hw.hi
  have e1 : run P K F_need_lists [webD n ts, tu ll] S = .ok .non S := atL (fun k => spec_need_lists k n ts ll S hw hl) (by omega)
  have e2 := spec_is_none (P := P) n ts ll hw (by have := hl.len; omega) n K S (.dic false [] []) [] d hd rfl (by simp; omega) (by omega)
  refine run_ok b_is_none_paper rfl rfl ?_
  simp [e1, e2]
theorem spec_choices_many (n : Nat) (ts : List (Int × Int)) (ll : List (List Int)) (S : Sto) (hw : Web n ts) (hl : Lists n ll) (K : Nat) (hK : n + 5 ≤ K) : run P K F_choices_many [webD n ts, tu ll] S = .ok (.int (paths (extC ts ll) n []).length) S := by
  obtain ⟨K, rfl⟩ : ∃ K', K = K' + 1 := ⟨K - 1, by omega⟩
  have h1 := hw.lo
  have e1 : run P K F_need_lists [webD n ts, tu ll] S = .ok .non S := atL (fun k => spec_need_lists k n ts ll S hw hl) (by omega)
  have e2 : run P K F_many_of [webD n ts, tu ll, .tup []] S = .ok (.int (paths (extC ts ll) n []).length) S := spec_many_of (P := P) n ts ll S hw (by have := hl.len; omega) n K [] (by simp) (by omega)
  refine run_ok b_choices_many rfl rfl ?_
  simp [e1, e2]
theorem spec_first_choice (n : Nat) (ts : List (Int × Int)) (ll : List (List Int)) (S : Sto) (hw : Web n ts) (hl : Lists n ll) (K : Nat) (hK : n + 5 ≤ K) : run P K F_first_choice [webD n ts, tu ll] S = .ok (optD (paths (extC ts ll) n []).head?) S := by
  obtain ⟨K, rfl⟩ : ∃ K', K = K' + 1 := ⟨K - 1, by omega⟩
  have h1 := hw.lo
  have e1 : run P K F_need_lists [webD n ts, tu ll] S = .ok .non S := atL (fun k => spec_need_lists k n ts ll S hw hl) (by omega)
  have e2 := spec_first_of (P := P) n ts ll S hw (by have := hl.len; omega) K (by omega)
  refine run_ok b_first_choice rfl (by unfold optD; split <;> simp) ?_
  simp [e1, e2]
theorem spec_choice_at (n : Nat) (ts : List (Int × Int)) (ll : List (List Int)) (S : Sto) (hw : Web n ts) (hl : Lists n ll) (K : Nat) (hK : n + 5 ≤ K) (k : Nat) (c : List Int) (hc : (paths (extC ts ll) n [])[k]? = some c) : run P K F_choice_at [webD n ts, tu ll, .int k] S = .ok (tu c) S := by
  obtain ⟨K, rfl⟩ : ∃ K', K = K' + 1 := ⟨K - 1, by omega⟩
  have h1 := hw.lo
  have h6 := hw.hi
  have ll' : ll.length = n := by have := hl.len; omega
  have e1 : run P K F_need_lists [webD n ts, tu ll] S = .ok .non S := atL (fun k => spec_need_lists k n ts ll S hw hl) (by omega)
  have e2 : run P K F_many_of [webD n ts, tu ll, .tup []] S = .ok (.int (paths (extC ts ll) n []).length) S := spec_many_of (P := P) n ts ll S hw ll' n K [] (by simp) (by omega)
  have hk : k < (paths (extC ts ll) n []).length := (List.getElem?_eq_some_iff.mp hc).1
  have e3 := atL (P := P) (fun j => spec_upto j (k : Int) 0 ((paths (extC ts ll) n []).length - 1) S) (show 1 ≤ K by omega)
  refine run_ok b_choice_at rfl (by simp) ?_
  simp [e1, e2, e3, show ((k : Int) ≤ (paths (extC ts ll) n []).length - 1) by omega]
  refine XS_wh (fun m ρ S' => S' = S ∧ ∃ (b : List Int) (k : Nat) (o4 o5 : Option D), b.length + m = n ∧ (paths (extC ts ll) m b)[k]? = some c ∧ ρ = [some (webD n ts), some (tu ll), some (.int k), some (tu b), o4, o5]) n ⟨rfl, [], k, none, none, by simp, hc, rfl⟩ ?_
  rintro m ρ S' ⟨rfl, b, k', o4, o5, hb, hh, rfl⟩
  cases m with
  | zero =>
    have e : ¬ b.length < n := by omega
    simp only [paths] at hh
    have : b = c := by
      cases k' with
      | zero => simpa using hh
      | succ j => simp at hh
    subst this
    simp [e]
  | succ m =>
    have e : b.length < n := by omega
    have r : inR ll.length (b.length : Int) := inR_nat (by omega)
    simp [e]
    refine XS_for (gat ll b.length) enc (fun pre ρ S2 => S2 = S' ∧ ∃ (k2 : Nat) (o4 o5 : Option D), (∀ post, gat ll b.length = pre ++ post → ((post.filter (fitB ts b)).flatMap fun a => paths (extC ts ll) m (b ++ [a]))[k2]? = some c) ∧ ρ = [some (webD n ts), some (tu ll), some (.int k2), some (tu b), o4, o5]) ?_ ?_ ?_
    · simp [r]
      exact ⟨k', by have := hh; simp only [paths, extC] at this; exact this, rfl⟩
    · rintro pre a post ρ S2 ea ⟨rfl, k2, o4, o5, hp, rfl⟩
      have ef := atL (P := P) (fun k => spec_fits k n ts b a S2 hw) (show 2 ≤ K by omega)
      have em := spec_many_of (P := P) n ts ll S2 hw ll' m K (b ++ [a]) (by simp; omega) (by omega)
      have hp0 := hp (a :: post) ea
      rw [List.filter_cons] at hp0
      by_cases q : fitB ts b a = true
      · rw [if_pos q, List.flatMap_cons] at hp0
        by_cases g : k2 < (paths (extC ts ll) m (b ++ [a])).length
        · rw [List.getElem?_append_left g] at hp0
          simp [ef, q, em, le_big (show b.length + 1 ≤ 100000 by omega), g]
          exact ⟨m, by omega, b ++ [a], by simp; omega, k2, hp0, rfl, rfl⟩
        · rw [List.getElem?_append_right (by omega)] at hp0
          simp [ef, q, em, le_big (show b.length + 1 ≤ 100000 by omega), g]
          refine ⟨k2 - (paths (extC ts ll) m (b ++ [a])).length, fun post' hpost => by
            have : post' = post := by rw [ea] at hpost; simpa using hpost.symm
            subst this; exact hp0, by omega⟩
      · rw [if_neg q] at hp0
        simp [ef, q]
        refine ⟨k2, fun post' hpost => by
            have : post' = post := by rw [ea] at hpost; simpa using hpost.symm
            subst this; exact hp0, rfl⟩
    · rintro ρ S2 ⟨rfl, k2, o4, o5, hp, rfl⟩
      have := hp [] (by simp)
      simp at this
/-! ### what a choice is -/
structure Chc (n : Nat) (ts : List (Int × Int)) (ll : List (List Int)) (c : List Int) : Prop where
  len : c.length = n
  mem : ∀ i : Nat, i < n → gat c i ∈ gat ll i
  fit : ∀ i : Nat, i < n → fitB ts (c.take i) (gat c i) = true
theorem chc_of {n : Nat} {ts : List (Int × Int)} {ll : List (List Int)} {c : List Int} (h : c ∈ paths (extC ts ll) n []) : Chc n ts ll c := by
  obtain ⟨h1, _, h3⟩ := paths_is (extC ts ll) n [] c h
  simp only [List.length_nil, Nat.zero_add] at h1 h3
  have key : ∀ i : Nat, i < n → gat c i ∈ gat ll i ∧ fitB ts (c.take i) (gat c i) = true := by
    intro i hi
    have := h3 i (Nat.zero_le _) (by omega)
    unfold extC at this
    rw [List.mem_filter, List.length_take, Nat.min_eq_left (by omega)] at this
    exact this
  exact ⟨h1, fun i hi => (key i hi).1, fun i hi => (key i hi).2⟩
theorem gat_take {c : List Int} {i j : Nat} (h : i < j) : gat (c.take j) (i : Int) = gat c i := by
  rw [gat_nat, gat_nat, List.getElem?_take, if_pos h]
theorem Chc.tie {n : Nat} {ts : List (Int × Int)} {ll : List (List Int)} {c : List Int} (h : Chc n ts ll c) (hw : Web n ts) {t : Int × Int} (ht : t ∈ ts) : gat c t.1 ≠ gat c t.2 := by
  obtain ⟨a, b⟩ := t
  have hb := hw.tie _ ht
  dsimp only at hb ⊢
  obtain ⟨i, rfl⟩ : ∃ i : Nat, a = i := ⟨a.toNat, by omega⟩
  obtain ⟨j, rfl⟩ : ∃ j : Nat, b = j := ⟨b.toNat, by omega⟩
  have f := h.fit j (by omega)
  unfold fitB at f
  rw [List.all_eq_true] at f
  have hl : (c.take j).length = j := by rw [List.length_take, h.len]; omega
  have := f (i : Int) (by
    rw [List.mem_filter, hl, mem_sortI]
    exact ⟨near_iff.mpr (.inr ht), by simp; omega⟩)
  rw [gat_take (by omega)] at this
  simpa using this
theorem spec_is_choice_of (n : Nat) (ts : List (Int × Int)) (ll : List (List Int)) (c : List Int) (S : Sto) (hw : Web n ts) (hl : Lists n ll) (hc : Chc n ts ll c) (k : Nat) : run P (k + 2) F_is_choice_of [tu c, webD n ts, tu ll] S = .ok (.bl true) S := by
  have ll' : ll.length = n := by have := hl.len; omega
  refine run_ok b_is_choice_of rfl rfl ?_
  simp [hc.len]
  refine XS_for (c.zip ll) (fun p => .tup [enc p.1, enc p.2]) (fun _ ρ S' => S' = S ∧ ∃ o3 o4 : Option D, ρ = [some (tu c), some (webD n ts), some (tu ll), o3, o4, none, none]) ?_ ?_ ?_
  · simp
  · rintro pre p post ρ S' e ⟨rfl, o3, o4, rfl⟩
    have hm : p ∈ c.zip ll := by rw [e]; simp
    obtain ⟨i, hi, g⟩ := List.getElem_of_mem hm
    simp only [List.length_zip] at hi
    have e1 : p.1 = gat c i := by rw [← g, gat_lt c i (by omega)]; simp
    have e2 : p.2 = gat ll i := by rw [← g, gat_lt ll i (by omega)]; simp
    have m := hc.mem i (by omega)
    rw [← e1, ← e2] at m
    have hr := (hl.ok p.2 (by rw [e2]; exact gat_mem _ _ (inR_nat (by omega)))).rng p.1 m
    have eu := spec_upto (P := P) k p.1 0 99 S'
    simp [eu, hr, m]
  · rintro ρ S' ⟨rfl, o3, o4, rfl⟩
    simp
    refine Wm ts pairD (fun t => !decide (gat c t.1 = gat c t.2)) ?_ ?_ ?_
    · simp
    · intro t ht
      have hb := hw.tie t ht
      have i1 : inR c.length t.1 := inR_pos (by omega) (by have := hc.len; omega)
      have i2 : inR c.length t.2 := inR_pos (by omega) (by have := hc.len; omega)
      simp [i1, i2]
    · simp
      intro a b ht
      exact hc.tie hw ht
theorem spec_is_choice (n : Nat) (ts : List (Int × Int)) (ll : List (List Int)) (c : List Int) (S : Sto) (hw : Web n ts) (hl : Lists n ll) (hc : Chc n ts ll c) (K : Nat) (hK : 6 ≤ K) : run P K F_is_choice [tu c, webD n ts, tu ll] S = .ok (.bl true) S := by
  obtain ⟨K, rfl⟩ : ∃ K', K = K' + 1 := ⟨K - 1, by omega⟩
  have e1 : run P K F_need_lists [webD n ts, tu ll] S = .ok .non S := atL (fun k => spec_need_lists k n ts ll S hw hl) (by omega)
  have e2 := atL (P := P) (fun k => spec_is_choice_of n ts ll c S hw hl hc k) (show 2 ≤ K by omega)
  refine run_ok b_is_choice rfl rfl ?_
  simp [e1, e2]
theorem spec_number_of (n : Nat) (ts : List (Int × Int)) (ll : List (List Int)) (S : Sto) (hw : Web n ts) (hl : Lists n ll) (K : Nat) (hK : n + 5 ≤ K) (k : Nat) (c : List Int) (hk : (paths (extC ts ll) n [])[k]? = some c) : run P K F_number_of [webD n ts, tu ll, tu c] S = .ok (.int k) S := by
  obtain ⟨K, rfl⟩ : ∃ K', K = K' + 1 := ⟨K - 1, by omega⟩
  have h1 := hw.lo
  have h6 := hw.hi
  have ll' : ll.length = n := by have := hl.len; omega
  have hc := chc_of (List.mem_of_getElem? hk)
  have hlen := hc.len
  have e1 : run P K F_need_lists [webD n ts, tu ll] S = .ok .non S := atL (fun k => spec_need_lists k n ts ll S hw hl) (by omega)
  have e2 := atL (P := P) (fun k => spec_is_choice_of n ts ll c S hw hl hc k) (show 2 ≤ K by omega)
  refine run_ok b_number_of rfl rfl ?_
  simp [e1, e2]
  refine XS_for (List.range n) enc (fun pre ρ S' => S' = S ∧ ∃ (r fnd : Nat) (o4 o5 : Option D), fnd + r = k ∧ (paths (extC ts ll) (n - pre.length) (c.take pre.length))[r]? = some c ∧ ρ = [some (webD n ts), some (tu ll), some (tu c), some (.int fnd), o4, o5]) ?_ ?_ ?_
  · simp [show n < 1000 by omega]
    exact ⟨k, 0, by omega, hk, rfl⟩
  · rintro pre a post ρ S' e ⟨rfl, r, fnd, o4, o5, hr, hp, rfl⟩
    have ea : a = pre.length := by
      have := congrArg (fun l => l[pre.length]?) e
      have hle := congrArg List.length e
      simp at this hle
      rw [List.getElem?_range (by omega)] at this
      simpa using this.symm
    have han : a < n := by
      have : a ∈ List.range n := by rw [e]; simp
      simpa using this
    subst ea
    have rl : inR ll.length (pre.length : Int) := inR_nat (by omega)
    have rc : inR c.length (pre.length : Int) := inR_nat (by omega)
    have tl : (c.take pre.length).length = pre.length := by rw [List.length_take]; omega
    obtain ⟨m, hm⟩ : ∃ m, n - pre.length = m + 1 := ⟨n - pre.length - 1, by omega⟩
    rw [hm] at hp
    simp only [paths, extC, tl] at hp
    obtain ⟨s, s1, s2, s3⟩ := count_step (f := fun a => paths (extC ts ll) m (c.take pre.length ++ [a])) (j := gat c pre.length) (fun a ha => by have := paths_step ha; rw [tl] at this; exact this) (gat ll pre.length) r ((hl.ok _ (gat_mem _ _ rl)).ord) hp
    simp
    refine XS_for (gat ll pre.length) enc (fun pr ρ S2 => S2 = S' ∧ ∃ o5 : Option D, ρ = [some (webD n ts), some (tu ll), some (tu c), some (.int (fnd + ((pr.filter fun h => decide (h < gat c pre.length) && fitB ts (c.take pre.length) h).map fun h => ((paths (extC ts ll) m (c.take pre.length ++ [h])).length : Int)).sum)), some (.int pre.length), o5]) ?_ ?_ ?_
    · simp [rl]
    · rintro pr h po ρ S2 eh ⟨rfl, o5, rfl⟩
      have ef := atL (P := P) (fun k => spec_fits k n ts (c.take pre.length) h S2 hw) (show 2 ≤ K by omega)
      have em := spec_many_of (P := P) n ts ll S2 hw ll' m K (c.take pre.length ++ [h]) (by simp [tl]; omega) (by omega)
      by_cases q : h < gat c pre.length
      · by_cases q2 : fitB ts (c.take pre.length) h = true
        · simp [rc, q, q2, ef, em, cut_take, le_big (show pre.length + 1 ≤ 100000 by omega)]
          exact ⟨le_big (by omega), by omega⟩
        · simp [rc, q, q2, ef, em, cut_take]
      · simp [rc, q]
    · rintro ρ S2 ⟨rfl, o5, rfl⟩
      rw [s1]
      simp
      refine ⟨r - s, fnd + s, by omega, ?_, by simp⟩
      have et : c.take (pre.length + 1) = c.take pre.length ++ [gat c pre.length] := by
        rw [List.take_succ, List.getElem?_eq_getElem (by omega), gat_lt c pre.length (by omega)]
        rfl
      rw [et, show n - (pre.length + 1) = m by omega]
      exact s3
  · rintro ρ S' ⟨rfl, r, fnd, o4, o5, hr, hp, rfl⟩
    simp only [List.length_range, Nat.sub_self, paths] at hp
    have : r = 0 := by
      cases r with
      | zero => rfl
      | succ j => simp at hp
    subst this
    simp
    omega
/-- what a beginning is -/
structure Beg (n : Nat) (ts : List (Int × Int)) (ll : List (List Int)) (c : List Int) : Prop where
  len : c.length ≤ n
  mem : ∀ i : Nat, i < c.length → gat c i ∈ gat ll i
  fit : ∀ i : Nat, i < c.length → fitB ts (c.take i) (gat c i) = true
theorem enumL_gat : ∀ (j : Nat) (b : List Int), enumL j (b.map enc) = (List.range b.length).map fun (i : Nat) => .tup [.int ((j + i : Nat) : Int), .int (gat b i)]
  | j, [] => rfl
  | j, a :: b => by
    rw [List.map_cons, enumL, enumL_gat (j + 1) b, List.length_cons, List.range_succ_eq_map, List.map_cons, List.map_map]
    refine List.cons_eq_cons.mpr ⟨by simp, ?_⟩
    refine List.map_congr_left fun i hi => ?_
    simp only [Function.comp_apply]
    rw [gat_nat, gat_nat]
    simp only [List.getElem?_cons_succ]
    rw [show j + 1 + i = j + (i + 1) by omega]
theorem o_enum (S : Sto) (b : List Int) : walkEnum S (tu b) = some ⟨(List.range b.length).map fun (i : Nat) => .tup [.int (i : Int), .int (gat b i)], none⟩ := by
  have := enumL_gat 0 b
  simp only [Nat.zero_add] at this
  simp only [walkEnum, tu, this]
theorem spec_begun_many (n : Nat) (ts : List (Int × Int)) (ll : List (List Int)) (S : Sto) (hw : Web n ts) (hl : Lists n ll) (K : Nat) (hK : n + 5 ≤ K) (b : List Int) (hb : Beg n ts ll b) : run P K F_begun_many [webD n ts, tu ll, tu b] S = .ok (.int (paths (extC ts ll) (n - b.length) b).length) S := by
  obtain ⟨K, rfl⟩ : ∃ K', K = K' + 1 := ⟨K - 1, by omega⟩
  have h1 := hw.lo
  have h6 := hw.hi
  have hbl := hb.len
  have ll' : ll.length = n := by have := hl.len; omega
  have e1 : run P K F_need_lists [webD n ts, tu ll] S = .ok .non S := atL (fun k => spec_need_lists k n ts ll S hw hl) (by omega)
  have e2 := spec_many_of (P := P) n ts ll S hw ll' (n - b.length) K b (by omega) (by omega)
  have hr : ∀ h ∈ b, 0 ≤ h ∧ h ≤ 99 := by
    intro h hh
    obtain ⟨i, hi, rfl⟩ := List.getElem_of_mem hh
    have := hb.mem i hi
    rw [gat_lt b i hi] at this
    exact (hl.ok _ (gat_mem _ _ (inR_nat (by omega)))).rng _ this
  refine run_ok b_begun_many rfl rfl ?_
  simp [e1, show ¬ n < b.length by omega]
  refine Wm b enc (fun h => decide (0 ≤ h ∧ h ≤ 99)) ?_ ?_ ?_
  · simp
  · intro h hh
    simp [atL (P := P) (fun k => spec_upto k h 0 99 S) (show 1 ≤ K by omega)]
  · have : (b.all fun h => decide (0 ≤ h) && decide (h ≤ 99)) = true := by
      rw [List.all_eq_true]
      intro h hh
      simpa using hr h hh
    simp [this]
    refine XS_for (List.range b.length) (fun (i : Nat) => .tup [.int (i : Int), .int (gat b i)]) (fun _ ρ S' => S' = S ∧ ∃ o3 o4 : Option D, ρ = [some (webD n ts), some (tu ll), some (tu b), o3, o4]) ?_ ?_ ?_
    · simp [o_enum]
    · rintro pre i post ρ S' e ⟨rfl, o3, o4, rfl⟩
      have hi : i < b.length := by
        have : i ∈ List.range b.length := by rw [e]; simp
        simpa using this
      have ef := atL (P := P) (fun k => spec_fits k n ts (b.take i) (gat b i) S' hw) (show 2 ≤ K by omega)
      simp [inR_nat (show i < ll.length by omega), hb.mem i hi, hb.fit i hi, ef, cut_take]
    · rintro ρ S' ⟨rfl, o3, o4, rfl⟩
      simp [e2]
end Pf
end

section 
set_option Elab.async false
set_option linter.all false
set_option maxRecDepth 100000
set_option maxHeartbeats 1000000
/-! PwP: things of any kind: what the small defs of the program say of them; calls that end in an exception. -/
namespace Pf
open Enc (enc dep)
mutual
/-- data: no names of the store, no exceptions, no script -/
def D.th : D → Bool
  | .tup xs => D.thL xs
  | .lst xs => D.thL xs
  | .dic _ ks vs => D.thL ks && D.thL vs
  | .ref _ => false
  | .exc _ _ => false
  | .scr _ => false
  | _ => true
def D.thL : List D → Bool
  | [] => true
  | x :: xs => D.th x && D.thL xs
end
theorem thL_iff : ∀ {xs : List D}, D.thL xs = true ↔ ∀ x ∈ xs, x.th = true
  | [] => by simp [D.thL]
  | x :: xs => by simp [D.thL, thL_iff (xs := xs)]
mutual
theorem D.th_pure : ∀ {d : D}, d.th = true → d.pure = true
  | .non, _ => rfl
  | .bl _, _ => rfl
  | .int _, _ => rfl
  | .str _, _ => rfl
  | .tup xs, h => by simp only [D.pure]; exact D.thL_pure (by simpa [D.th] using h)
  | .lst xs, h => by simp only [D.pure]; exact D.thL_pure (by simpa [D.th] using h)
  | .dic _ ks vs, h => by simp only [D.th, Bool.and_eq_true] at h; simp only [D.pure, Bool.and_eq_true]; exact ⟨D.thL_pure h.1, D.thL_pure h.2⟩
  | .ref _, h => by simp [D.th] at h
  | .exc _ _, h => by simp [D.th] at h
  | .scr _, h => by simp [D.th] at h
theorem D.thL_pure : ∀ {ds : List D}, D.thL ds = true → D.pureL ds = true
  | [], _ => rfl
  | x :: xs, h => by simp only [D.thL, Bool.and_eq_true] at h; simp only [D.pureL, Bool.and_eq_true]; exact ⟨D.th_pure h.1, D.thL_pure h.2⟩
end
theorem th_res {d : D} (h : d.th = true) (S : Sto) : res S d = d := by cases d <;> first | rfl | simp [D.th] at h
def tyD (t : Ty) : D → Bool
  | .int _ => decide (t = .int)
  | .bl _ => decide (t = .bool) || decide (t = .int)
  | .str _ => decide (t = .str)
  | .tup _ => decide (t = .tuple)
  | .dic _ _ _ => decide (t = .dict)
  | _ => false
theorem isTy_th {d : D} (h : d.th = true) (S : Sto) (t : Ty) : isTy S t d = some (tyD t d) := by cases d <;> first | rfl | simp [D.th] at h
/-! ### ends in an exception -/
section
variable {P : Nat → Def} {k f np ns : Nat} {args : List D} {S : Sto} {body : List Stm} {keep : Bool}
theorem run_ex {c : Nat} (hP : P f = ⟨np, ns, keep, body⟩) (hn : args.length = np)
    (h : XS (run P k) body (args.map some ++ List.replicate (ns - np) none) S ⟨fun _ _ => False, fun _ _ => False, fun _ _ => False, fun _ _ => False, fun c' x _ S' => c' = c ∧ x = .non ∧ ∃ T, S' = S ++ T⟩ ⟨⟩) :
    run P (k + 1) f args S = .exn c .non S := by
  rw [run_succ, hP]
  unfold callD
  rw [if_pos hn]
  rw [XS_def] at h
  cases q : execs (run P k) body (args.map some ++ List.replicate (ns - np) none) S with
  | ex c' x ρ S' =>
    rw [q] at h
    obtain ⟨rfl, rfl, T, rfl⟩ := h
    simp only [fin]
    rw [if_pos ⟨Kept.ext S T, rfl⟩, List.take_left]
  | nx ρ S' => rw [q] at h; exact h.elim
  | rt d S' => rw [q] at h; exact h.elim
  | bk ρ S' => rw [q] at h; exact h.elim
  | ct ρ S' => rw [q] at h; exact h.elim
  | stuck => rw [q] at h; exact h.elim
end
theorem o_lenTup (S : Sto) (xs : List D) : biOp S .len [.tup xs] = some (.int xs.length) := rfl
/-! ### walks over lists of the store -/
theorem compL_G {f : D → Sto → Out (Option D)} {w : Wk} {S : Sto} {α : Type} {e : α → D} {p : α → Bool} {g : α → D} (hw : w.ok S) : ∀ l : List α, (∀ a ∈ l, f (e a) S = .ok (if p a = true then some (g a) else none) S) → compL f w (l.map e) S = .ok ((l.filter p).map g) S
  | [], _ => by simp [compL, hw]
  | a :: l, h => by
    have ih := compL_G (f := f) (e := e) (p := p) (g := g) hw l fun b hb => h b (by simp [hb])
    simp only [List.map_cons, compL, hw, if_true, h a (by simp), ih, Out.ok_bind]
    by_cases q : p a = true <;> simp [q]
section
variable {Φ : Fn} {ρ : Env} {S : Sto} {Q : Qd} {X : Xd} {t : Tok2 Q X} {α β : Type} [Enc β]
theorem W_compG {elt : Exp} {tg : Tgt} {it : Itr} {c : Option Exp} (l : List α) (e : α → D) (w : Wk) (p : α → Bool) (g : α → D) (hx : w.xs = l.map e) (hw : w.ok S)
    (hi : WI Φ it ρ S (fun w' S1 => w' = w ∧ S1 = S) noX ⟨⟩)
    (hb : ∀ a ∈ l, putP (tg.put (e a) (wipe ρ tg.own)) (fun ρ' => WC Φ c ρ' S (fun b S2 => b = p a ∧ S2 = S ∧ (p a = true → W Φ elt ρ' S (fun d S3 => d = g a ∧ S3 = S) noX ⟨⟩)) noX ⟨⟩) ⟨⟩)
    (hq : Q (.lst ((l.filter p).map g)) S) : W Φ (.comp elt tg it c) ρ S Q X t := by
  rw [W_def, ev_comp]
  unfold compS
  rw [WI_def] at hi
  rw [OP_eq hi, Out.ok_bind, hx]
  have key : compL (compB tg (evc Φ c) (ev Φ elt) ρ) w (l.map e) S = .ok ((l.filter p).map g) S := by
    refine compL_G hw l fun a ha => ?_
    have := hb a ha
    unfold compB
    cases q : tg.put (e a) (wipe ρ tg.own) with
    | none => rw [q] at this; exact this.elim
    | some ρ' =>
      rw [q] at this
      simp only [putP_some, WC_def] at this
      cases q2 : evc Φ c ρ' S with
      | stuck => rw [q2] at this; exact this.elim
      | exn k x S1 => rw [q2] at this; exact this.elim
      | ok b S2 =>
        rw [q2] at this
        simp only [OP_ok] at this
        obtain ⟨rfl, rfl, h⟩ := this
        simp only [Out.ok_bind]
        by_cases qp : p a = true
        · have h := h qp
          rw [W_def] at h
          simp only [q2, qp, if_true, OP_eq h, Out.ok_bind]
        · simp [q2, qp]
  rw [key, Out.ok_bind, OP_ok]
  exact hq
theorem WfG {elt : Exp} {tg : Tgt} {it : Itr} {c : Option Exp} (l : List α) (e : α → D) (w : Wk) (p : α → Bool) (g : α → β) (hx : w.xs = l.map e) (hw : w.ok S)
    (hi : WI Φ it ρ S (fun w' S1 => w' = w ∧ S1 = S) noX ⟨⟩)
    (hb : ∀ a ∈ l, putP (tg.put (e a) (wipe ρ tg.own)) (fun ρ' => WC Φ c ρ' S (fun b S2 => b = p a ∧ S2 = S ∧ (p a = true → W Φ elt ρ' S (fun d S3 => d = enc (g a) ∧ S3 = S) noX ⟨⟩)) noX ⟨⟩) ⟨⟩)
    (hq : Q (ls ((l.filter p).map g)) S) : W Φ (.comp elt tg it c) ρ S Q X t :=
  W_compG l e w p (fun a => enc (g a)) hx hw hi hb (by rw [ls_map]; exact hq)
theorem WmG {elt : Exp} {tg : Tgt} {it : Itr} (l : List α) (e : α → D) (w : Wk) (g : α → β) (hx : w.xs = l.map e) (hw : w.ok S)
    (hi : WI Φ it ρ S (fun w' S1 => w' = w ∧ S1 = S) noX ⟨⟩)
    (hb : ∀ a ∈ l, putP (tg.put (e a) (wipe ρ tg.own)) (fun ρ' => W Φ elt ρ' S (fun d S3 => d = enc (g a) ∧ S3 = S) noX ⟨⟩) ⟨⟩)
    (hq : Q (ls (l.map g)) S) : W Φ (.comp elt tg it none) ρ S Q X t := by
  refine WfG l e w (fun _ => true) g hx hw hi (fun a ha => ?_) (by rw [List.filter_eq_self.mpr (fun _ _ => rfl)]; exact hq)
  have := hb a ha
  cases q : tg.put (e a) (wipe ρ tg.own) with
  | none => rw [q] at this; exact this.elim
  | some ρ' =>
    rw [q] at this
    simp only [putP_some, WC_none] at this ⊢
    exact ⟨trivial, trivial, fun _ => this⟩
end
theorem put_OL {α : Type} [Enc α] {S : Sto} {n : Nat} {l : List α} (hS : S[n]? = some (OL l)) (i : Nat) (x : α) (h : i < l.length) : putOp S (.ref n) (.int (i : Int)) (enc x) = some (S.set n (OL (l.set i x))) := by
  simp only [putOp, hS, OL, List.length_map]
  have e : ixOf l.length (i : Int) = some i := by
    unfold ixOf
    rw [if_pos (by omega), if_pos (by omega)]
    simp
  rw [e]
  simp [List.map_set]
theorem map_range_set {α : Type} (n i : Nat) (f : Nat → α) (v : α) : ((List.range n).map f).set i v = (List.range n).map fun j => if j = i then v else f j := by
  refine List.ext_getElem? fun j => ?_
  rw [List.getElem?_set, List.getElem?_map, List.getElem?_map]
  by_cases hj : j < n
  · rw [List.getElem?_range hj]
    by_cases q : i = j
    · subst q; simp [hj]
    · rw [if_neg q]; simp [show ¬ j = i from fun z => q z.symm]
  · rw [List.getElem?_eq_none (by simpa using hj)]
    by_cases q : i = j
    · subst q; simp [hj]
    · rw [if_neg q]; rfl
/-! ### what is a web, lists -/
def upD (lo hi : Int) : D → Bool
  | .int i => decide (lo ≤ i ∧ i ≤ hi)
  | _ => false
def tieD (n : Int) : D → Bool
  | .tup [.int a, .int b] => decide (0 ≤ a ∧ a < b ∧ b < n)
  | _ => false
def ltP (p q : Int × Int) : Bool := decide (p.1 < q.1 ∨ (p.1 = q.1 ∧ p.2 < q.2))
/-- each less than the next -/
def chB {α : Type} (r : α → α → Bool) : List α → Bool
  | a :: b :: l => r a b && chB r (b :: l)
  | _ => true
def webQ : D → Bool
  | .tup [.int n, .tup ts] => decide (1 ≤ n ∧ n ≤ 6) && ts.all (tieD n) && chB ltP ((allOf pairOf ts).getD [])
  | _ => false
def listQ : D → Bool
  | .tup xs => decide (xs.length ≤ 8) && xs.all (upD 0 99) && chB (fun a b => decide (a < b)) ((allOf intOf xs).getD [])
  | _ => false
def listsQ (n : Int) : D → Bool
  | .tup ls => decide ((ls.length : Int) = n) && ls.all listQ
  | _ => false
def sizesQ (n : Int) : D → Bool
  | .tup xs => decide ((xs.length : Int) = n) && xs.all (upD 0 8)
  | _ => false
variable {P : Nat → Def} [Base P]
theorem spec_uptoD (k : Nat) {d : D} (hd : d.th = true) (lo hi : Int) (S : Sto) : run P (k + 1) F_is_upto [d, .int lo, .int hi] S = .ok (.bl (upD lo hi d)) S := by
  cases d with
  | int i => exact spec_upto k i lo hi S
  | ref i => simp [D.th] at hd
  | exc c x => simp [D.th] at hd
  | scr ns => simp [D.th] at hd
  | bl b =>
    refine run_ok b_is_upto rfl rfl ?_
    simp [isTy, res, upD]
  | _ =>
    refine run_ok b_is_upto rfl rfl ?_
    simp [isTy, res, upD]
theorem chB_range {α : Type} [Inhabited α] (r : α → α → Bool) : ∀ (l : List α) (h : l.length < 1000), ((List.range' 1 (l.length - 1)).map fun (a : Nat) => r (gat l ((a : Int) - 1)) (gat l a)).all id = chB r l
  | [], _ => rfl
  | [a], _ => rfl
  | a :: b :: l, h => by
    have ih := chB_range r (b :: l) (by simp at h ⊢; omega)
    have e : (a :: b :: l).length - 1 = (b :: l).length - 1 + 1 := by simp
    rw [e, List.range'_succ, List.map_cons, List.all_cons]
    simp only [chB]
    rw [← ih]
    congr 1
    · simp [gat_nat, show gat (a :: b :: l) 1 = b from by rw [show (1 : Int) = ((1 : Nat) : Int) from rfl, gat_nat]; rfl]
    rw [List.range'_eq_map_range, List.range'_eq_map_range, List.map_map, List.map_map, List.all_map, List.all_map]
    refine List.all_congr rfl fun x => ?_
    simp only [Function.comp, id]
    rw [show ((1 + 1 + x : Nat) : Int) - 1 = ((1 + x : Nat) : Int) by omega, show ((1 + x : Nat) : Int) - 1 = ((x : Nat) : Int) by omega]
    rw [gat_nat, gat_nat, gat_nat, gat_nat, show 1 + 1 + x = x + 1 + 1 by omega, show 1 + x = x + 1 by omega]
    simp
theorem spec_risesB (k : Nat) (l : List Int) (S : Sto) (hl : l.length < 1000) : run P (k + 1) F_rises [tu l] S = .ok (.bl (chB (fun a b => decide (a < b)) l)) S := by
  refine run_ok b_rises rfl rfl ?_
  simp
  refine Wm (List.range' 1 (l.length - 1)) enc (fun (a : Nat) => decide (gat l ((a : Int) - 1) < gat l a)) ?_ ?_ ?_
  · simp [hl]
  · intro a ha
    rw [List.mem_range'_1] at ha
    simp
    exact ⟨⟨by omega, by omega⟩, inR_nat (by omega)⟩
  · have := chB_range (fun (a b : Int) => decide (a < b)) l hl
    simp [this]
theorem lt_pair (S : Sto) (p q : Int × Int) : cmpOp S .lt (pairD p) (pairD q) = some (ltP p q) := by
  show some (lexLt [p.1, p.2] [q.1, q.2]) = _
  simp only [lexLt, ltP]
  congr 1
  by_cases h : p.1 = q.1
  · by_cases h2 : p.2 = q.2
    · simp [h, h2]
    · simp [h, h2]
  · simp [h]
theorem spec_risesPB (k : Nat) (l : List (Int × Int)) (S : Sto) (hl : l.length < 1000) : run P (k + 1) F_rises [tu l] S = .ok (.bl (chB ltP l)) S := by
  refine run_ok b_rises rfl rfl ?_
  simp
  refine Wm (List.range' 1 (l.length - 1)) enc (fun (a : Nat) => ltP (gat l ((a : Int) - 1)) (gat l a)) ?_ ?_ ?_
  · simp [hl]
  · intro a ha
    rw [List.mem_range'_1] at ha
    simp [lt_pair]
    exact ⟨⟨by omega, by omega⟩, inR_nat (by omega)⟩
  · have := chB_range ltP l hl
    simp [this]
/-! ### typed data, of which the things are -/
theorem all_up {lo hi : Int} : ∀ {xs : List D}, xs.all (upD lo hi) = true → ∃ l : List Int, xs = l.map D.int ∧ allOf intOf xs = some l ∧ ∀ x ∈ l, lo ≤ x ∧ x ≤ hi
  | [], _ => ⟨[], rfl, rfl, by simp⟩
  | x :: xs, h => by
    rw [List.all_cons, Bool.and_eq_true] at h
    obtain ⟨l, rfl, e, hr⟩ := all_up h.2
    cases x with
    | int i =>
      have hi : lo ≤ i ∧ i ≤ hi := by simpa [upD] using h.1
      exact ⟨i :: l, rfl, by simp only [List.map_cons, allOf, intOf] at e ⊢; rw [e], by simp; exact ⟨hi, hr⟩⟩
    | _ => simp [upD] at h
theorem all_tie {n : Int} : ∀ {xs : List D}, xs.all (tieD n) = true → ∃ l : List (Int × Int), xs = l.map pairD ∧ allOf pairOf xs = some l ∧ ∀ p ∈ l, 0 ≤ p.1 ∧ p.1 < p.2 ∧ p.2 < n
  | [], _ => ⟨[], rfl, rfl, by simp⟩
  | x :: xs, h => by
    rw [List.all_cons, Bool.and_eq_true] at h
    obtain ⟨l, rfl, e, hr⟩ := all_tie h.2
    obtain ⟨a, b, rfl, hab⟩ : ∃ a b, x = .tup [.int a, .int b] ∧ 0 ≤ a ∧ a < b ∧ b < n := by
      have h := h.1
      unfold tieD at h
      split at h
      · exact ⟨_, _, rfl, by simpa using h⟩
      · cases h
    refine ⟨(a, b) :: l, rfl, ?_, by simp; exact ⟨hab, fun x y h => hr (x, y) h⟩⟩
    simp only [List.map_cons, allOf, pairOf]
    rw [e]
theorem spec_tieD (k : Nat) {d : D} (hd : d.th = true) (n : Int) (S : Sto) : run P (k + 2) F_is_tie [d, .int n] S = .ok (.bl (tieD n d)) S := by
  refine run_ok b_is_tie rfl rfl ?_
  cases d with
  | tup xs =>
    by_cases h2 : xs.length = 2
    · obtain ⟨x, y, rfl⟩ : ∃ x y, xs = [x, y] := by
        match xs, h2 with
        | [x, y], _ => exact ⟨x, y, rfl⟩
      simp only [D.th, D.thL, Bool.and_true, Bool.and_eq_true] at hd
      simp [isTy, res]
      refine Wm [x, y] id (upD 0 (n - 1)) ?_ ?_ ?_
      · simp [walkOf]
      · intro a ha
        have ht : a.th = true := by
          simp at ha
          rcases ha with rfl | rfl
          · exact hd.1
          · exact hd.2
        simp [spec_uptoD (P := P) k ht]
      · simp
        by_cases hx : upD 0 (n - 1) x = true
        · by_cases hy : upD 0 (n - 1) y = true
          · cases x <;> simp only [upD, Bool.false_eq_true, decide_eq_true_eq] at hx
            cases y <;> simp only [upD, Bool.false_eq_true, decide_eq_true_eq] at hy
            rename_i i j
            simp [upD, hx, hy, tieD]
            omega
          · have e : tieD n (.tup [x, y]) = false := by
              unfold tieD
              split
              · rename_i a b e
                simp at e
                obtain ⟨rfl, rfl⟩ := e
                simp [upD] at hx hy
                simp
                omega
              · rfl
            simp [hx, hy, e]
        · have e : tieD n (.tup [x, y]) = false := by
            unfold tieD
            split
            · rename_i a b e
              simp at e
              obtain ⟨rfl, rfl⟩ := e
              simp [upD] at hx
              simp
              omega
            · rfl
          simp [hx, e]
    · have e : tieD n (.tup xs) = false := by
        unfold tieD
        split
        · rename_i e; cases e; simp at h2
        · rfl
      have h3 : ¬ (xs.length : Int) = 2 := by omega
      simp [isTy, res, o_lenTup, h3, e]
  | ref i => simp [D.th] at hd
  | exc c x => simp [D.th] at hd
  | scr ns => simp [D.th] at hd
  | _ => simp [isTy, res, tieD]
theorem spec_webD (k : Nat) {d : D} (hd : d.th = true) (hl : ∀ n ts, d = .tup [n, .tup ts] → ts.length < 1000) (S : Sto) : run P (k + 3) F_is_web [d] S = .ok (.bl (webQ d)) S := by
  refine run_ok b_is_web rfl rfl ?_
  cases d with
  | tup xs =>
    by_cases h2 : xs.length = 2
    · obtain ⟨x, y, rfl⟩ : ∃ x y, xs = [x, y] := by
        match xs, h2 with
        | [x, y], _ => exact ⟨x, y, rfl⟩
      simp only [D.th, D.thL, Bool.and_true, Bool.and_eq_true] at hd
      by_cases hx : upD 1 6 x = true
      · cases x <;> simp only [upD, Bool.false_eq_true, decide_eq_true_eq] at hx
        rename_i n
        cases y with
        | tup ts =>
          have hts := thL_iff.mp (show D.thL ts = true by simpa [D.th] using hd.2)
          have h1000 := hl _ _ rfl
          simp [isTy, res, spec_upto, hx]
          refine Wm ts id (tieD n) ?_ ?_ ?_
          · simp [walkOf]
          · intro a ha
            simp [spec_tieD (P := P) k (hts a ha)]
          · by_cases ht : ts.all (tieD n) = true
            · obtain ⟨l, rfl, e, hr⟩ := all_tie ht
              have e2 := spec_risesPB (P := P) (k + 1) l S (by simpa using h1000)
              have e3 : run P (k + 2) F_rises [.tup (l.map pairD)] S = .ok (.bl (chB ltP l)) S := e2
              have e4 : (l.map pairD).all (tieD n) = true := ht
              rw [List.all_map] at e4
              have e5 : webQ (.tup [.int n, .tup (l.map pairD)]) = chB ltP l := by simp [webQ, hx, e, ht]
              rw [e5]
              simp [e3, e4]
            · have e4 : ts.all (tieD n) = false := by simpa using ht
              simp [e4, webQ]
        | ref i => simp [D.th] at hd
        | exc c x => simp [D.th] at hd
        | scr ns => simp [D.th] at hd
        | _ => simp [isTy, res, spec_upto, hx, webQ]
      · have e : webQ (.tup [x, y]) = false := by
          unfold webQ
          split
          · rename_i a b e
            simp at e
            obtain ⟨rfl, rfl⟩ := e
            simp [upD] at hx
            simp
            intro z1 z2
            omega
          · rfl
        simp [isTy, res, spec_uptoD (P := P) (k + 1) hd.1, hx, e]
    · have e : webQ (.tup xs) = false := by
        unfold webQ
        split
        · rename_i e; cases e; simp at h2
        · rfl
      have h3 : ¬ (xs.length : Int) = 2 := by omega
      simp [isTy, res, o_lenTup, h3, e]
  | ref i => simp [D.th] at hd
  | exc c x => simp [D.th] at hd
  | scr ns => simp [D.th] at hd
  | _ => simp [isTy, res, webQ]
/-- ties are few enough -/
def fewD : D → Bool
  | .tup [_, .tup ts] => decide (ts.length < 1000)
  | _ => true
theorem fewD_at {d : D} (h : fewD d = true) : ∀ n ts, d = .tup [n, .tup ts] → ts.length < 1000 := by
  rintro n ts rfl
  simpa [fewD] using h
theorem spec_need_webD (k : Nat) {d : D} (hd : d.th = true) (hl : fewD d = true) (S : Sto) : run P (k + 4) F_need_web [d] S = if webQ d = true then .ok .non S else .exn 1 .non S := by
  have e := spec_webD (P := P) k hd (fewD_at hl) S
  by_cases h : webQ d = true
  · rw [if_pos h]
    refine run_ok b_need_web rfl rfl ?_
    simp [e, h]
  · rw [if_neg h]
    refine run_ex b_need_web rfl ?_
    simp [e, h]
theorem spec_listD (k : Nat) {d : D} (hd : d.th = true) (S : Sto) : run P (k + 2) F_is_list [d] S = .ok (.bl (listQ d)) S := by
  refine run_ok b_is_list rfl rfl ?_
  cases d with
  | tup xs =>
    have hts := thL_iff.mp (show D.thL xs = true by simpa [D.th] using hd)
    by_cases h8 : xs.length ≤ 8
    · have h9 : ¬ (8 : Int) < xs.length := by omega
      simp [isTy, res, o_lenTup, h9]
      refine Wm xs id (upD 0 99) ?_ ?_ ?_
      · simp [walkOf]
      · intro a ha
        simp [spec_uptoD (P := P) k (hts a ha)]
      · by_cases ht : xs.all (upD 0 99) = true
        · obtain ⟨l, rfl, e, hr⟩ := all_up ht
          have e2 := spec_risesB (P := P) k l S (by simp at h8; omega)
          have e3 : run P (k + 1) F_rises [.tup (l.map D.int)] S = .ok (.bl (chB (fun a b => decide (a < b)) l)) S := e2
          have e4 : (l.map D.int).all (upD 0 99) = true := ht
          rw [List.all_map] at e4
          have e5 : listQ (.tup (l.map D.int)) = chB (fun a b => decide (a < b)) l := by simp only [listQ, e, ht, h8]; simp
          rw [e5]
          simp [e3, e4]
        · have e4 : xs.all (upD 0 99) = false := by simpa using ht
          simp [e4, listQ]
    · have h9 : (8 : Int) < xs.length := by omega
      simp [isTy, res, o_lenTup, h9, listQ, h8]
  | ref i => simp [D.th] at hd
  | exc c x => simp [D.th] at hd
  | scr ns => simp [D.th] at hd
  | _ => simp [isTy, res, listQ]
theorem spec_are_listsD (k : Nat) {d : D} (hd : d.th = true) (n : Int) (ts : List (Int × Int)) (S : Sto) : run P (k + 3) F_are_lists_of [d, webD n ts] S = .ok (.bl (listsQ n d)) S := by
  refine run_ok b_are_lists_of rfl rfl ?_
  cases d with
  | tup xs =>
    have hts := thL_iff.mp (show D.thL xs = true by simpa [D.th] using hd)
    by_cases h : (xs.length : Int) = n
    · simp [isTy, res, o_lenTup, h]
      refine Wm xs id listQ ?_ ?_ ?_
      · simp [walkOf]
      · intro a ha
        simp [spec_listD (P := P) k (hts a ha)]
      · simp [listsQ, h]
    · simp [isTy, res, o_lenTup, h, listsQ]
  | ref i => simp [D.th] at hd
  | exc c x => simp [D.th] at hd
  | scr ns => simp [D.th] at hd
  | _ => simp [isTy, res, listsQ]
end Pf
end

section 
set_option Elab.async false
set_option linter.all false
set_option maxRecDepth 100000
set_option maxHeartbeats 1000000
namespace Lk63
open Pf
open Enc (enc dep)
/-! ### the steps -/
def ones (n : Nat) (ll : List (List Int)) (dn : List Int) : List Int := (pl n).filter fun p => decide (((gat ll p).length : Int) = 1) && !decide (p ∈ dn)
def tkA (ts : List (Int × Int)) (ll : List (List Int)) (p h : Int) (i : Nat) : List Int := if (i : Int) = p then [h] else if (i : Int) ∈ near ts p then (gat ll i).filter fun o => !decide (o = h) else gat ll i
def tk (ts : List (Int × Int)) (ll : List (List Int)) (p h : Int) : List (List Int) := (List.range ll.length).map (tkA ts ll p h)
inductive Go (n : Nat) (ts : List (Int × Int)) : List (Int × Int) → List (List Int) → List (Int × Int) × List (List Int) → Prop
  | bare {st ll} : [] ∈ ll → Go n ts st ll (st, ll)
  | stop {st ll} : [] ∉ ll → ones n ll (st.map Prod.fst) = [] → Go n ts st ll (st, ll)
  | step {st ll p r z} : [] ∉ ll → ones n ll (st.map Prod.fst) = p :: r → Go n ts (st ++ [(p, gat (gat ll p) 0)]) (tk ts ll p (gat (gat ll p) 0)) z → Go n ts st ll z
theorem Go.det {n : Nat} {ts st ll r} (h : Go n ts st ll r) : ∀ {r'}, Go n ts st ll r' → r = r' := by
  induction h with
  | bare h => intro r' h'; cases h' with
    | bare => rfl
    | stop h2 => exact absurd h h2
    | step h2 => exact absurd h h2
  | stop h1 h2 => intro r' h'; cases h' with
    | bare h3 => exact absurd h3 h1
    | stop => rfl
    | step _ h3 => rw [h2] at h3; cases h3
  | step h1 h2 _ ih => intro r' h'; cases h' with
    | bare h3 => exact absurd h3 h1
    | stop _ h3 => rw [h2] at h3; cases h3
    | step _ h3 h4 => rw [h2] at h3; cases h3; exact ih h4
def left (n : Nat) (dn : List Int) : List Int := (pl n).filter fun p => !decide (p ∈ dn)
theorem left_less {n : Nat} {dn : List Int} {p : Int} (h1 : p ∈ pl n) (h2 : p ∉ dn) : (left n (dn ++ [p])).length < (left n dn).length := by
  have e : left n (dn ++ [p]) = (left n dn).filter fun q => !decide (q = p) := by
    unfold left
    rw [List.filter_filter]
    congr 1
    funext q
    by_cases z : q ∈ dn <;> by_cases z2 : q = p <;> simp [z, z2]
  rw [e]
  have hm : p ∈ left n dn := List.mem_filter.mpr ⟨h1, by simp [h2]⟩
  rw [← List.countP_eq_length_filter]
  have := List.countP_le_length (p := fun q => !decide (q = p)) (l := left n dn)
  rcases Nat.lt_or_eq_of_le this with z | z
  · exact z
  · rw [List.countP_eq_length] at z
    have := z p hm
    simp at this
theorem enumL_gen {α : Type} [Enc α] [Inhabited α] : ∀ (j : Nat) (b : List α), enumL j (b.map enc) = (List.range b.length).map fun (i : Nat) => .tup [.int ((j + i : Nat) : Int), enc (gat b i)]
  | j, [] => rfl
  | j, a :: b => by
    simp only [List.map_cons, enumL, enumL_gen (j + 1) b, List.length_cons, List.range_succ_eq_map, List.map_map]
    congr 1
    · simp
    · refine List.map_congr_left fun i _ => ?_
      simp only [Function.comp]
      rw [gat_nat, gat_nat]
      simp
      omega
theorem o_enumT {α : Type} [Enc α] [Inhabited α] (S : Sto) (b : List α) : walkEnum S (tu b) = some ⟨(List.range b.length).map fun (i : Nat) => .tup [.int (i : Int), enc (gat b i)], none⟩ := by
  show some (Wk.mk (enumL 0 (b.map enc)) none) = _
  rw [enumL_gen]
  simp
theorem spec_near (k : Nat) (n : Int) (ts : List (Int × Int)) (p : Int) (S : Sto) : run prog (k + 1) F__law_near [webD n ts, .int p] S = .ok (ls (near ts p)) S := by
  refine run_ok b__law_near rfl (by simp) ?_
  simp
  refine Wf ts enc (fun t => decide (p = t.1 ∨ p = t.2)) (fun t => t.1 + t.2 - p) ?_ ?_ ?_
  · simp
  · intro a ha
    simp
  · simp [near]
theorem spec_taken (k : Nat) (n : Nat) (ts : List (Int × Int)) (ll : List (List Int)) (p h : Int) (S : Sto) (hw : Web n ts) (hl : ll.length ≤ 100) : run prog (k + 2) F_taken_by [webD n ts, tu ll, .int p, .int h] S = .ok (tu (tk ts ll p h)) S := by
  refine run_ok b_taken_by rfl (by simp) ?_
  simp
  refine XS_for (List.range ll.length) (fun (i : Nat) => .tup [.int (i : Int), tu (gat ll i)]) (fun pre ρ S' => S' = S ++ [OL (pre.map (tkA ts ll p h))] ∧ ∃ o5 o6 : Option D, ρ = [some (webD n ts), some (tu ll), some (.int p), some (.int h), some (.ref S.length), o5, o6, none]) ?_ ?_ ?_
  · simp [o_enumT]
    rfl
  · rintro pre a post ρ S' e ⟨rfl, o5, o6, rfl⟩
    have hp : pre.length < 1000 := by
      have := congrArg List.length e
      simp at this
      omega
    simp [Tgt.put, tupOf, setL]
    have hpb : pre.length < big := lt_big' (by omega)
    have et := spec_tied_to (P := prog) k n p ts (S ++ [OL (pre.map (tkA ts ll p h))])
    by_cases q : (a : Int) = p
    · have e1 : D.tup [.int h] = tu [h] := rfl
      simp [q, e1, hpb, tkA]
    · by_cases q2 : (a : Int) ∈ near ts p
      · simp [q, q2, et, mem_sortI]
        refine Wf (gat ll a) enc (fun o => !decide (o = h)) id ?_ ?_ ?_
        · simp
        · intro o ho
          simp
        · simp [hpb, tkA, q, q2]
      · simp [q, q2, et, mem_sortI, hpb, tkA]
  · rintro ρ S' ⟨rfl, o5, o6, rfl⟩
    simp [tk]
/-! ### what was made is handed back and lives on -/
theorem run_keepT {P : Nat → Def} {k f np ns : Nat} {args : List D} {S : Sto} {body : List Stm} {o : O} {rest : List D} (hP : P f = ⟨np, ns, true, body⟩) (hn : args.length = np) (ho : o.lo S.length = true) (hr : D.loL S.length rest = true)
    (h : XS (run P k) body (args.map some ++ List.replicate (ns - np) none) S ⟨fun _ _ => False, fun d S' => ∃ i T, d = .tup (.ref (S.length + i) :: rest) ∧ S' = S ++ T ∧ T[i]? = some o, fun _ _ => False, fun _ _ => False, fun _ _ _ _ => False⟩ ⟨⟩) :
    run P (k + 1) f args S = .ok (.tup (.ref S.length :: rest)) (S ++ [o]) := by
  rw [run_succ, hP]
  unfold callD
  rw [if_pos hn]
  rw [XS_def] at h
  cases q : execs (run P k) body (args.map some ++ List.replicate (ns - np) none) S with
  | rt d S' =>
    rw [q] at h
    obtain ⟨i, T, rfl, rfl, hT⟩ := h
    have e : (S ++ T)[S.length + i]? = some o := by rw [List.getElem?_append_right (by omega)]; simpa using hT
    show (if true = true then finK S (.tup (.ref (S.length + i) :: rest)) (S ++ T) else finV S (.tup (.ref (S.length + i) :: rest)) (S ++ T)) = _
    rw [if_pos rfl]
    simp only [finK, e]
    rw [if_pos ⟨Kept.ext S T, by omega, ho, hr⟩, List.take_left]
  | nx ρ S' => rw [q] at h; exact h.elim
  | bk ρ S' => rw [q] at h; exact h.elim
  | ct ρ S' => rw [q] at h; exact h.elim
  | ex c x ρ S' => rw [q] at h; exact h.elim
  | stuck => rw [q] at h; exact h.elim
theorem lo_OL {α : Type} [Enc α] (n : Nat) (l : List α) : (OL l).lo n = true := pure_loL n (pureL_map l)
theorem gat_last (l : List (Int × Int)) (p : Int × Int) : gat (l ++ [p]) (-1) = p := by
  unfold gat atOf ixOf
  simp
  rw [if_pos (by omega), show (-1 + ((l.length : Int) + 1)).toNat = l.length by omega]
  simp
theorem tk_len (ts : List (Int × Int)) (ll : List (List Int)) (p h : Int) : (tk ts ll p h).length = ll.length := by simp [tk]
theorem ones_mem {n : Nat} {ll : List (List Int)} {dn : List Int} {p : Int} {r : List Int} (h : ones n ll dn = p :: r) : p ∈ pl n ∧ ((gat ll p).length : Int) = 1 ∧ p ∉ dn := by
  have : p ∈ ones n ll dn := by rw [h]; simp
  unfold ones at this
  rw [List.mem_filter] at this
  simpa using this
/-- what holds all along -/
structure Fit (n : Nat) (st : List (Int × Int)) (ll : List (List Int)) : Prop where
  len : ll.length = n
  few : n ≤ 6
  lst : ∀ l ∈ ll, l.length ≤ 8 ∧ ∀ h ∈ l, 0 ≤ h ∧ h ≤ 99
  stp : ∀ q ∈ st, (0 ≤ q.1 ∧ q.1 < n) ∧ 0 ≤ q.2 ∧ q.2 ≤ 99
  lft : (left n (st.map Prod.fst)).length + st.length ≤ n
theorem gat1 {l : List Int} (h : (l.length : Int) = 1) : l = [gat l 0] := by
  match l, h with
  | [a], _ => simp
  | [], h => simp at h
  | a :: b :: l, h => simp at h; omega
theorem Fit.at {n : Nat} {st : List (Int × Int)} {ll : List (List Int)} (f : Fit n st ll) {i : Int} (h : 0 ≤ i ∧ i < n) : gat ll i ∈ ll := gat_mem ll i (inR_pos h.1 (by rw [f.len]; exact h.2))
theorem Fit.next {n : Nat} {ts st : List (Int × Int)} {ll : List (List Int)} {p : Int} {r : List Int} (f : Fit n st ll) (h : ones n ll (st.map Prod.fst) = p :: r) : Fit n (st ++ [(p, gat (gat ll p) 0)]) (tk ts ll p (gat (gat ll p) 0)) := by
  obtain ⟨h1, h2, h3⟩ := ones_mem h
  have hp := pl_mem h1
  have hg := f.lst _ (f.at hp)
  have hh : 0 ≤ gat (gat ll p) 0 ∧ gat (gat ll p) 0 ≤ 99 := hg.2 _ (by have := gat1 h2; rw [this]; simp)
  refine ⟨by rw [tk_len]; exact f.len, f.few, fun l hl => ?_, fun q hq => ?_, ?_⟩
  · unfold tk at hl
    rw [List.mem_map] at hl
    obtain ⟨i, hi, rfl⟩ := hl
    rw [List.mem_range] at hi
    have hgi := f.lst _ (f.at (i := (i : Int)) ⟨by omega, by have := f.len; omega⟩)
    unfold tkA
    split
    · exact ⟨by simp, by simpa using hh⟩
    · split
      · exact ⟨Nat.le_trans (List.length_filter_le _ _) hgi.1, fun h hm => hgi.2 h (List.mem_filter.mp hm).1⟩
      · exact hgi
  · rcases List.mem_append.mp hq with hq | hq
    · exact f.stp q hq
    · rw [List.mem_singleton.mp hq]; exact ⟨hp, hh⟩
  · have := f.lft
    have := left_less h1 h3
    simp at this ⊢
    omega
theorem Go.ex {n : Nat} {ts : List (Int × Int)} : ∀ (m : Nat) (st : List (Int × Int)) (ll : List (List Int)), (left n (st.map Prod.fst)).length ≤ m → ∃ r, Go n ts st ll r
  | m, st, ll, hm => by
    by_cases h0 : [] ∈ ll
    · exact ⟨_, .bare h0⟩
    · cases h1 : ones n ll (st.map Prod.fst) with
      | nil => exact ⟨_, .stop h0 h1⟩
      | cons p r =>
        obtain ⟨g1, g2, g3⟩ := ones_mem h1
        have hl := left_less g1 g3
        match m, hm with
        | 0, hm => omega
        | m + 1, hm =>
          obtain ⟨z, hz⟩ := Go.ex (n := n) (ts := ts) m (st ++ [(p, gat (gat ll p) 0)]) (tk ts ll p (gat (gat ll p) 0)) (by simp; omega)
          exact ⟨z, .step h0 h1 hz⟩
theorem Go.fit {n : Nat} {ts st : List (Int × Int)} {ll : List (List Int)} {r} (h : Go n ts st ll r) : Fit n st ll → Fit n r.1 r.2 := by
  induction h with
  | bare h => exact id
  | stop h1 h2 => exact id
  | step h1 h2 _ ih => exact fun f => ih (f.next h2)
theorem o_ones (n : Nat) (ll : List (List Int)) (dn : List Int) : ((List.range n).filter fun (a : Nat) => decide (((gat ll a).length : Int) = 1) && !decide ((a : Int) ∈ dn)).map (fun (a : Nat) => (a : Int)) = ones n ll dn := by
  unfold ones pl
  rw [List.filter_map]
  rfl
theorem spec_sure_of (k : Nat) (n : Nat) (ts : List (Int × Int)) (ll : List (List Int)) (S : Sto) (hw : Web n ts) (hf : Fit n [] ll) (r) (hr : Go n ts [] ll r) : run prog (k + 3) F_sure_of [webD n ts, tu ll] S = .ok (.tup [.ref S.length, tu r.2]) (S ++ [OL r.1]) := by
  refine run_keepT b_sure_of rfl (lo_OL _ _) (by simp [D.loL]; exact pure_lo _ (pure_tu _)) ?_
  simp
  refine XS_wh (fun m ρ S' => ∃ (st : List (Int × Int)) (l1 : List (List Int)) (o4 : Option D), m = (left n (st.map Prod.fst)).length ∧ Go n ts st l1 r ∧ Fit n st l1 ∧ S' = S ++ [OL st, OL (st.map Prod.fst)] ∧ ρ = [some (webD n ts), some (tu l1), some (.ref S.length), some (.ref (S.length + 1)), o4, none]) _ ⟨[], ll, none, rfl, hr, hf, rfl, rfl⟩ ?_
  rintro m ρ S' ⟨st, l1, o4, rfl, hg, hf, rfl, rfl⟩
  have h6 := hf.few
  by_cases h0 : [] ∈ l1
  · have e : r = (st, l1) := hg.det (.bare h0)
    subst e
    simp [h0]
  · simp [h0]
    refine Wf (List.range n) enc (fun (a : Nat) => decide (((gat l1 a).length : Int) = 1) && !decide ((a : Int) ∈ st.map Prod.fst)) (fun (a : Nat) => (a : Int)) ?_ ?_ ?_
    · simp [show n < 1000 by omega]
    · intro a ha
      have ra : inR l1.length (a : Int) := inR_nat (by rw [hf.len]; exact List.mem_range.mp ha)
      by_cases q : ((gat l1 a).length : Int) = 1
      · simp [ra, q]
      · simp [ra, q]
    · rw [o_ones]
      cases h1 : ones n l1 (st.map Prod.fst) with
      | nil =>
        have e : r = (st, l1) := hg.det (.stop h0 h1)
        subst e
        simp
      | cons p r' =>
        obtain ⟨g1, g2, g3⟩ := ones_mem h1
        have hp := pl_mem g1
        have rp : inR l1.length p := inR_pos hp.1 (by rw [hf.len]; exact hp.2)
        have r0 : inR (r'.length + 1) 0 := inR_pos (by omega) (by omega)
        have r1 : inR (gat l1 p).length 0 := inR_pos (by omega) (by omega)
        have hsb : st.length < big := lt_big' (by have := hf.lft; omega)
        have ep : ∀ h : Int, D.tup [.int p, .int h] = pairD (p, h) := fun h => rfl
        have hg' : Go n ts (st ++ [(p, gat (gat l1 p) 0)]) (tk ts l1 p (gat (gat l1 p) 0)) r := by
          cases hg with
          | bare h => exact absurd h h0
          | stop _ h => rw [h1] at h; cases h
          | step _ h2 h3 => rw [h1] at h2; cases h2; exact h3
        have et := spec_taken k n ts l1 p (gat (gat l1 p) 0) (S ++ [OL (st ++ [(p, gat (gat l1 p) 0)]), OL (st.map Prod.fst ++ [p])]) hw (by rw [hf.len]; omega)
        have rl : inR (st.length + 1) (-1) := ⟨by omega, by omega⟩
        simp [r0, hsb, rp, r1, ep, gat_last, rl, et]
        exact ⟨(left n ((st ++ [(p, gat (gat l1 p) 0)]).map Prod.fst)).length, by have := left_less g1 g3; simpa using this, st ++ [(p, gat (gat l1 p) 0)], rfl, tk ts l1 p (gat (gat l1 p) 0), hg', hf.next h1, by simp, rfl⟩
theorem fz_two (S : Sto) (st : List (Int × Int)) (l : List (List Int)) (T : Sto) : fz (S ++ OL st :: T) S.length (.tup [.ref S.length, tu l]) = .tup [ls st, tu l] := by
  simp [fz, fz1, OL, ls, tu]
def hereF (l1 : List (List Int)) (h : Int) (pre : List Int) (i : Nat) : List Int := if (i : Int) ∈ pre then (gat l1 i).filter fun o => !decide (o = h) else gat l1 i
theorem here_nil {n : Nat} {l1 : List (List Int)} {h : Int} (hl : l1.length = n) : (List.range n).map (hereF l1 h []) = l1 := by
  refine List.ext_getElem (by simp [hl]) fun i h1 h2 => ?_
  simp [hereF, gat_lt l1 i h2]
theorem gat_mapR {α : Type} [Inhabited α] {n j : Nat} (h : j < n) (f : Nat → α) : gat ((List.range n).map f) (j : Int) = f j := by
  rw [gat_nat]; simp [h]
theorem here_set {n j : Nat} {l1 : List (List Int)} {h : Int} {pre : List Int} : ((List.range n).map (hereF l1 h pre)).set j ((hereF l1 h pre j).filter fun o => !decide (o = h)) = (List.range n).map (hereF l1 h (pre ++ [(j : Int)])) := by
  rw [map_range_set]
  refine List.map_congr_left fun i _ => ?_
  by_cases q : i = j
  · subst q
    simp only [if_true, hereF]
    by_cases z : (i : Int) ∈ pre
    · simp [z]
    · simp [z]
  · have q2 : ¬ (i : Int) = j := by omega
    simp only [if_neg q, hereF]
    simp [q2]
theorem near_self {n : Int} {ts : List (Int × Int)} (hw : Web n ts) {p : Int} (h : p ∈ near ts p) : False := by
  unfold near at h
  rw [List.mem_map] at h
  obtain ⟨t, ht, e⟩ := h
  rw [List.mem_filter] at ht
  have := hw.tie t ht.1
  simp at ht
  omega
theorem here_tk {n : Nat} {ts : List (Int × Int)} {l1 : List (List Int)} {p h : Int} (hl : l1.length = n) (hw : Web n ts) (hp : 0 ≤ p ∧ p < n) (g2 : ((gat l1 p).length : Int) = 1) (hh : gat (gat l1 p) 0 = h) : (List.range n).map (hereF l1 h (near ts p)) = tk ts l1 p h := by
  unfold tk
  rw [hl]
  refine List.map_congr_left fun i _ => ?_
  unfold hereF tkA
  by_cases q : (i : Int) = p
  · have e := gat1 g2
    rw [hh] at e
    rw [if_neg (fun z => by rw [q] at z; exact near_self hw z), if_pos q, q, e]
  · rw [if_neg q]
/-- what the law goes along -/
theorem spec_law_sure (k : Nat) (n : Nat) (ts : List (Int × Int)) (ll : List (List Int)) (S : Sto) (hw : Web n ts) (hf : Fit n [] ll) (r) (hr : Go n ts [] ll r) : run prog (k + 2) G__law_sure [webD n ts, tu ll] S = .ok (.tup [ls r.1, tu r.2]) S := by
  refine run_fz (show prog G__law_sure = e__law_sure from rfl) rfl (by simp [D.pure, D.pureL]) ?_
  simp
  refine Wf (List.range n) enc (fun (a : Nat) => decide (((gat ll a).length : Int) = 1) && !decide ((a : Int) ∈ ([] : List Int))) (fun (a : Nat) => (a : Int)) ?_ ?_ ?_
  · simp [show n < 1000 by have := hf.few; omega]
  · intro a ha
    have ra : inR ll.length (a : Int) := inR_nat (by rw [hf.len]; exact List.mem_range.mp ha)
    simp [ra]
  · rw [o_ones]
    refine XS_wh (fun m ρ S' => ∃ (st : List (Int × Int)) (l1 : List (List Int)) (o5 o6 o7 o8 o9 o10 : Option D), m = (left n (st.map Prod.fst)).length ∧ Go n ts st l1 r ∧ Fit n st l1 ∧ S' = S ++ [OL st, OL l1] ∧ ρ = [some (webD n ts), some (tu ll), some (.ref S.length), some (.ref (S.length + 1)), some (ls (ones n l1 (st.map Prod.fst))), o5, o6, o7, o8, o9, o10]) _ ⟨[], ll, none, none, none, none, none, none, rfl, hr, hf, by simp [OL], by simp⟩ ?_
    rintro m ρ S' ⟨st, l1, o5, o6, o7, o8, o9, o10, rfl, hg, hf, rfl, rfl⟩
    have h6 := hf.few
    cases h1 : ones n l1 (st.map Prod.fst) with
    | nil =>
      have e : r = (st, l1) := by
        by_cases h0 : [] ∈ l1
        · exact hg.det (.bare h0)
        · exact hg.det (.stop h0 h1)
      subst e
      simp
      exact fz_two S st l1 [OL l1]
    | cons p r' =>
      by_cases h0 : [] ∈ l1
      · have e : r = (st, l1) := hg.det (.bare h0)
        subst e
        simp [h0]
        exact fz_two S st l1 [OL l1]
      · obtain ⟨g1, g2, g3⟩ := ones_mem h1
        have hp := pl_mem g1
        have rp : inR l1.length p := inR_pos hp.1 (by rw [hf.len]; exact hp.2)
        have r0 : inR (r'.length + 1) 0 := inR_pos (by omega) (by omega)
        have r1 : inR (gat l1 p).length 0 := inR_pos (by omega) (by omega)
        have hsb : st.length < big := lt_big' (by have := hf.lft; omega)
        have ep : ∀ h : Int, D.tup [.int p, .int h] = pairD (p, h) := fun h => rfl
        have hg' : Go n ts (st ++ [(p, gat (gat l1 p) 0)]) (tk ts l1 p (gat (gat l1 p) 0)) r := by
          cases hg with
          | bare h => exact absurd h h0
          | stop _ h => rw [h1] at h; cases h
          | step _ h2 h3 => rw [h1] at h2; cases h2; exact h3
        generalize hh : gat (gat l1 p) 0 = h at *
        generalize hst : st ++ [(p, h)] = st' at *
        simp [h0]
        rw [XS_par]
        simp [setL, r0, rp, r1, hh, hsb, ep, hst]
        refine XS_for (near ts p) enc (fun pre ρ S' => S' = S ++ [OL st', OL ((List.range n).map (hereF l1 h pre))] ∧ ∃ o5 : Option D, ρ = [some (webD n ts), some (tu ll), some (.ref S.length), some (.ref (S.length + 1)), some (ls (p :: r')), o5, o6, some (.int p), some (.int h), o9, o10]) ?_ ?_ ?_
        · simp [spec_near, here_nil hf.len]
        · rintro pre a post ρ S' e ⟨rfl, o5, rfl⟩
          have ha := mem_near hw (show a ∈ near ts p by rw [e]; simp)
          obtain ⟨j, rfl⟩ : ∃ j : Nat, a = j := ⟨a.toNat, by omega⟩
          have hj : j < n := by omega
          simp
          rw [XS_asgSub]
          have rj : inR n (j : Int) := inR_nat hj
          simp [rj]
          refine Wf (hereF l1 h pre j) enc (fun o => !decide (o = h)) id ?_ ?_ ?_
          · simp [rj, gat_mapR hj]
          · intro o ho
            simp
          · have ep2 : putOp (S ++ [OL st', OL ((List.range n).map (hereF l1 h pre))]) (.ref (S.length + 1)) (.int (j : Int)) (tu ((hereF l1 h pre j).filter fun o => !decide (o = h))) = some (S ++ [OL st', OL ((List.range n).map (hereF l1 h (pre ++ [(j : Int)])))]) := by
              have := put_OL (S := S ++ [OL st', OL ((List.range n).map (hereF l1 h pre))]) (n := S.length + 1) (l := (List.range n).map (hereF l1 h pre)) (by simp) j ((hereF l1 h pre j).filter fun o => !decide (o = h)) (by simpa using hj)
              rw [enc_list] at this
              rw [this, here_set]
              simp
            simp [ep2]
        · rintro ρ S' ⟨rfl, o5, rfl⟩
          rw [here_tk hf.len hw hp g2 hh]
          simp
          refine WmG st' enc ⟨st'.map enc, some (S.length, OL st')⟩ Prod.fst rfl (by simp [Wk.ok]) ?_ ?_ ?_
          · simp
          · intro q hq
            simp
          · simp
            refine Wf (List.range n) enc (fun (a : Nat) => decide (((gat (tk ts l1 p h) a).length : Int) = 1) && !decide ((a : Int) ∈ st'.map Prod.fst)) (fun (a : Nat) => (a : Int)) ?_ ?_ ?_
            · simp [show n < 1000 by omega]
            · intro a ha
              have ra : inR (tk ts l1 p h).length (a : Int) := inR_nat (by rw [tk_len, hf.len]; exact List.mem_range.mp ha)
              by_cases q : ((gat (tk ts l1 p h) a).length : Int) = 1
              · simp [ra, q]
              · simp [ra, q]
            · rw [o_ones]
              have hn := hf.next (ts := ts) h1
              rw [hh, hst] at hn
              have hlt := left_less g1 g3
              have ef : st'.map Prod.fst = st.map Prod.fst ++ [p] := by rw [← hst]; simp
              rw [← ef] at hlt
              simp
              exact ⟨_, hlt, st', rfl, _, hg', hn, ⟨rfl, rfl⟩, rfl⟩
theorem eight (S : Sto) (r : Int) (h : 0 ≤ r ∧ r < 8) : ∃ m : Nat, m ≤ 3 ∧ idxOp S (.lst [.int 1, .int 1, .int 2, .int 2, .int 3, .int 0, .int 2, .int 3]) (.int r) = some (.int m) := by
  obtain ⟨j, rfl⟩ : ∃ j : Nat, r = j := ⟨r.toNat, by omega⟩
  have hj : j < 8 := by omega
  match j, hj with
  | 0, _ => exact ⟨1, by omega, rfl⟩
  | 1, _ => exact ⟨1, by omega, rfl⟩
  | 2, _ => exact ⟨2, by omega, rfl⟩
  | 3, _ => exact ⟨2, by omega, rfl⟩
  | 4, _ => exact ⟨3, by omega, rfl⟩
  | 5, _ => exact ⟨0, by omega, rfl⟩
  | 6, _ => exact ⟨2, by omega, rfl⟩
  | 7, _ => exact ⟨3, by omega, rfl⟩
  | n + 8, h => exact absurd h (by omega)
theorem spec_short (k : Nat) {S : Sto} {b : Nat} (x : Int) {m : Nat} (hb : b < S.length) (hm : m < 1000) :
    ∃ (ll : List (List Int)) (y : Int), ll.length = m ∧ (∀ l ∈ ll, l.length ≤ 3 ∧ (∀ z ∈ l, 0 ≤ z ∧ z < 4) ∧ l.Pairwise (· < ·)) ∧ run prog (k + 2) G__law_short [.ref b, .int m] (sx S b x []) = .ok (tu ll) (sx S b y []) := by
  have key : OP (run prog (k + 2) G__law_short [.ref b, .int m] (sx S b x [])) (fun d S' => ∃ (ll : List (List Int)) (y : Int), ll.length = m ∧ (∀ l ∈ ll, l.length ≤ 3 ∧ (∀ z ∈ l, 0 ≤ z ∧ z < 4) ∧ l.Pairwise (· < ·)) ∧ d = tu ll ∧ S' = sx S b y []) noX ⟨⟩ := by
    refine run_op (show prog G__law_short = e__law_short from rfl) rfl ?_
    simp
    refine XS_for (List.range m) enc (fun pre ρ S' => ∃ (ll : List (List Int)) (y : Int) (o3 o4 : Option D), ll.length = pre.length ∧ (∀ l ∈ ll, l.length ≤ 3 ∧ (∀ z ∈ l, 0 ≤ z ∧ z < 4) ∧ l.Pairwise (· < ·)) ∧ ρ = [some (.ref b), some (.int m), some (.ref S.length), o3, o4, none] ∧ S' = sx S b y [OL ll]) ?_ ?_ ?_
    · simp [hm]
      exact ⟨x, rfl⟩
    · rintro pre a post ρ S' e ⟨ll, y, o3, o4, h1, h2, rfl, rfl⟩
      have hp : pre.length < 1000 := by
        have := congrArg List.length e
        simp at this
        omega
      simp
      obtain ⟨r, hr3, hr⟩ := eight (sx S b (y / 8) [OL ll]) (y % 8) ⟨Int.emod_nonneg _ (by omega), Int.emod_lt_of_pos _ (by omega)⟩
      refine W_compS (List.range r) enc (fun pre ys S' => ∃ (l : List Int) (z : Int), ys = l.map enc ∧ l.length = pre.length ∧ (∀ q ∈ l, 0 ≤ q ∧ q < 4) ∧ S' = sx S b z [OL ll]) ?_ ?_ ?_
      · simp [spec_take (P := prog) k hb (show (0 : Int) < 8 ∧ (8 : Int) < 1073741824 by omega), hr, show r < 1000 by omega]
        exact ⟨_, rfl⟩
      · rintro pr a post ys S' e ⟨l, z, rfl, g1, g2, rfl⟩
        simp [spec_take (P := prog) k hb (show (0 : Int) < 4 ∧ (4 : Int) < 1073741824 by omega)]
        refine ⟨l ++ [z % 4], by simp, by simp [g1], fun q hq => ?_, z / 4, rfl⟩
        rcases List.mem_append.mp hq with hq | hq
        · exact g2 q hq
        · rw [List.mem_singleton.mp hq]
          exact ⟨Int.emod_nonneg _ (by omega), Int.emod_lt_of_pos _ (by omega)⟩
      · rintro ys S' ⟨l, z, rfl, g1, g2, rfl⟩
        simp [show D.lst (l.map enc) = ls l from rfl]
        simp at g1
        obtain ⟨s1, s2, s3⟩ := sset_ok g2
        refine ⟨by omega, lt_big' (by omega), ll ++ [sortI (dedupI l)], by simp [h1], fun l' hl' => ?_, z, rfl⟩
        rcases List.mem_append.mp hl' with hl' | hl'
        · exact h2 l' hl'
        · rw [List.mem_singleton.mp hl']
          exact ⟨by omega, s2, s3⟩
    · rintro ρ S' ⟨ll, y, o3, o4, h1, h2, rfl, rfl⟩
      simp
      exact ⟨sx_kept hb, ll, by simpa using h1, h2, rfl, y, by have := sx_take (S := S) (T := [OL ll]) (b := b) (x := x) (y := y); simpa using this⟩
  obtain ⟨d, S', e, ll, y, h1, h2, rfl, rfl⟩ := OP_ex key
  exact ⟨ll, y, h1, h2, e⟩
theorem wt_pair {p : Int × Int} (h : (0 ≤ p.1 ∧ p.1 < 100) ∧ 0 ≤ p.2 ∧ p.2 ≤ 99) : (pairD p).wt ≤ 4000 := by
  have h1 := wt_int (i := p.1) (p1900 (by omega))
  have h2 := wt_int (i := p.2) (p1900 (by omega))
  simp only [pairD, D.wt, D.wtL] at h1 h2 ⊢
  omega
theorem rp_res {n : Nat} {st : List (Int × Int)} {ll : List (List Int)} (f : Fit n st ll) : Rp (.tup [ls st, tu ll]) := by
  have hs : st.length ≤ 6 := by have := f.lft; have := f.few; omega
  have h1 : (ls st).wt ≤ 10 + st.length * (4000 + 4) := wt_ls fun p hp => wt_pair ⟨⟨(f.stp p hp).1.1, by have := (f.stp p hp).1.2; have := f.few; omega⟩, (f.stp p hp).2⟩
  have h2 : (tu ll).wt ≤ 10 + ll.length * ((10 + 8 * 1954) + 4) := wt_tu fun l hl => wt_tuI (f.lst l hl).1 fun a ha => by have := (f.lst l hl).2 a ha; omega
  have hl := f.len
  have h6 := f.few
  refine ⟨?_, ?_, ?_⟩
  · simp only [D.nost, D.nostL, Bool.and_true, Bool.and_eq_true]
    exact ⟨no_ls fun p _ => rfl, no_tu fun l _ => no_tuI l⟩
  · have p1 := plain_ls st
    have p2 := plain_tu ll
    simp only [D.plain, List.all_cons, List.all_nil, Bool.and_true, Bool.and_eq_true]
    exact ⟨D.plain_le (by simp) p1, D.plain_le (by simp) p2⟩
  · simp only [D.wt, D.wtL]
    have : st.length * (4000 + 4) ≤ 6 * 4004 := Nat.mul_le_mul_right _ hs
    have : ll.length * ((10 + 8 * 1954) + 4) ≤ 6 * (10 + 8 * 1954 + 4) := Nat.mul_le_mul_right _ (by omega)
    omega
theorem o_reprK {st : List (Int × Int)} {ll : List (List Int)} (h : Rp (.tup [ls st, tu ll])) (S T : Sto) (hS : S[n]? = some (OL st)) : biOp S .repr [.tup [.ref n, tu ll]] = some (.str (shownD (.tup [ls st, tu ll]))) := by
  have e : dres S (.tup [.ref n, tu ll]) = .tup [ls st, tu ll] := by
    show D.tup [res S (.ref n), res S (tu ll)] = _
    rw [res_ref, hS]
    rfl
  have := o_repr h S
  simp only [biOp] at this ⊢
  rw [e]
  rw [h.dres] at this
  exact this
theorem left_nil (n : Nat) : (left n []).length = n := by
  unfold left pl
  simp [List.filter_eq_self.mpr]
theorem sx_at0' (S : Sto) (b : Nat) (x : Int) (o : O) : (sx S b x [o])[S.length]? = some o := sx_at0 S [] o b x
theorem sx_join {S T : Sto} {b : Nat} {x : Int} (hb : b < S.length) : sx S b x T = sx (S ++ T) b x [] := by
  unfold sx
  rw [List.set_append_left _ _ hb, List.append_nil]
theorem rng2c : rngV 2 = some ⟨(List.range 2).map enc, none⟩ := rngV_nat 2 (by omega)
theorem spec_sure (n : Nat) (ts : List (Int × Int)) (ll : List (List Int)) (S : Sto) (hw : Web n ts) (hf : Fit n [] ll) (hL : Lists n ll) (r) (hr : Go n ts [] ll r) : run prog 11 F_sure [webD n ts, tu ll] S = .ok (.tup [.ref S.length, tu r.2]) (S ++ [OL r.1]) := by
  refine run_keepT b_sure rfl (lo_OL _ _) (by simp [D.loL]; exact pure_lo _ (pure_tu _)) ?_
  simp [spec_need_lists (P := prog) 5 n ts ll S hw hL, spec_sure_of 7 n ts ll S hw hf r hr]
theorem law_true (ns : List Int) (hl : ns.length ≤ 63) (hb : ∀ z ∈ ns, PySem.Builtin.Int.intBits z ≤ 1048576) : ∃ S, run prog 12 G_law [.scr ns] [] = .ok (.bl true) S := by
  have h : OP (run prog 12 G_law [.scr ns] []) (fun d _ => d = .bl true) noX ⟨⟩ := by
    refine run_op (show prog G_law = e_law from rfl) rfl ?_
    simp
    refine XS_for (List.range (max 1 (min ns.length 5))) enc (fun _ ρ _ => ∃ o1 o2 o3 o4 o5 o6 o7 o8, ρ = [some (.scr ns), o1, o2, o3, o4, o5, o6, o7, o8]) ?_ ?_ ?_
    · exact it_cells 5 5 rfl (by omega) ⟨rfl, _, _, _, _, _, _, _, _, rfl⟩
    · rintro pre j post ρ S' e ⟨o1, o2, o3, o4, o5, o6, o7, o8, rfl⟩
      obtain ⟨x, eb⟩ := spec_box2 (P := prog) 10 ns j S'
      simp [eb]
      generalize hS1 : S' ++ [O.lst [.int x]] = S1
      have hb : S'.length < S1.length := by rw [← hS1]; simp
      obtain ⟨n, ts, y, hw, ew⟩ := spec_web (P := prog) 9 (S := S1) x hb
      simp [ew]
      have h6 := hw.hi
      refine XS_for (List.range 2) enc (fun _ ρ S3 => ∃ (S2 : Sto) (z : Int) (o4 o5 o6 o7 o8 : Option D), S'.length < S2.length ∧ S3 = sx S2 S'.length z [] ∧ ρ = [some (.scr ns), some (.int j), some (.ref S'.length), some (webD n ts), o4, o5, o6, o7, o8]) ?_ ?_ ?_
      · simp [rng2c]
        exact ⟨S1, hb, y, rfl⟩
      · rintro pr t po ρ S3 et ⟨S2, z, o4, o5, o6, o7, o8, hb2, rfl, rfl⟩
        obtain ⟨ll, z2, l1, l2, el⟩ := spec_short 9 (S := S2) (b := S'.length) z hb2 (show n < 1000 by omega)
        have hf : Fit n [] ll := ⟨l1, by omega, fun l hl => ⟨by have := (l2 l hl).1; omega, fun h hh => by have := (l2 l hl).2.1 h hh; omega⟩, by simp, by simp [left_nil]⟩
        obtain ⟨r, hr⟩ := Go.ex (n := n) (ts := ts) n [] ll (by simp [left_nil])
        have hL : Lists n ll := ⟨by omega, fun l hl => ⟨by have := (l2 l hl).1; omega, fun h hh => by have := (l2 l hl).2.1 h hh; omega, (l2 l hl).2.2⟩⟩
        have hfr := hr.fit hf
        have hR := rp_res hfr
        simp [el, spec_law_sure 9 n ts ll _ hw hf r hr]
        refine XS_for (List.range 2) enc (fun _ ρ S3 => ∃ (S4 : Sto) (o7 o8 : Option D), S'.length < S4.length ∧ S3 = sx S4 S'.length z2 [] ∧ ρ = [some (.scr ns), some (.int j), some (.ref S'.length), some (webD n ts), some (.int t), some (tu ll), some (.tup [ls r.1, tu r.2]), o7, o8]) ?_ ?_ ?_
        · simp [rng2c]
          exact ⟨S2, hb2, rfl⟩
        · rintro pr2 t2 po2 ρ S3 et2 ⟨S4, o7, o8, hb4, rfl, rfl⟩
          have es := spec_sure n ts ll (sx S4 S'.length z2 []) hw hf hL r hr
          have ea : appO (.tup []) (some (OL r.1)) = some (.lst (r.1.map enc ++ [.tup []])) := by
            have : r.1.length < big := lt_big' (by have := hfr.lft; omega)
            simp [appO, OL, this]
          simp [es, o_reprK hR _ [] (sx_at0' S4 S'.length z2 (OL r.1)), o_repr hR, o_eqr hR, ea]
          exact ⟨S4 ++ [.lst (r.1.map enc ++ [.tup []])], by simp; omega, sx_join hb4⟩
        · rintro ρ S3 ⟨S4, o7, o8, hb4, rfl, rfl⟩
          simp
          exact ⟨S4, hb4, _, rfl⟩
      · rintro ρ S3 ⟨S2, z, o4, o5, o6, o7, o8, hb2, rfl, rfl⟩
        simp
    · rintro ρ S' ⟨o1, o2, o3, o4, o5, o6, o7, o8, rfl⟩
      simp [kept_nil]
  obtain ⟨d, S', e, rfl⟩ := OP_ex h
  exact ⟨S', e⟩
end Lk63
end

section 
set_option Elab.async false
set_option linter.all false
set_option maxRecDepth 100000
set_option maxHeartbeats 4000000
namespace Lk63
open PySem PySem.Spec PyProof.Rows L2 Pf
theorem facts {K : PySem.W.Frag} {h : Heap} {mg : Str → Option Value} (X : K.In h) (G : h.Ns mainGlobals mg) (c : He.SaysD fa fn K) (cx : xB xs K = true) : Facts K mg prog infos infosH tx (xcOf K xs) where
  chk := fun f i hi => by
    have hm := info_mem hi
    simp only [il, List.cons_append, List.nil_append, List.mem_cons, List.not_mem_nil, or_false, Prod.mk.injEq] at hm
    rcases hm with ⟨rfl, rfl⟩ | ⟨rfl, rfl⟩ | ⟨rfl, rfl⟩ | ⟨rfl, rfl⟩ | ⟨rfl, rfl⟩ | ⟨rfl, rfl⟩ | ⟨rfl, rfl⟩ | ⟨rfl, rfl⟩ | ⟨rfl, rfl⟩ | ⟨rfl, rfl⟩ | ⟨rfl, rfl⟩ | ⟨rfl, rfl⟩ | ⟨rfl, rfl⟩ | ⟨rfl, rfl⟩ | ⟨rfl, rfl⟩ | ⟨rfl, rfl⟩ | ⟨rfl, rfl⟩ | ⟨rfl, rfl⟩ | ⟨rfl, rfl⟩
    · exact c_is_upto
    · exact c_is_tie
    · exact c_rises
    · exact c_is_web
    · exact c_need_web
    · exact c_is_list
    · exact c_are_lists_of
    · exact c_need_lists
    · exact c_tied_to
    · exact c_taken_by
    · exact c_sure_of
    · exact c_sure
    · exact c__law_box
    · exact c__law_take
    · exact c__law_web
    · exact c__law_near
    · exact c__law_short
    · exact c__law_sure
    · exact c_law
  dls := fun q hq => by
    simp only [tx, dl, List.cons_append, List.nil_append, List.mem_cons, List.not_mem_nil, or_false] at hq
    rcases hq with rfl | rfl | rfl | rfl | rfl | rfl | rfl | rfl | rfl | rfl | rfl | rfl | rfl | rfl | rfl | rfl | rfl | rfl | rfl
    · exact ⟨i_is_upto, rfl, rfl, rfl⟩
    · exact ⟨i_is_tie, rfl, rfl, rfl⟩
    · exact ⟨i_rises, rfl, rfl, rfl⟩
    · exact ⟨i_is_web, rfl, rfl, rfl⟩
    · exact ⟨i_need_web, rfl, rfl, rfl⟩
    · exact ⟨i_is_list, rfl, rfl, rfl⟩
    · exact ⟨i_are_lists_of, rfl, rfl, rfl⟩
    · exact ⟨i_need_lists, rfl, rfl, rfl⟩
    · exact ⟨i_tied_to, rfl, rfl, rfl⟩
    · exact ⟨i_taken_by, rfl, rfl, rfl⟩
    · exact ⟨i_sure_of, rfl, rfl, rfl⟩
    · exact ⟨i_sure, rfl, rfl, rfl⟩
    · exact ⟨i__law_box, rfl, rfl, rfl⟩
    · exact ⟨i__law_take, rfl, rfl, rfl⟩
    · exact ⟨i__law_web, rfl, rfl, rfl⟩
    · exact ⟨i__law_near, rfl, rfl, rfl⟩
    · exact ⟨i__law_short, rfl, rfl, rfl⟩
    · exact ⟨i__law_sure, rfl, rfl, rfl⟩
    · exact ⟨i_law, rfl, rfl, rfl⟩
  fns := fun f i hi => by
    have hm := info_mem hi
    simp only [il, List.cons_append, List.nil_append, List.mem_cons, List.not_mem_nil, or_false, Prod.mk.injEq] at hm
    rcases hm with ⟨rfl, rfl⟩ | ⟨rfl, rfl⟩ | ⟨rfl, rfl⟩ | ⟨rfl, rfl⟩ | ⟨rfl, rfl⟩ | ⟨rfl, rfl⟩ | ⟨rfl, rfl⟩ | ⟨rfl, rfl⟩ | ⟨rfl, rfl⟩ | ⟨rfl, rfl⟩ | ⟨rfl, rfl⟩ | ⟨rfl, rfl⟩ | ⟨rfl, rfl⟩ | ⟨rfl, rfl⟩ | ⟨rfl, rfl⟩ | ⟨rfl, rfl⟩ | ⟨rfl, rfl⟩ | ⟨rfl, rfl⟩ | ⟨rfl, rfl⟩
    · obtain ⟨fd, D⟩ := c.def_ 0 (d := ⟨("is_upto", none), "is_upto", "is_upto", i_is_upto.params, i_is_upto.body, i_is_upto.scope, [], []⟩) rfl
      exact ⟨_, fd, D, He.glo_ok X G (c.fact 0 (f := .glo "is_upto") rfl), D.bindsN (ps := i_is_upto.ps) fun _ _ _ _ _ _ us hl => match us, hl with | [_, _, _], _ => rfl⟩
    · obtain ⟨fd, D⟩ := c.def_ 1 (d := ⟨("is_tie", none), "is_tie", "is_tie", i_is_tie.params, i_is_tie.body, i_is_tie.scope, [], []⟩) rfl
      exact ⟨_, fd, D, He.glo_ok X G (c.fact 1 (f := .glo "is_tie") rfl), D.bindsN (ps := i_is_tie.ps) fun _ _ _ _ _ _ us hl => match us, hl with | [_, _], _ => rfl⟩
    · obtain ⟨fd, D⟩ := c.def_ 2 (d := ⟨("rises", none), "rises", "rises", i_rises.params, i_rises.body, i_rises.scope, [], []⟩) rfl
      exact ⟨_, fd, D, He.glo_ok X G (c.fact 2 (f := .glo "rises") rfl), D.bindsN (ps := i_rises.ps) fun _ _ _ _ _ _ us hl => match us, hl with | [_], _ => rfl⟩
    · obtain ⟨fd, D⟩ := c.def_ 3 (d := ⟨("is_web", none), "is_web", "is_web", i_is_web.params, i_is_web.body, i_is_web.scope, [], []⟩) rfl
      exact ⟨_, fd, D, He.glo_ok X G (c.fact 3 (f := .glo "is_web") rfl), D.bindsN (ps := i_is_web.ps) fun _ _ _ _ _ _ us hl => match us, hl with | [_], _ => rfl⟩
    · obtain ⟨fd, D⟩ := c.def_ 4 (d := ⟨("need_web", none), "need_web", "need_web", i_need_web.params, i_need_web.body, i_need_web.scope, [], []⟩) rfl
      exact ⟨_, fd, D, He.glo_ok X G (c.fact 4 (f := .glo "need_web") rfl), D.bindsN (ps := i_need_web.ps) fun _ _ _ _ _ _ us hl => match us, hl with | [_], _ => rfl⟩
    · obtain ⟨fd, D⟩ := c.def_ 5 (d := ⟨("is_list", none), "is_list", "is_list", i_is_list.params, i_is_list.body, i_is_list.scope, [], []⟩) rfl
      exact ⟨_, fd, D, He.glo_ok X G (c.fact 5 (f := .glo "is_list") rfl), D.bindsN (ps := i_is_list.ps) fun _ _ _ _ _ _ us hl => match us, hl with | [_], _ => rfl⟩
    · obtain ⟨fd, D⟩ := c.def_ 6 (d := ⟨("are_lists_of", none), "are_lists_of", "are_lists_of", i_are_lists_of.params, i_are_lists_of.body, i_are_lists_of.scope, [], []⟩) rfl
      exact ⟨_, fd, D, He.glo_ok X G (c.fact 6 (f := .glo "are_lists_of") rfl), D.bindsN (ps := i_are_lists_of.ps) fun _ _ _ _ _ _ us hl => match us, hl with | [_, _], _ => rfl⟩
    · obtain ⟨fd, D⟩ := c.def_ 7 (d := ⟨("need_lists", none), "need_lists", "need_lists", i_need_lists.params, i_need_lists.body, i_need_lists.scope, [], []⟩) rfl
      exact ⟨_, fd, D, He.glo_ok X G (c.fact 7 (f := .glo "need_lists") rfl), D.bindsN (ps := i_need_lists.ps) fun _ _ _ _ _ _ us hl => match us, hl with | [_, _], _ => rfl⟩
    · obtain ⟨fd, D⟩ := c.def_ 8 (d := ⟨("tied_to", none), "tied_to", "tied_to", i_tied_to.params, i_tied_to.body, i_tied_to.scope, [], []⟩) rfl
      exact ⟨_, fd, D, He.glo_ok X G (c.fact 8 (f := .glo "tied_to") rfl), D.bindsN (ps := i_tied_to.ps) fun _ _ _ _ _ _ us hl => match us, hl with | [_, _], _ => rfl⟩
    · obtain ⟨fd, D⟩ := c.def_ 9 (d := ⟨("taken_by", none), "taken_by", "taken_by", i_taken_by.params, i_taken_by.body, i_taken_by.scope, [], []⟩) rfl
      exact ⟨_, fd, D, He.glo_ok X G (c.fact 9 (f := .glo "taken_by") rfl), D.bindsN (ps := i_taken_by.ps) fun _ _ _ _ _ _ us hl => match us, hl with | [_, _, _, _], _ => rfl⟩
    · obtain ⟨fd, D⟩ := c.def_ 10 (d := ⟨("sure_of", none), "sure_of", "sure_of", i_sure_of.params, i_sure_of.body, i_sure_of.scope, [], []⟩) rfl
      exact ⟨_, fd, D, He.glo_ok X G (c.fact 10 (f := .glo "sure_of") rfl), D.bindsN (ps := i_sure_of.ps) fun _ _ _ _ _ _ us hl => match us, hl with | [_, _], _ => rfl⟩
    · obtain ⟨fd, D⟩ := c.def_ 11 (d := ⟨("sure", none), "sure", "sure", i_sure.params, i_sure.body, i_sure.scope, [], []⟩) rfl
      exact ⟨_, fd, D, He.glo_ok X G (c.fact 11 (f := .glo "sure") rfl), D.bindsN (ps := i_sure.ps) fun _ _ _ _ _ _ us hl => match us, hl with | [_, _], _ => rfl⟩
    · obtain ⟨fd, D⟩ := c.def_ 12 (d := ⟨("_law_box", none), "_law_box", "_law_box", i__law_box.params, i__law_box.body, i__law_box.scope, [], []⟩) rfl
      exact ⟨_, fd, D, He.glo_ok X G (c.fact 12 (f := .glo "_law_box") rfl), D.bindsN (ps := i__law_box.ps) fun _ _ _ _ _ _ us hl => match us, hl with | [_, _], _ => rfl⟩
    · obtain ⟨fd, D⟩ := c.def_ 13 (d := ⟨("_law_take", none), "_law_take", "_law_take", i__law_take.params, i__law_take.body, i__law_take.scope, [], []⟩) rfl
      exact ⟨_, fd, D, He.glo_ok X G (c.fact 13 (f := .glo "_law_take") rfl), D.bindsN (ps := i__law_take.ps) fun _ _ _ _ _ _ us hl => match us, hl with | [_, _], _ => rfl⟩
    · obtain ⟨fd, D⟩ := c.def_ 14 (d := ⟨("_law_web", none), "_law_web", "_law_web", i__law_web.params, i__law_web.body, i__law_web.scope, [], []⟩) rfl
      exact ⟨_, fd, D, He.glo_ok X G (c.fact 14 (f := .glo "_law_web") rfl), D.bindsN (ps := i__law_web.ps) fun _ _ _ _ _ _ us hl => match us, hl with | [_, _, _], _ => rfl⟩
    · obtain ⟨fd, D⟩ := c.def_ 15 (d := ⟨("_law_near", none), "_law_near", "_law_near", i__law_near.params, i__law_near.body, i__law_near.scope, [], []⟩) rfl
      exact ⟨_, fd, D, He.glo_ok X G (c.fact 15 (f := .glo "_law_near") rfl), D.bindsN (ps := i__law_near.ps) fun _ _ _ _ _ _ us hl => match us, hl with | [_, _], _ => rfl⟩
    · obtain ⟨fd, D⟩ := c.def_ 16 (d := ⟨("_law_short", none), "_law_short", "_law_short", i__law_short.params, i__law_short.body, i__law_short.scope, [], []⟩) rfl
      exact ⟨_, fd, D, He.glo_ok X G (c.fact 16 (f := .glo "_law_short") rfl), D.bindsN (ps := i__law_short.ps) fun _ _ _ _ _ _ us hl => match us, hl with | [_, _], _ => rfl⟩
    · obtain ⟨fd, D⟩ := c.def_ 17 (d := ⟨("_law_sure", none), "_law_sure", "_law_sure", i__law_sure.params, i__law_sure.body, i__law_sure.scope, [], []⟩) rfl
      exact ⟨_, fd, D, He.glo_ok X G (c.fact 17 (f := .glo "_law_sure") rfl), D.bindsN (ps := i__law_sure.ps) fun _ _ _ _ _ _ us hl => match us, hl with | [_, _], _ => rfl⟩
    · obtain ⟨fd, D⟩ := c.def_ 18 (d := ⟨("law", none), "law", "law", i_law.params, i_law.body, i_law.scope, [], []⟩) rfl
      exact ⟨_, fd, D, He.glo_ok X G (c.fact 18 (f := .glo "law") rfl), D.bindsN (ps := i_law.ps) fun _ _ _ _ _ _ us hl => match us, hl with | [_], _ => rfl⟩
  chkh := fun f i hi => by
    have hm := info_mem hi
    simp [ih] at hm
  hls := fun q hq => by
    simp [tx, hl] at hq
  fnh := fun f i hi => by
    have hm := info_mem hi
    simp [ih] at hm
  xcs := xcs_ok X G (by decide +kernel) cx
  blt := fun x hx => by
    simp only [bnames, List.mem_cons, List.not_mem_nil, or_false] at hx
    rcases hx with rfl | rfl | rfl | rfl | rfl | rfl | rfl | rfl | rfl | rfl | rfl | rfl | rfl | rfl | rfl | rfl | rfl | rfl | rfl | rfl | rfl | rfl
    · exact He.free_ok X G (c.fact 19 (f := .free "len") rfl)
    · exact He.free_ok X G (c.fact 20 (f := .free "abs") rfl)
    · exact He.free_ok X G (c.fact 21 (f := .free "all") rfl)
    · exact He.free_ok X G (c.fact 22 (f := .free "any") rfl)
    · exact He.free_ok X G (c.fact 23 (f := .free "sum") rfl)
    · exact He.free_ok X G (c.fact 24 (f := .free "max") rfl)
    · exact He.free_ok X G (c.fact 25 (f := .free "min") rfl)
    · exact He.free_ok X G (c.fact 26 (f := .free "divmod") rfl)
    · exact He.free_ok X G (c.fact 27 (f := .free "repr") rfl)
    · exact He.free_ok X G (c.fact 28 (f := .free "sorted") rfl)
    · exact He.free_ok X G (c.fact 29 (f := .free "int") rfl)
    · exact He.free_ok X G (c.fact 30 (f := .free "tuple") rfl)
    · exact He.free_ok X G (c.fact 31 (f := .free "list") rfl)
    · exact He.free_ok X G (c.fact 32 (f := .free "range") rfl)
    · exact He.free_ok X G (c.fact 33 (f := .free "zip") rfl)
    · exact He.free_ok X G (c.fact 34 (f := .free "enumerate") rfl)
    · exact He.free_ok X G (c.fact 35 (f := .free "isinstance") rfl)
    · exact He.free_ok X G (c.fact 36 (f := .free "bool") rfl)
    · exact He.free_ok X G (c.fact 37 (f := .free "str") rfl)
    · exact He.free_ok X G (c.fact 38 (f := .free "dict") rfl)
    · exact He.free_ok X G (c.fact 39 (f := .free "set") rfl)
    · exact He.free_ok X G (c.fact 40 (f := .free "ValueError") rfl)
  con := fun q hq => by
    simp only [tx, gi, List.mem_cons, List.not_mem_nil, or_false] at hq
    rcases hq with rfl | rfl | rfl
    · exact He.int_ok X G (c.fact 41 (f := .int "MOST_PLACES" 6) rfl)
    · exact He.int_ok X G (c.fact 42 (f := .int "MOST_HUE" 99) rfl)
    · exact He.int_ok X G (c.fact 43 (f := .int "MOST_LONG" 8) rfl)
  cos := fun q hq => by
    simp [tx, gz] at hq
end Lk63
open PySem PySem.W PySem.Calls PyProof.Rows
set_option maxRecDepth 100000 in
set_option maxHeartbeats 8000000 in
theorem PySem.Challenge.cw_huelists_k63_what_follows_for_sure_holds : PySem.Challenge.rw_huelists_k63_what_follows_for_sure.Holds := by
  w_on; o_law
  refine HandSHeadRun.head_any (r := OpenLaw.row PySem.Challenge.rw_huelists_k63_what_follows_for_sure) (q := view (OpenLaw.row PySem.Challenge.rw_huelists_k63_what_follows_for_sure).prog [28]) (H := Lk63.hk) (ob := Lk63.ob) (M := 4000) (loose := Lk63.lo) (d := HandSHeadRun.topDef (OpenLaw.row PySem.Challenge.rw_huelists_k63_what_follows_for_sure).prog 28) (kwd := []) Lk63.ob_eq
    (by kernel_rfl) (fun s => by kernel_rfl) Lk63.top_run (by kernel_rfl) (by kernel_rfl) (by kernel_rfl) (by rfl) (by first | assumption | decide +kernel) (by decide +kernel) ⟨rfl, rfl, rfl, rfl, rfl, by decide +kernel⟩ ?hw ?hc
  case hw => w_witness2
  case hc =>
    refine Pf.walkG (l := PySem.Challenge.rw_huelists_k63_what_follows_for_sure) (n := 63) (k := 12) (x := "_law_script") rfl (by decide) (by kernel_rfl) ⟨rfl, by decide, by decide⟩ ?F
    intro w mg fa h Y G hmg0
    obtain ⟨K, KX, c, cx⟩ := Y
    have hmg : mg ("law" : PySem.Str) = some (.ref fa) := by
      have e : (HandSHeadRun.topDef (OpenLaw.row PySem.Challenge.rw_huelists_k63_what_follows_for_sure).prog 28).name = ("law" : PySem.Str) := by kernel_rfl
      rw [← e]
      exact hmg0
    have T := Lk63.facts KX G c cx
    let F : Pf.Fx := ⟨K, Pf.xcOf K Lk63.xs, fun _ => 0, fun _ => [], []⟩
    obtain ⟨fd, D⟩ := c.def_ 18 (d := ⟨("law", none), "law", "law", Lk63.i_law.params, Lk63.i_law.body, Lk63.i_law.scope, [], []⟩) rfl
    have e := hmg.symm.trans (He.glo_ok KX G (c.fact 18 (f := .glo "law") rfl))
    cases e
    have b := L2.FunD.bindsA (ps := Lk63.i_law.ps) D fun _ _ _ _ _ _ us hl => match us, hl with | [_], _ => rfl
    refine ⟨K, fd, Pf.spF F 1 (Pf.run Lk63.prog 12 Lk63.G_law), KX, fun s v => b s [v] rfl, fun H a ns hl hbits _ hS _ => ?_, fun base _ _ => Pf.all_ok (F := F) (P := Lk63.prog) (Ls := Lk63.infos) rfl rfl rfl T 12 Lk63.G_law Lk63.i_law rfl _ fd D⟩
    obtain ⟨S2, hr⟩ := Lk63.law_true ns hl hbits
    exact Pf.law_spF (F := F) hS hr rfl
#print axioms PySem.Challenge.cw_huelists_k63_what_follows_for_sure_holds
end
