import PyProof.Rows.All
import Wide.All
import OpenK.AllK
import Wide.FinOn
import HandS.ForMost
import HandS.ForExc
import HandS.Wide
import HandS.Flow
import HandS.Style
import HandS.StrMore
import HandS.SetFor
import HandS.TupAny
import HandS.TupMul
import HandS.IsInst
import HandS.ExcIs
import HandS.ExcValue
import HandS.CallSlots
import HandS.Lambda
import HandS.EndTab
import HandS.Walk
import HandS.Deep
import HandS.HeadHook2
import PyProof.CollectIter
import PyProof.WalksMore
import PyProof.MakeMany
import HandS.FStr
import HandS.Small
import HandS.HeadHook4
import HandS.HeadWalk
import HandS.Head2
import HandS.Ends
import PySem.Challenge.RW_boxmoves_k02_amount_texts

set_option autoImplicit false
/-! Mi: a small language, its values, its store, and what its expressions and statements do. -/
namespace Mi

inductive D where
  | non | bl (b : Bool) | int (i : Int) | str (s : List Nat) | tup (xs : List D) | lst (xs : List D) | ref (l : Nat) | exc (c : Nat) | clo
  /-- a list that is never written -/
  | fl (xs : List D)
  deriving Inhabited

inductive Ky where
  | i (n : Int) | s (x : List Nat)
  deriving DecidableEq

inductive Obj where
  | lst (ds : List D) | dct (kvs : List (Ky × D)) | ins (c : Nat) (fs : List (List Nat × D))

abbrev Sto := List Obj

inductive Res (α : Type) where
  | ok (a : α) (h : Sto) | exn (c : Nat) (h : Sto) | bad

def M (α : Type) : Type := Sto → Res α
def ret {α : Type} (a : α) : M α := fun h => .ok a h
def bad {α : Type} : M α := fun _ => .bad
def bnd {α β : Type} (m : M α) (f : α → M β) : M β := fun h =>
  match m h with
  | .ok a h1 => f a h1
  | .exn c h1 => .exn c h1
  | .bad => .bad
def ofO {α : Type} (o : Option α) : M α := match o with
  | some a => ret a
  | none => bad
def lookS {α : Type} (f : Sto → Option α) : M α := fun h => match f h with
  | some a => .ok a h
  | none => .bad
def alloc (o : Obj) : M D := fun h => .ok (.ref h.length) (h ++ [o])

/-- the longest text, list -/
@[irreducible] def lim : Nat := 16777216

/-! ### values -/
def truth (h : Sto) : D → Option Bool
  | .non => some false
  | .bl b => some b
  | .int i => some (i != 0)
  | .str s => some (s.length != 0)
  | .tup xs => some (!xs.isEmpty)
  | .fl xs => some (!xs.isEmpty)
  | .ref l => match h[l]? with
    | some (.lst ds) => some (!ds.isEmpty)
    | some (.dct kvs) => some (!kvs.isEmpty)
    | _ => none
  | _ => none

/-- a value with its lists written out, so many deep -/
def deep (h : Sto) : Nat → D → Option D
  | 0, _ => none
  | n + 1, d => match d with
    | .non => some .non
    | .bl b => some (.bl b)
    | .int i => some (.int i)
    | .str s => some (.str s)
    | .tup xs => (xs.mapM (deep h n)).map .tup
    | .fl xs => (xs.mapM (deep h n)).map .lst
    | .ref l => match h[l]? with
      | some (.lst ds) => (ds.mapM (deep h n)).map .lst
      | _ => none
    | _ => none

mutual
/-- == of data -/
def eqv : D → D → Bool
  | .non, .non => true
  | .bl a, .bl b => a == b
  | .bl a, .int j => (if a then 1 else 0) == j
  | .int i, .bl b => i == (if b then 1 else 0)
  | .int i, .int j => i == j
  | .str x, .str y => decide (x = y)
  | .tup xs, .tup ys => eqvs xs ys
  | .lst xs, .lst ys => eqvs xs ys
  | _, _ => false
def eqvs : List D → List D → Bool
  | [], [] => true
  | x :: xs, y :: ys => eqv x y && eqvs xs ys
  | _, _ => false
end
def eqD (h : Sto) (a b : D) : Option Bool := match deep h 60 a, deep h 60 b with
  | some x, some y => some (eqv x y)
  | _, _ => none

def flat : D → Bool
  | .non => true
  | .bl _ => true
  | .int _ => true
  | .str _ => true
  | _ => false

/-- the place that an index tells -/
def place (n : Nat) (i : Int) : Option Nat :=
  if 0 ≤ i then (if i < n then some i.toNat else none)
  else if -(n : Int) ≤ i then some (i + n).toNat else none
def atI {α : Type} (xs : List α) (i : Int) : Option α := match place xs.length i with
  | some j => xs[j]?
  | none => none
/-- the place that a slice's bound tells -/
def clampI (n d : Nat) : Option Int → Nat
  | some i => if i < 0 then (i + (n : Int)).toNat else min i.toNat n
  | none => d
def slice {α : Type} (xs : List α) (lo hi : Option Int) : List α :=
  (xs.drop (clampI xs.length 0 lo)).take (clampI xs.length xs.length hi - clampI xs.length 0 lo)

def kget (kvs : List (Ky × D)) (k : Ky) : Option D := match kvs with
  | [] => none
  | (q, d) :: r => if q = k then some d else kget r k
def khas (kvs : List (Ky × D)) (k : Ky) : Bool := match kvs with
  | [] => false
  | (q, _) :: r => decide (q = k) || khas r k
def kset (kvs : List (Ky × D)) (k : Ky) (d : D) : List (Ky × D) := match kvs with
  | [] => []
  | (q, x) :: r => (q, if q = k then d else x) :: kset r k d
def kput (kvs : List (Ky × D)) (k : Ky) (d : D) : List (Ky × D) := if khas kvs k then kset kvs k d else kvs ++ [(k, d)]
def keyOf : D → Option Ky
  | .int i => some (.i i)
  | .str s => some (.s s)
  | _ => none
def fget (fs : List (List Nat × D)) (k : List Nat) : Option D := match fs with
  | [] => none
  | (q, d) :: r => if q = k then some d else fget r k
def fput (fs : List (List Nat × D)) (k : List Nat) (d : D) : List (List Nat × D) := match fs with
  | [] => [(k, d)]
  | (q, x) :: r => if q = k then (q, d) :: r else (q, x) :: fput r k d

/-! ### operators -/
inductive BOp where
  | add | sub | mul | fdiv | mod | pow
inductive COp where
  | eq | ne | lt | le | gt | ge | isn | isnn | inn | nin

def rep {α : Type} (xs : List α) (n : Nat) : List α := (List.replicate n xs).flatten

def binD (o : BOp) (a b : D) : M D := match o, a, b with
  | .add, .int i, .int j => ret (.int (i + j))
  | .add, .str x, .str y => if x.length + y.length ≤ lim then ret (.str (x ++ y)) else bad
  | .add, .tup x, .tup y => if x.length + y.length ≤ lim then ret (.tup (x ++ y)) else bad
  | .add, .ref l, .ref k => fun h => match h[l]?, h[k]? with
    | some (.lst x), some (.lst y) => if x.length + y.length ≤ lim then alloc (.lst (x ++ y)) h else .bad
    | _, _ => .bad
  | .sub, .int i, .int j => ret (.int (i - j))
  | .mul, .int i, .int j => if i.natAbs.log2 + j.natAbs.log2 < 1000000 then ret (.int (i * j)) else bad
  | .mul, .str x, .int n => if x.length * n.toNat ≤ lim ∧ -(2 ^ 62) < n ∧ n < 2 ^ 62 then ret (.str (rep x n.toNat)) else bad
  | .mul, .ref l, .int n => fun h => match h[l]? with
    | some (.lst x) => if x.length * n.toNat ≤ lim ∧ -(2 ^ 62) < n ∧ n < 2 ^ 62 then alloc (.lst (rep x n.toNat)) h else .bad
    | _ => .bad
  | .mul, .tup x, .int n => if x.length ≤ 1000 ∧ x.isEmpty = false ∧ 2 ≤ n ∧ n ≤ 1000 then ret (.tup (rep x n.toNat)) else bad
  | .fdiv, .int i, .int j => if 0 < j ∧ j.natAbs.log2 < 9000 then ret (.int (i / j)) else bad
  | .mod, .int i, .int j => if 0 < j then ret (.int (i % j)) else bad
  | .pow, .int i, .int j => if 0 ≤ j ∧ j ≤ 1000000 ∧ i.natAbs < 2 ^ 64 then ret (.int (i ^ j.toNat)) else bad
  | _, _, _ => bad

def inD (h : Sto) (a b : D) : Option Bool := match b with
  | .str y => match a with
    | .str [c] => some (decide (c ∈ y))
    | _ => none
  | .tup ys => if flat a && ys.all flat then some (ys.any fun z => eqv z a) else none
  | .ref l => match h[l]? with
    | some (.lst ys) => if flat a && ys.all flat then some (ys.any fun z => eqv z a) else none
    | _ => none
  | _ => none

/-- name op= value -/
def augD (o : BOp) (a b : D) : M D := match o, a, b with
  | .add, .int i, .int j => ret (.int (i + j))
  | .add, .str x, .str y => if x.length + y.length ≤ lim then ret (.str (x ++ y)) else bad
  | .sub, .int i, .int j => ret (.int (i - j))
  | .mul, .int i, .int j => if i.natAbs.log2 + j.natAbs.log2 < 1000000 then ret (.int (i * j)) else bad
  | _, _, _ => bad

/-- whether a value is None -/
def isNone : D → Bool
  | .non => true
  | _ => false

def cmpD (h : Sto) (o : COp) (a b : D) : Option Bool := match o with
  | .eq => eqD h a b
  | .ne => (eqD h a b).map (!·)
  | .lt => match a, b with
    | .int i, .int j => some (decide (i < j))
    | .str x, .str y => some (decide (x < y))
    | _, _ => none
  | .le => match a, b with
    | .int i, .int j => some (decide (i ≤ j))
    | .str x, .str y => some (!decide (y < x))
    | _, _ => none
  | .gt => match a, b with
    | .int i, .int j => some (decide (j < i))
    | .str x, .str y => some (decide (y < x))
    | _, _ => none
  | .ge => match a, b with
    | .int i, .int j => some (decide (j ≤ i))
    | .str x, .str y => some (!decide (x < y))
    | _, _ => none
  | .isn => match b with
    | .non => some (isNone a)
    | _ => none
  | .isnn => match b with
    | .non => some (!isNone a)
    | _ => none
  | .inn => inD h a b
  | .nin => (inD h a b).map (!·)

def idxD (h : Sto) (a b : D) : Option D := match a, b with
  | .tup xs, .int i => atI xs i
  | .fl xs, .int i => atI xs i
  | .str s, .int i => (atI s i).map fun c => .str [c]
  | .ref l, .int i => match h[l]? with
    | some (.lst xs) => atI xs i
    | some (.dct kvs) => kget kvs (.i i)
    | _ => none
  | .ref l, .str s => match h[l]? with
    | some (.dct kvs) => kget kvs (.s s)
    | _ => none
  | _, _ => none

/-- a bound of a slice: left out, or an int -/
def asB (no : Bool) (m : M D) : M (Option Int) := if no then ret none else bnd m fun x => match x with
  | .int i => ret (some i)
  | _ => bad
def sliceD (a : D) (l u : Option Int) : M D := match a with
  | .tup xs => ret (.tup (slice xs l u))
  | .str s => ret (.str (slice s l u))
  | .ref k => fun h => match h[k]? with
    | some (.lst xs) => alloc (.lst (slice xs l u)) h
    | _ => .bad
  | _ => bad

/-! ### built-ins -/
inductive BF where
  | len | abs | max | min | int | str | list | tuple | sum | all | any | lenSet | bool
  deriving DecidableEq
inductive BM where
  | append | get | pop | count | index | extend | insert
  | startswith | endswith | zfill | split | join
  deriving DecidableEq

/-- the figures of a number, the first one first -/
def figs (fuel n : Nat) : List Nat := match fuel with
  | 0 => []
  | f + 1 => if n < 10 then [48 + n] else figs f (n / 10) ++ [48 + n % 10]
def strN (n : Nat) : List Nat := figs (n + 1) n
def valN (s : List Nat) (acc : Nat) : Nat := match s with
  | [] => acc
  | c :: r => valN r (acc * 10 + (c - 48))
/-- the number that a text of figures alone, up to 600, writes -/
def intS (s : List Nat) : Option Int :=
  if 1 ≤ s.length ∧ s.length ≤ 600 ∧ s.all (fun c => decide (48 ≤ c ∧ c ≤ 57)) then some (valN s 0 : Nat) else none

def intsD : List D → Option (List Int)
  | [] => some []
  | .int i :: r => (intsD r).map (i :: ·)
  | _ => none
def boolsD : List D → Option (List Bool)
  | [] => some []
  | .bl b :: r => (boolsD r).map (b :: ·)
  | _ => none
def strsD : List D → Option (List (List Nat))
  | [] => some []
  | .str s :: r => (strsD r).map (s :: ·)
  | _ => none

def items (h : Sto) : D → Option (List D)
  | .tup xs => some xs
  | .fl xs => some xs
  | .str s => some (s.map fun c => .str [c])
  | .ref l => match h[l]? with
    | some (.lst ds) => some ds
    | _ => none
  | _ => none

def lenD (h : Sto) : D → Option Nat
  | .str s => some s.length
  | .tup xs => some xs.length
  | .fl xs => some xs.length
  | .ref l => match h[l]? with
    | some (.lst ds) => some ds.length
    | some (.dct kvs) => some kvs.length
    | _ => none
  | _ => none

def bfD (f : BF) (as : List D) : M D := match f, as with
  | .len, [a] => lookS fun h => (lenD h a).map fun n => .int n
  | .abs, [.int i] => ret (.int (if i < 0 then -i else i))
  | .max, [.int i, .int j] => ret (.int (if j > i then j else i))
  | .min, [.int i, .int j] => ret (.int (if j < i then j else i))
  | .int, [.str s] => ofO ((intS s).map .int)
  | .str, [.int i] => if 0 ≤ i ∧ i.natAbs < 10 ^ 500 then ret (.str (strN i.natAbs)) else bad
  | .sum, [.ref l] => lookS fun h => match h[l]? with
    | some (.lst ds) => (intsD ds).map fun ns => .int ns.sum
    | _ => none
  | .all, [.ref l] => lookS fun h => match h[l]? with
    | some (.lst ds) => (boolsD ds).map fun bs => .bl (bs.all id)
    | _ => none
  | .any, [.ref l] => lookS fun h => match h[l]? with
    | some (.lst ds) => (boolsD ds).map fun bs => .bl (bs.any id)
    | _ => none
  | _, _ => bad

/-- a store with another object at a place -/
def setO (l : Nat) (o : Obj) : M D := fun h => .ok .non (h.set l o)

/-- the place of the first that is equal -/
def firstEq (a : D) : List D → Nat → Option Nat
  | [], _ => none
  | x :: xs, n => if eqv x a then some n else firstEq a xs (n + 1)

/-- what an f'..' shows of a value -/
def textOf : D → Option (List Nat)
  | .str s => some s
  | .int i => if 0 ≤ i ∧ i.natAbs < 10 ^ 500 then some (strN i.natAbs) else none
  | _ => none
/-- a text cut at a sign -/
def splitC (c : Nat) : List Nat → List (List Nat)
  | [] => [[]]
  | x :: r => if x = c then [] :: splitC c r else match splitC c r with
    | [] => [[x]]
    | p :: ps => (x :: p) :: ps
/-- texts with another one between them -/
def joinS (sep : List Nat) : List (List Nat) → List Nat
  | [] => []
  | [x] => x
  | x :: y :: r => x ++ sep ++ joinS sep (y :: r)
/-- filled with 0 at the left, behind a sign -/
def zfillS (s : List Nat) (i : Int) : List Nat := if i ≤ s.length then s else match s with
  | 43 :: r => 43 :: (List.replicate (i.toNat - s.length) 48 ++ r)
  | 45 :: r => 45 :: (List.replicate (i.toNat - s.length) 48 ++ r)
  | r => List.replicate (i.toNat - s.length) 48 ++ r
def bmD (m : BM) (o : D) (as : List D) : M D := match m, o, as with
  | .append, .ref l, [d] => fun h => match h[l]? with
    | some (.lst ds) => if ds.length < lim then setO l (.lst (ds ++ [d])) h else .bad
    | _ => .bad
  | .get, .ref l, [k, d] => lookS fun h => match h[l]?, keyOf k with
    | some (.dct kvs), some q => some (match kget kvs q with | some x => x | none => d)
    | _, _ => none
  | .count, .ref l, [a] => lookS fun h => match h[l]? with
    | some (.lst ds) => if flat a && ds.all flat then some (.int ((ds.filter fun z => eqv z a).length : Nat)) else none
    | _ => none
  | .index, .ref l, [a] => lookS fun h => match h[l]? with
    | some (.lst ds) => if flat a && ds.all flat then (firstEq a ds 0).map fun n => .int (n : Nat) else none
    | _ => none
  | .startswith, .str x, [.str y] => ret (.bl (y.isPrefixOf x))
  | .endswith, .str x, [.str y] => ret (.bl (y.isSuffixOf x))
  | .zfill, .str x, [.int i] => if -1000000 ≤ i ∧ i ≤ 1000000 then ret (.str (zfillS x i)) else bad
  | .split, .str x, [.str [c]] => if x.length + 2 ≤ lim then alloc (.lst ((splitC c x).map .str)) else bad
  | .join, .str x, [.ref l] => lookS fun h => match h[l]? with
    | some (.lst ds) => (match strsD ds with
      | some ss => if (ss.map (·.length)).sum + ss.length * x.length ≤ lim then some (.str (joinS x ss)) else none
      | none => none)
    | _ => none
  | _, _, _ => bad

/-- whether a method is one of the object's -/
def bmOk (h : Sto) (m : BM) (o : D) : Bool := match o with
  | .str _ => (match m with
    | .startswith => true
    | .endswith => true
    | .zfill => true
    | .split => true
    | .join => true
    | _ => false)
  | .ref l => (match h[l]? with
    | some (.lst _) => (match m with
      | .append => true
      | .count => true
      | .index => true
      | _ => false)
    | some (.dct _) => (match m with
      | .get => true
      | _ => false)
    | _ => false)
  | _ => false
def guardS (f : Sto → Bool) : M Unit := fun h => if f h then .ok () h else .bad

/-- isinstance: of which class -/
inductive Ty where
  | int | str | bool | tuple | exc (c : Nat) | valueError
def isiD (sub : Nat → Nat → Option Bool) (d : D) : Ty → Option Bool
  | .int => match d with
    | .int _ => some true
    | .bl _ => some true
    | .non => some false
    | .str _ => some false
    | .tup _ => some false
    | _ => none
  | .bool => match d with
    | .int _ => some false
    | .bl _ => some true
    | .non => some false
    | .str _ => some false
    | .tup _ => some false
    | _ => none
  | .str => match d with
    | .int _ => some false
    | .bl _ => some false
    | .non => some false
    | .str _ => some true
    | .tup _ => some false
    | _ => none
  | .tuple => match d with
    | .int _ => some false
    | .bl _ => some false
    | .non => some false
    | .str _ => some false
    | .tup _ => some true
    | _ => none
  | .exc c => match d with
    | .exc k => sub k c
    | _ => none
  | .valueError => match d with
    | .exc k => (sub k k).map fun _ => true
    | _ => none

/-! ### the syntax -/
inductive Tg where
  | one (i : Nat) | many (is : List Nat)
inductive SrcK where
  | val | rng1 | rng2 | enum | zip
mutual
inductive E where
  | no
  | var (i : Nat)
  | cst (d : D)
  | bin (o : BOp) (a b : E)
  | neg (a : E)
  | not (a : E)
  | and (a b : E)
  | or (a b : E)
  | cmp (o : COp) (a b : E)
  | chn (o p : COp) (a b c : E)
  | ifx (c a b : E)
  | tup (as : Es)
  | lst (as : Es)
  | dct (ks : List Ky) (as : Es)
  | idx (a b : E)
  | slc (a lo hi : E)
  | blt (f : BF) (as : Es)
  | bmt (m : BM) (o : E) (as : Es)
  | isi (a : E) (t : Ty)
  | call (f : Nat) (as : Es)
  | perm (f : Nat) (ord : List Nat) (as : Es)
  | hrd (f : Nat) (as : Es) (body : E)
  | orc
  /-- f'..': the parts -/
  | fmt (as : Es)
  /-- [e for t in .. if c]; own: the block's own slots -/
  | lc (t : Tg) (k : SrcK) (as : Es) (c e : E) (own : List Nat)
inductive Es where
  | nil
  | cons (e : E) (es : Es)
end

def isNo : E → Bool
  | .no => true
  | _ => false

inductive S where
  | pas
  | seq (a b : S)
  | set (i : Nat) (e : E)
  | setT (is : List Nat) (e : E)
  /-- a, *b, c = e: the slots, which one takes the rest -/
  | setS (is : List Nat) (i : Nat) (e : E)
  | par (is : List Nat) (as : Es)
  | setI (o i e : E)
  | aug (i : Nat) (o : BOp) (e : E)
  | exp (e : E)
  | ret (e : E)
  | retN
  | ite (c : E) (a b : S)
  | for_ (t : Tg) (k : SrcK) (as : Es) (body : S)
  | whl (c : E) (body : S)
  | brk
  | cnt
  | rai (c : Nat)
  | tryAs (body : S) (c : Nat) (i k : Nat)

/-! ### what they do -/
structure G where
  /-- the defs, at this depth and deeper -/
  calls : Nat → Nat → List D → M D → M D
  sub : Nat → Nat → Option Bool
  wf : Nat
  orc : M D
abbrev G.call (g : G) : Nat → List D → M D → M D := g.calls 0
/-- one deeper -/
def G.low (g : G) : G := { g with calls := fun k => g.calls (k + 1) }

abbrev Fr := List (Option D)

def getV (σ : Fr) (i : Nat) : Option D := match σ[i]? with
  | some (some d) => some d
  | _ => none

def setMany : List Nat → List D → Fr → Option Fr
  | [], [], σ => some σ
  | i :: is, d :: ds, σ => setMany is ds (σ.set i (some d))
  | _, _, _ => none
def setTg (t : Tg) (d : D) (σ : Fr) : Option Fr := match t with
  | .one i => some (σ.set i (some d))
  | .many is => match d with
    | .tup ds => setMany is ds σ
    | _ => none

/-- what a loop walks: the item at a place, or the end -/
abbrev Cur := Sto → Nat → Option (Option D)
def curOf (h0 : Sto) (k : SrcK) (as : List D) : Option Cur := match k, as with
  | .val, [.tup xs] => some fun _ i => some xs[i]?
  | .val, [.fl xs] => some fun _ i => some xs[i]?
  | .val, [.str s] => some fun _ i => some (s[i]?.map fun c => .str [c])
  | .val, [.ref l] => (match h0[l]? with
    | some (.lst _) => some fun h i => (match h[l]? with
      | some (.lst ds) => some ds[i]?
      | _ => none)
    | _ => none)
  | .rng1, [.int n] => if -(2 ^ 62) ≤ n ∧ n < 2 ^ 62 then some fun _ i => some (if (i : Int) < n then some (.int i) else none) else none
  | .rng2, [.int a, .int b] => if -(2 ^ 62) ≤ a ∧ a < 2 ^ 62 ∧ -(2 ^ 62) ≤ b ∧ b < 2 ^ 62 then some fun _ i => some (if a + (i : Int) < b then some (.int (a + i)) else none) else none
  | _, _ => none

/-- the slots of a block's own names, emptied -/
def wipeF (σ : Fr) : List Nat → Fr
  | [] => σ
  | v :: vs => (wipeF σ vs).set v none
/-- a list comprehension's turns -/
def lcL (cur : Cur) (t : Tg) (own : List Nat) (c : Fr → M Bool) (e : Fr → M D) (σ : Fr) : Nat → Nat → List D → M (List D)
  | 0, _, _ => bad
  | n + 1, i, acc => fun h => match cur h i with
    | none => .bad
    | some none => .ok acc h
    | some (some d) => match setTg t d (wipeF σ own) with
      | none => .bad
      | some σ1 => match c σ1 h with
        | .ok false h1 => lcL cur t own c e σ n (i + 1) acc h1
        | .ok true h1 => (match e σ1 h1 with
          | .ok y h2 => if acc.length < lim then lcL cur t own c e σ n (i + 1) (acc ++ [y]) h2 else .bad
          | _ => .bad)
        | _ => .bad

def dctOf : List Ky → List D → List (Ky × D) → List (Ky × D)
  | k :: ks, d :: ds, acc => dctOf ks ds (kput acc k d)
  | _, _, acc => acc

mutual
def evE : G → E → Fr → M D
  | _, .no, _ => ret .non
  | _, .var i, σ => ofO (getV σ i)
  | _, .cst d, _ => ret d
  | g, .bin o a b, σ => bnd (evE g a σ) fun x => bnd (evE g b σ) fun y => binD o x y
  | g, .neg a, σ => bnd (evE g a σ) fun x => match x with
    | .int i => ret (.int (-i))
    | _ => bad
  | g, .not a, σ => bnd (evE g a σ) fun x => lookS fun h => (truth h x).map fun b => .bl (!b)
  | g, .and a b, σ => bnd (evE g a σ) fun x => bnd (lookS fun h => truth h x) fun t => if t then evE g b σ else ret x
  | g, .or a b, σ => bnd (evE g a σ) fun x => bnd (lookS fun h => truth h x) fun t => if t then ret x else evE g b σ
  | g, .cmp o a b, σ => bnd (evE g a σ) fun x => bnd (evE g b σ) fun y => lookS fun h => (cmpD h o x y).map .bl
  | g, .chn o p a b c, σ => bnd (evE g a σ) fun x => bnd (evE g b σ) fun y => bnd (lookS fun h => cmpD h o x y) fun t =>
      if t then bnd (evE g c σ) fun z => lookS fun h => (cmpD h p y z).map .bl else ret (.bl false)
  | g, .ifx c a b, σ => bnd (evE g c σ) fun x => bnd (lookS fun h => truth h x) fun t => if t then evE g a σ else evE g b σ
  | g, .tup as, σ => bnd (evA g as σ) fun ds => if ds.length ≤ lim then ret (.tup ds) else bad
  | g, .lst as, σ => bnd (evA g as σ) fun ds => if ds.length ≤ lim then alloc (.lst ds) else bad
  | g, .dct ks as, σ => bnd (evA g as σ) fun ds => if ds.length ≤ 15 ∧ ks.length = ds.length then alloc (.dct (dctOf ks ds [])) else bad
  | g, .idx a b, σ => bnd (evE g a σ) fun x => bnd (evE g b σ) fun y => lookS fun h => idxD h x y
  | g, .slc a lo hi, σ => bnd (evE g a σ) fun x => bnd (asB (isNo lo) (evE g lo σ)) fun l => bnd (asB (isNo hi) (evE g hi σ)) fun u => sliceD x l u
  | g, .blt f as, σ => bnd (evA g as σ) fun ds => bfD f ds
  | g, .bmt m o as, σ => bnd (evE g o σ) fun x => bnd (guardS fun h => bmOk h m x) fun _ => bnd (evA g as σ) fun ds => bmD m x ds
  | g, .isi a t, σ => bnd (evE g a σ) fun x => ofO ((isiD g.sub x t).map .bl)
  | g, .call f as, σ => bnd (evA g as σ) fun ds => g.call f ds bad
  | g, .perm f ord as, σ => bnd (evA g as σ) fun ds => bnd (ofO (ord.mapM fun i => ds[i]?)) fun xs => g.call f xs bad
  | g, .hrd f as body, σ => bnd (evA g as σ) fun ds => g.call f (ds ++ [.clo]) (evE g.low body σ)
  | g, .orc, _ => g.orc
  | g, .fmt as, σ => bnd (evF g as σ []) fun s => ret (.str s)
  | g, .lc t k as c e own, σ => bnd (evA g as σ) fun ds h => match curOf h k ds with
      | none => .bad
      | some cur => bnd (lcL cur t own (fun σ1 => bnd (evE g c σ1) fun x => lookS fun h => truth h x) (evE g e) σ g.wf 0 []) (fun acc => alloc (.lst acc)) h
def evA : G → Es → Fr → M (List D)
  | _, .nil, _ => ret []
  | g, .cons e es, σ => bnd (evE g e σ) fun d => bnd (evA g es σ) fun ds => ret (d :: ds)
/-- the parts of an f'..', behind a text -/
def evF : G → Es → Fr → List Nat → M (List Nat)
  | _, .nil, _, acc => ret acc
  | g, .cons e es, σ, acc => bnd (evE g e σ) fun d => bnd (ofO (textOf d)) fun s => if acc.length + s.length ≤ lim then evF g es σ (acc ++ s) else bad
end

def evT (g : G) (e : E) (σ : Fr) : M Bool := bnd (evE g e σ) fun x => lookS fun h => truth h x

inductive Flow where
  | next | brk | cnt | ret (d : D)

inductive RS where
  | ok (f : Flow) (σ : Fr) (h : Sto) | exn (c : Nat) (σ : Fr) (h : Sto) | bad

abbrev MS := Fr → Sto → RS

/-- an expression, then what is done with its value -/
def useE {α : Type} (m : Fr → M α) (f : α → MS) : MS := fun σ h => match m σ h with
  | .ok a h1 => f a σ h1
  | .exn c h1 => .exn c σ h1
  | .bad => .bad
def nextS (σ : Fr) : MS := fun _ h => .ok .next σ h
def badS : MS := fun _ _ => .bad
def seqS (a b : MS) : MS := fun σ h => match a σ h with
  | .ok .next σ1 h1 => b σ1 h1
  | r => r
/-- a loop: so many turns at most, from a place on -/
def loopS (cur : Cur) (t : Tg) (body : MS) : Nat → Nat → MS
  | 0, _, _, _ => .bad
  | n + 1, i, σ, h => match cur h i with
    | none => .bad
    | some none => .ok .next σ h
    | some (some d) => match setTg t d σ with
      | none => .bad
      | some σ1 => match body σ1 h with
        | .ok .next σ2 h2 => loopS cur t body n (i + 1) σ2 h2
        | .ok .cnt σ2 h2 => loopS cur t body n (i + 1) σ2 h2
        | .ok .brk σ2 h2 => .ok .next σ2 h2
        | r => r
def whileS (c : Fr → M Bool) (body : MS) : Nat → MS
  | 0, _, _ => .bad
  | n + 1, σ, h => match c σ h with
    | .bad => .bad
    | .exn k h1 => .exn k σ h1
    | .ok false h1 => .ok .next σ h1
    | .ok true h1 => match body σ h1 with
      | .ok .next σ2 h2 => whileS c body n σ2 h2
      | .ok .cnt σ2 h2 => whileS c body n σ2 h2
      | .ok .brk σ2 h2 => .ok .next σ2 h2
      | r => r

/-- x[y] = d -/
def setID (x y d : D) (h : Sto) : Option Sto := match x with
  | .ref l => (match h[l]?, keyOf y with
    | some (.dct kvs), some k => if kvs.length < lim then some (h.set l (.dct (kput kvs k d))) else none
    | some (.lst ds), some (.i n) => (match place ds.length n with
      | some j => some (h.set l (.lst (ds.set j d)))
      | none => none)
    | _, _ => none)
  | _ => none
/-- the items of a list or a tuple -/
def seqOf (h : Sto) : D → Option (List D)
  | .tup ds => some ds
  | .ref l => match h[l]? with
    | some (.lst ds) => some ds
    | _ => none
  | _ => none
/-- what n targets get, the one at i a list of the rest at l -/
def starD (n i l : Nat) (ds : List D) : List D := ds.take i ++ [.ref l] ++ (ds.drop i).drop (ds.length - (n - 1))
def starMid (n i : Nat) (ds : List D) : List D := (ds.drop i).take (ds.length - (n - 1))
def exS (g : G) : S → MS
  | .pas => fun σ h => .ok .next σ h
  | .seq a b => seqS (exS g a) (exS g b)
  | .set i e => useE (evE g e) fun d σ h => .ok .next (σ.set i (some d)) h
  | .setT is e => useE (evE g e) fun d σ h => match setTg (.many is) d σ with
    | some σ1 => .ok .next σ1 h
    | none => .bad
  | .setS is i e => useE (evE g e) fun d σ h => match seqOf h d with
    | some ds => if is.length ≤ ds.length + 1 ∧ i < is.length then (match setMany is (starD is.length i h.length ds) σ with
      | some σ1 => .ok .next σ1 (h ++ [.lst (starMid is.length i ds)])
      | none => .bad) else .bad
    | none => .bad
  | .par is as => useE (evA g as) fun ds σ h => match setMany is ds σ with
    | some σ1 => .ok .next σ1 h
    | none => .bad
  | .setI o i e => useE (evE g e) fun d => useE (evE g o) fun x => useE (evE g i) fun y => fun σ h => match setID x y d h with
    | some h1 => .ok .next σ h1
    | none => .bad
  | .aug i o e => fun σ h => match getV σ i with
    | none => .bad
    | some x => useE (evE g e) (fun y => useE (fun _ => augD o x y) fun z σ h => .ok .next (σ.set i (some z)) h) σ h
  | .exp e => useE (evE g e) fun _ σ h => .ok .next σ h
  | .ret e => useE (evE g e) fun d σ h => .ok (.ret d) σ h
  | .retN => fun σ h => .ok (.ret .non) σ h
  | .ite c a b => useE (evT g c) fun t => if t then exS g a else exS g b
  | .for_ t k as body => useE (evA g as) fun ds σ h => match curOf h k ds with
    | none => .bad
    | some cur => loopS cur t (exS g body) g.wf 0 σ h
  | .whl c body => whileS (evT g c) (exS g body) g.wf
  | .brk => fun σ h => .ok .brk σ h
  | .cnt => fun σ h => .ok .cnt σ h
  | .rai c => fun σ h => .exn c σ h
  | .tryAs body c i k => fun σ h => match exS g body σ h with
    | .exn d σ1 h1 => (match g.sub d c with
      | some true => .ok .next ((σ1.set k (some (.exc d))).set i none) h1
      | some false => .exn d σ1 h1
      | none => .bad)
    | r => r

/-- a def: how many slots, its body -/
structure Fn where
  par : Nat
  slots : Nat
  body : S

def start (n : Nat) (ds : List D) : Fr := ds.map some ++ List.replicate (n - ds.length) none

def runFn (g : G) (f : Fn) (ds : List D) : M D := fun h =>
  if ds.length = f.par then
    match exS g f.body (start f.slots ds) h with
    | .ok (.ret d) _ h1 => .ok d h1
    | .ok .next _ h1 => .ok .non h1
    | .ok _ _ _ => .bad
    | .exn c _ h1 => .exn c h1
    | .bad => .bad
  else .bad

structure Pg where
  fns : List Fn
  sub : Nat → Nat → Option Bool
  wf : Nat

/-- the defs, n deep at most: at this depth, and deeper -/
def callS (p : Pg) : Nat → Nat → Nat → List D → M D → M D
  | 0, _, _, _, _ => bad
  | n + 1, 0, f, ds, o => match p.fns[f]? with
    | none => bad
    | some fn => runFn { calls := callS p n, sub := p.sub, wf := p.wf, orc := o } fn ds
  | n + 1, k + 1, f, ds, o => callS p n k f ds o
abbrev callN (p : Pg) (n : Nat) : Nat → List D → M D → M D := callS p n 0
def gOf (p : Pg) (n : Nat) (o : M D) : G := { calls := callS p n, sub := p.sub, wf := p.wf, orc := o }
theorem gOf_low (p : Pg) (n : Nat) (o : M D) : (gOf p (n + 1) o).low = gOf p n o := rfl
theorem callN_succ (p : Pg) (n f : Nat) (ds : List D) (o : M D) : callN p (n + 1) f ds o = match p.fns[f]? with
    | none => bad
    | some fn => runFn (gOf p n o) fn ds := rfl
end Mi

set_option Elab.async false
set_option linter.all false
set_option autoImplicit false
set_option maxRecDepth 100000
set_option maxHeartbeats 2000000
/-! Sa: how Mi's values and store lie in the abstract heap; steps; readings made of Mi's results. -/
namespace Mi
open PySem L2

abbrev Rho := List Addr
/-- an exception object of the class at C -/
def ExH (C a : Addr) : HO := .ext fun h => ∃ (oe : PySem.Obj) (vs : Array Value), h.get? a = some oe ∧ Zc (.ref C) none oe ∧ oe.data = .fields vs

/-- what a text's codes are in the model -/
abbrev toS (s : List Nat) : Str := ⟨s.toArray⟩

/-- a text that is not too long, of plain signs -/
def okS (s : List Nat) : Prop := s.length ≤ lim ∧ ∀ c ∈ s, c < 128
/-- a list that is never written: locked, or of the written part -/
def SqF (K : PySem.W.Frag) (H : Hp) (a : Addr) (vs : List V) : Prop :=
  (∃ o, H a = some (.frz o (.lst vs))) ∨ ∃ (o : PySem.Obj) (its : Array Value) (n : Nat), K.lookup a = some o ∧ o.cls = .type "list" ∧ o.dict = none ∧ o.data = .seq its n ∧ its.size ≤ sizeLine ∧ Vals vs its.toList
theorem SqF.seq {K : PySem.W.Frag} {H : Hp} {a : Addr} {vs : List V} (h : SqF K H a vs) : SqL K H a vs := by
  rcases h with ⟨o, h⟩ | h
  · exact .inl (.inr ⟨o, h⟩)
  · exact .inr h
mutual
inductive DR (K : PySem.W.Frag) (cA : Nat → Addr) (p : Rho) (H : Hp) : D → V → Prop
  | non : DR K cA p H .non .non
  | bl (b : Bool) : DR K cA p H (.bl b) (.bl b)
  | int (i : Int) : DR K cA p H (.int i) (.int i)
  | str {s : List Nat} : okS s → DR K cA p H (.str s) (.str (toS s))
  | tup {ds : List D} {vs : List V} {a : Addr} : SqT K H a vs → DRs K cA p H ds vs → DR K cA p H (.tup ds) (.ref a)
  | ref {l : Nat} {a : Addr} : p[l]? = some a → DR K cA p H (.ref l) (.ref a)
  | exc {c : Nat} {a : Addr} : H a = some (ExH (cA c) a) → DR K cA p H (.exc c) (.ref a)
  | clo {a : Addr} : DR K cA p H .clo (.ref a)
  | fl {ds : List D} {vs : List V} {a : Addr} : SqF K H a vs → DRs K cA p H ds vs → DR K cA p H (.fl ds) (.ref a)
inductive DRs (K : PySem.W.Frag) (cA : Nat → Addr) (p : Rho) (H : Hp) : List D → List V → Prop
  | nil : DRs K cA p H [] []
  | cons {d : D} {ds : List D} {v : V} {vs : List V} : DR K cA p H d v → DRs K cA p H ds vs → DRs K cA p H (d :: ds) (v :: vs)
end

def kq : Ky → L2.Key
  | .i n => Sum.inl n
  | .s x => Sum.inr (toS x)
inductive KRs (K : PySem.W.Frag) (cA : Nat → Addr) (p : Rho) (H : Hp) : List (Ky × D) → List (L2.Key × V) → Prop
  | nil : KRs K cA p H [] []
  | cons {k : Ky} {d : D} {v : V} {r : List (Ky × D)} {s : List (L2.Key × V)} : DR K cA p H d v → KRs K cA p H r s → KRs K cA p H ((k, d) :: r) ((kq k, v) :: s)
inductive FRs (K : PySem.W.Frag) (cA : Nat → Addr) (p : Rho) (H : Hp) : List (List Nat × D) → List (Str × V) → Prop
  | nil : FRs K cA p H [] []
  | cons {k : List Nat} {d : D} {v : V} {r : List (List Nat × D)} {s : List (Str × V)} : DR K cA p H d v → FRs K cA p H r s → FRs K cA p H ((k, d) :: r) ((toS k, v) :: s)

/-- what stands at an address for an object of the store; oA: the classes of instances -/
def ORp (K : PySem.W.Frag) (cA oA : Nat → Addr) (p : Rho) (H : Hp) (a : Addr) : Obj → Prop
  | .lst ds => ∃ vs, H a = some (.lst vs) ∧ DRs K cA p H ds vs
  | .dct kvs => ∃ ws, H a = some (.dK ws) ∧ KRs K cA p H kvs ws
  | .ins c fs => ∃ dx ws, H a = some (.ins (oA c) dx ws) ∧ FRs K cA p H fs ws

/-- never written again -/
def immut : HO → Prop
  | .tup _ => True
  | .frz _ _ => True
  | .ext _ => True
  | _ => False
def noTbl : HO → Prop
  | .tbl _ => False
  | _ => True

structure Step (p : Rho) (H : Hp) (p' : Rho) (H' : Hp) : Prop where
  ext : ∃ more, p' = p ++ more ∧ ∀ a ∈ more, ∀ o, H a = some o → ¬ noTbl o
  keep : ∀ a o, H a = some o → (immut o ∨ a ∉ p) → noTbl o → H' a = some o
  dom : ∀ a o, H a = some o → noTbl o → ∃ u, H' a = some u ∧ noTbl u

theorem immut_noTbl {o : HO} (h : immut o) : noTbl o := by
  cases o <;> first | exact h.elim | trivial
theorem Step.rfl' (p : Rho) (H : Hp) : Step p H p H := ⟨⟨[], by simp, fun _ h => by cases h⟩, fun _ _ h _ _ => h, fun _ o h n => ⟨o, h, n⟩⟩
theorem Step.trans {p p1 p2 : Rho} {H H1 H2 : Hp} (a : Step p H p1 H1) (b : Step p1 H1 p2 H2) : Step p H p2 H2 := by
  obtain ⟨m1, e1, f1⟩ := a.ext
  obtain ⟨m2, e2, f2⟩ := b.ext
  refine ⟨⟨m1 ++ m2, by rw [e2, e1, List.append_assoc], fun x hx => ?_⟩, fun x o hx ho ht => ?_, fun x o hx ht => let ⟨u, h1, h2⟩ := a.dom x o hx ht; b.dom x u h1 h2⟩
  · rcases List.mem_append.mp hx with h | h
    · exact f1 x h
    · exact fun o q t => let ⟨u, h1, h2⟩ := a.dom x o q t; f2 x h u h1 h2
  · refine b.keep x o (a.keep x o hx ho ht) ?_ ht
    rcases ho with ho | ho
    · exact .inl ho
    · refine .inr fun hm => ?_
      rw [e1] at hm
      rcases List.mem_append.mp hm with h | h
      · exact ho h
      · exact f1 x h o hx ht
theorem Step.get {p p' : Rho} {H H' : Hp} (s : Step p H p' H') {l : Nat} {a : Addr} (h : p[l]? = some a) : p'[l]? = some a := by
  obtain ⟨m, e, _⟩ := s.ext
  rw [e, List.getElem?_append_left (List.getElem?_eq_some_iff.mp h).1]
  exact h
theorem Step.tup {K : PySem.W.Frag} {p p' : Rho} {H H' : Hp} (s : Step p H p' H') {a : Addr} {vs : List V} (h : SqT K H a vs) : SqT K H' a vs := by
  rcases h with (h | ⟨o, h⟩) | h
  · exact .inl (.inl (s.keep _ _ h (.inl trivial) trivial))
  · exact .inl (.inr ⟨o, s.keep _ _ h (.inl trivial) trivial⟩)
  · exact .inr h

theorem Step.fl {K : PySem.W.Frag} {p p' : Rho} {H H' : Hp} (s : Step p H p' H') {a : Addr} {vs : List V} (h : SqF K H a vs) : SqF K H' a vs := by
  rcases h with ⟨o, h⟩ | h
  · exact .inl ⟨o, s.keep _ _ h (.inl trivial) trivial⟩
  · exact .inr h
/-- what values lean on -/
structure Ste (p : Rho) (H : Hp) (p' : Rho) (H' : Hp) : Prop where
  ext : ∃ more, p' = p ++ more
  im : ∀ a o, H a = some o → immut o → H' a = some o
theorem Step.ste {p p' : Rho} {H H' : Hp} (s : Step p H p' H') : Ste p H p' H' := ⟨let ⟨m, e, _⟩ := s.ext; ⟨m, e⟩, fun a o h i => s.keep a o h (.inl i) (immut_noTbl i)⟩
theorem Ste.get {p p' : Rho} {H H' : Hp} (s : Ste p H p' H') {l : Nat} {a : Addr} (h : p[l]? = some a) : p'[l]? = some a := by
  obtain ⟨m, e⟩ := s.ext
  rw [e, List.getElem?_append_left (List.getElem?_eq_some_iff.mp h).1]
  exact h
theorem Ste.tup {K : PySem.W.Frag} {p p' : Rho} {H H' : Hp} (s : Ste p H p' H') {a : Addr} {vs : List V} (h : SqT K H a vs) : SqT K H' a vs := by
  rcases h with (h | ⟨o, h⟩) | h
  · exact .inl (.inl (s.im _ _ h trivial))
  · exact .inl (.inr ⟨o, s.im _ _ h trivial⟩)
  · exact .inr h
theorem Ste.fl {K : PySem.W.Frag} {p p' : Rho} {H H' : Hp} (s : Ste p H p' H') {a : Addr} {vs : List V} (h : SqF K H a vs) : SqF K H' a vs := by
  rcases h with ⟨o, h⟩ | h
  · exact .inl ⟨o, s.im _ _ h trivial⟩
  · exact .inr h
/-- a thing that changes is written, in the store or not -/
theorem Ste.upd {p more : Rho} {H : Hp} {q : Addr} {o : HO} (hq : ∀ u, H q = some u → ¬ immut u) : Ste p H (p ++ more) (upd H q o) :=
  ⟨⟨more, rfl⟩, fun a u e i => by rw [upd_ne (fun z => hq u (by rw [← z]; exact e) i)]; exact e⟩
section
variable {K : PySem.W.Frag} {cA oA : Nat → Addr} {p p' : Rho} {H H' : Hp}
mutual
theorem DR.monoE (s : Ste p H p' H') : ∀ {d : D} {v : V}, DR K cA p H d v → DR K cA p' H' d v
  | _, _, .non => .non
  | _, _, .bl b => .bl b
  | _, _, .int i => .int i
  | _, _, .str h => .str h
  | _, _, .tup h r => .tup (s.tup h) (DRs.monoE s r)
  | _, _, .ref h => .ref (s.get h)
  | _, _, .exc h => .exc (s.im _ _ h trivial)
  | _, _, .fl h r => .fl (s.fl h) (DRs.monoE s r)
  | _, _, .clo => .clo
theorem DRs.monoE (s : Ste p H p' H') : ∀ {ds : List D} {vs : List V}, DRs K cA p H ds vs → DRs K cA p' H' ds vs
  | _, _, .nil => .nil
  | _, _, .cons a b => .cons (DR.monoE s a) (DRs.monoE s b)
end
theorem KRs.monoE (s : Ste p H p' H') : ∀ {r : List (Ky × D)} {w : List (L2.Key × V)}, KRs K cA p H r w → KRs K cA p' H' r w
  | _, _, .nil => .nil
  | _, _, .cons a b => .cons (a.monoE s) (KRs.monoE s b)
theorem FRs.monoE (s : Ste p H p' H') : ∀ {r : List (List Nat × D)} {w : List (Str × V)}, FRs K cA p H r w → FRs K cA p' H' r w
  | _, _, .nil => .nil
  | _, _, .cons a b => .cons (a.monoE s) (FRs.monoE s b)
theorem DR.mono (s : Step p H p' H') {d : D} {v : V} (r : DR K cA p H d v) : DR K cA p' H' d v := r.monoE s.ste
theorem DRs.mono (s : Step p H p' H') {d : List D} {v : List V} (r : DRs K cA p H d v) : DRs K cA p' H' d v := r.monoE s.ste
theorem KRs.mono (s : Step p H p' H') {r : List (Ky × D)} {w : List (L2.Key × V)} (x : KRs K cA p H r w) : KRs K cA p' H' r w := x.monoE s.ste
theorem FRs.mono (s : Step p H p' H') {r : List (List Nat × D)} {w : List (Str × V)} (x : FRs K cA p H r w) : FRs K cA p' H' r w := x.monoE s.ste
theorem DRs.length : ∀ {ds : List D} {vs : List V}, DRs K cA p H ds vs → ds.length = vs.length
  | _, _, .nil => rfl
  | _, _, .cons _ b => congrArg Nat.succ (DRs.length b)
theorem DRs.get : ∀ {ds : List D} {vs : List V} {i : Nat} {d : D}, DRs K cA p H ds vs → ds[i]? = some d → ∃ v, vs[i]? = some v ∧ DR K cA p H d v
  | _, _, i, _, .nil, e => by simp at e
  | _, _, 0, _, .cons a _, e => by
    simp at e
    subst e
    exact ⟨_, rfl, a⟩
  | _, _, i + 1, d, .cons _ b, e => by
    obtain ⟨v, h1, h2⟩ := DRs.get (i := i) (d := d) b (by simpa using e)
    exact ⟨v, by simpa using h1, h2⟩
theorem DRs.get_none : ∀ {ds : List D} {vs : List V} {i : Nat}, DRs K cA p H ds vs → ds[i]? = none → vs[i]? = none := fun {ds vs i} r e => by
  have h := r.length
  rw [List.getElem?_eq_none_iff] at e ⊢
  omega
theorem DRs.append : ∀ {ds es : List D} {vs ws : List V}, DRs K cA p H ds vs → DRs K cA p H es ws → DRs K cA p H (ds ++ es) (vs ++ ws)
  | _, _, _, _, .nil, s => s
  | _, _, _, _, .cons a b, s => .cons a (DRs.append b s)
theorem DRs.take : ∀ {ds : List D} {vs : List V} (n : Nat), DRs K cA p H ds vs → DRs K cA p H (ds.take n) (vs.take n)
  | _, _, 0, _ => by simpa using DRs.nil
  | _, _, _ + 1, .nil => by simpa using DRs.nil
  | _, _, n + 1, .cons a b => .cons a (DRs.take n b)
theorem DRs.drop : ∀ {ds : List D} {vs : List V} (n : Nat), DRs K cA p H ds vs → DRs K cA p H (ds.drop n) (vs.drop n)
  | _, _, 0, r => by simpa using r
  | _, _, _ + 1, .nil => by simpa using DRs.nil
  | _, _, n + 1, .cons _ b => DRs.drop n b
theorem DRs.set : ∀ {ds : List D} {vs : List V} {d : D} {v : V} (n : Nat), DRs K cA p H ds vs → DR K cA p H d v → DRs K cA p H (ds.set n d) (vs.set n v)
  | _, _, _, _, 0, .nil, _ => .nil
  | _, _, _, _, _ + 1, .nil, _ => .nil
  | _, _, _, _, 0, .cons _ b, r => .cons r b
  | _, _, _, _, n + 1, .cons a b, r => .cons a (DRs.set n b r)
theorem DRs.rep {ds : List D} {vs : List V} (r : DRs K cA p H ds vs) : ∀ n : Nat, DRs K cA p H (List.replicate n ds).flatten (List.replicate n vs).flatten
  | 0 => .nil
  | n + 1 => by
    rw [List.replicate_succ, List.replicate_succ, List.flatten_cons, List.flatten_cons]
    exact r.append (DRs.rep r n)
end

/-- written objects -/
def isMut : Obj → Prop
  | _ => True
/-- the store lies in the heap -/
structure HR (K : PySem.W.Frag) (cA oA : Nat → Addr) (T : List (Addr × Str)) (p : Rho) (h : Sto) (H : Hp) : Prop where
  len : p.length = h.length
  obj : ∀ (l : Nat) (o : Obj) (a : Addr), h[l]? = some o → p[l]? = some a → ORp K cA oA p H a o
  sep : ∀ (l k : Nat) (o u : Obj) (a : Addr), p[l]? = some a → p[k]? = some a → h[l]? = some o → h[k]? = some u → isMut o → isMut u → l = k
  tab : LamX.Tabs T H

/-- a slot that holds a lambda: the lambda, its code object and name, what stood when it was made -/
structure Pin where
  i : Nat
  f : Addr
  c : Addr
  q : Str
  p : Rho
  H : Hp
/-- the fixed things: exceptions' classes, instances' classes, defs -/
structure Fx where
  K : PySem.W.Frag
  cA : Nat → Addr
  oA : Nat → Addr
  fA : Nat → Addr
  T : List (Addr × Str)
  pin : Option Pin
abbrev Fx.HR (F : Fx) := Mi.HR F.K F.cA F.oA F.T
abbrev Fx.DR (F : Fx) := Mi.DR F.K F.cA
abbrev Fx.DRs (F : Fx) := Mi.DRs F.K F.cA

section
variable {F : Fx} {p p' : Rho} {h : Sto} {H H' : Hp}
theorem ORp.keepE {a : Addr} {o : Obj} (s : Ste p H p' H') (same : ∀ u, H a = some u → H' a = some u) (x : ORp F.K F.cA F.oA p H a o) : ORp F.K F.cA F.oA p' H' a o := by
  cases o with
  | lst ds => obtain ⟨vs, e, r⟩ := x; exact ⟨vs, same _ e, r.monoE s⟩
  | dct kvs => obtain ⟨ws, e, r⟩ := x; exact ⟨ws, same _ e, r.monoE s⟩
  | ins c fs => obtain ⟨dx, ws, e, r⟩ := x; exact ⟨dx, ws, same _ e, r.monoE s⟩
theorem ORp.keep {a : Addr} {o : Obj} (s : Step p H p' H') (same : ∀ u, H a = some u → H' a = some u) (x : ORp F.K F.cA F.oA p H a o) : ORp F.K F.cA F.oA p' H' a o := by
  cases o with
  | lst ds => obtain ⟨vs, e, r⟩ := x; exact ⟨vs, same _ e, r.mono s⟩
  | dct kvs => obtain ⟨ws, e, r⟩ := x; exact ⟨ws, same _ e, r.mono s⟩
  | ins c fs => obtain ⟨dx, ws, e, r⟩ := x; exact ⟨dx, ws, same _ e, r.mono s⟩
/-- a written object's address is tracked, and by what may change -/
theorem ORp.mut {a : Addr} {o : Obj} (x : ORp F.K F.cA F.oA p H a o) (m : isMut o) : ∃ u, H a = some u ∧ ¬ immut u ∧ noTbl u ∧ (∀ c n, u ≠ LamX.CodeO c n) := by
  cases o with
  | lst ds => obtain ⟨vs, e, r⟩ := x; exact ⟨_, e, id, trivial, fun _ _ z => by unfold LamX.CodeO at z; cases z⟩
  | dct kvs => obtain ⟨ws, e, r⟩ := x; exact ⟨_, e, id, trivial, fun _ _ z => by unfold LamX.CodeO at z; cases z⟩
  | ins c fs => obtain ⟨dx, ws, e, r⟩ := x; exact ⟨_, e, id, trivial, fun _ _ z => by unfold LamX.CodeO at z; cases z⟩

/-- a new thing in the heap that the store does not name -/
theorem step_new {q : Addr} {o : HO} (hq : H q = none) : Step p H p (upd H q o) :=
  ⟨⟨[], by simp, fun _ h => by cases h⟩, fun a u e _ _ => by rw [upd_ne (ne_of_none e hq)]; exact e, fun a u e n => ⟨u, by rw [upd_ne (ne_of_none e hq)]; exact e, n⟩⟩
theorem tabs_upd {T : List (Addr × Str)} {q : Addr} {o : HO} (t : LamX.Tabs T H) (hc : ∀ u, H q = some u → noTbl u ∧ ∀ c n, u ≠ LamX.CodeO c n) : LamX.Tabs T (upd H q o) := fun z hz => by
  obtain ⟨ps, e1, e2, e3⟩ := t z hz
  refine ⟨ps, ?_, e2, fun pos cv hcv => ?_⟩
  · rw [upd_ne (fun e => ?_)]
    · exact e1
    · rw [e] at e1; exact (hc _ e1).1
  · obtain ⟨c, e4, e5⟩ := e3 pos cv hcv
    refine ⟨c, e4, ?_⟩
    rw [upd_ne (fun e => ?_)]
    · exact e5
    · rw [e] at e5; exact (hc _ e5).2 _ _ rfl
theorem HR.fresh {q : Addr} {o : HO} (x : F.HR p h H) (hq : H q = none) : F.HR p h (upd H q o) := by
  have s : Step p H p (upd H q o) := step_new hq
  refine ⟨x.len, fun l ob a e1 e2 => ORp.keep s (fun u e => ?_) (x.obj l ob a e1 e2), x.sep, tabs_upd x.tab fun u e => by rw [hq] at e; cases e⟩
  rw [upd_ne (ne_of_none e hq)]; exact e
/-- a new object of the store -/
theorem step_alloc {q : Addr} {o : HO} (hq : H q = none) : Step p H (p ++ [q]) (upd H q o) :=
  ⟨⟨[q], rfl, fun a h o e => by rw [List.mem_singleton.mp h, hq] at e; cases e⟩, (step_new (p := p) hq).keep, (step_new (p := p) hq).dom⟩
theorem HR.claim {q : Addr} {o : HO} {ob : Obj} (x : F.HR p h H) (hn : q ∉ p) (hm : ∀ u, H q = some u → ¬ immut u ∧ noTbl u ∧ ∀ c n, u ≠ LamX.CodeO c n) (m : isMut ob) (r : ORp F.K F.cA F.oA (p ++ [q]) (upd H q o) q ob) : F.HR (p ++ [q]) (h ++ [ob]) (upd H q o) := by
  have s : Ste p H (p ++ [q]) (upd H q o) := Ste.upd fun u e => (hm u e).1
  have hl := x.len
  have old : ∀ {l : Nat} {a : Addr}, (p ++ [q])[l]? = some a → (l < p.length ∧ p[l]? = some a) ∨ (l = p.length ∧ a = q) := fun {l a} e => by
    by_cases z : l < p.length
    · rw [List.getElem?_append_left z] at e; exact .inl ⟨z, e⟩
    · rw [List.getElem?_append_right (by omega)] at e
      have z2 : l - p.length = 0 := by
        by_cases z3 : l - p.length = 0
        · exact z3
        · rw [List.getElem?_eq_none (by simp; omega)] at e; cases e
      rw [z2] at e
      simp at e
      exact .inr ⟨by omega, e.symm⟩
  have oldh : ∀ {l : Nat} {u : Obj}, l < p.length → (h ++ [ob])[l]? = some u → h[l]? = some u := fun {l u} z e => by
    rw [List.getElem?_append_left (by omega)] at e; exact e
  refine ⟨by simp [hl], fun l u a e1 e2 => ?_, fun l k u w a e1 e2 e3 e4 m1 m2 => ?_, tabs_upd x.tab fun u e => (hm u e).2⟩
  · rcases old e2 with ⟨z, e⟩ | ⟨z, e⟩
    · exact ORp.keepE s (fun v ev => by rw [upd_ne (fun y => hn (by rw [← y]; exact List.mem_of_getElem? e))]; exact ev) (x.obj l u a (oldh z e1) e)
    · subst e
      rw [z, hl] at e1
      simp at e1
      subst e1
      exact r
  · rcases old e1 with ⟨z1, f1⟩ | ⟨z1, f1⟩ <;> rcases old e2 with ⟨z2, f2⟩ | ⟨z2, f2⟩
    · exact x.sep l k u w a f1 f2 (oldh z1 e3) (oldh z2 e4) m1 m2
    · subst f2; exact absurd (List.mem_of_getElem? f1) hn
    · subst f1; exact absurd (List.mem_of_getElem? f2) hn
    · omega
/-- every place of the store is tracked, and may change -/
theorem HR.trk (x : F.HR p h H) {a : Addr} (ha : a ∈ p) : ∃ u, H a = some u ∧ ¬ immut u ∧ noTbl u ∧ (∀ c n, u ≠ LamX.CodeO c n) := by
  obtain ⟨l, hl, e⟩ := List.mem_iff_getElem.mp ha
  have h1 : l < h.length := by rw [← x.len]; exact hl
  exact (x.obj l _ a (List.getElem?_eq_getElem h1) (by rw [← e]; exact List.getElem?_eq_getElem hl)).mut (by cases h[l] <;> trivial)
theorem HR.notin (x : F.HR p h H) {q : Addr} (hq : H q = none) : q ∉ p := fun hm => by
  obtain ⟨u, e, _⟩ := x.trk hm
  rw [hq] at e; cases e
theorem HR.alloc {q : Addr} {o : HO} {ob : Obj} (x : F.HR p h H) (hq : H q = none) (m : isMut ob) (r : ORp F.K F.cA F.oA (p ++ [q]) (upd H q o) q ob) : F.HR (p ++ [q]) (h ++ [ob]) (upd H q o) :=
  x.claim (x.notin hq) (fun u e => by rw [hq] at e; cases e) m r
/-- a thing that is not in the store is written -/
theorem HR.off {q : Addr} {o : HO} (x : F.HR p h H) (hn : q ∉ p) (hm : ∀ u, H q = some u → ¬ immut u ∧ noTbl u ∧ ∀ c n, u ≠ LamX.CodeO c n) : F.HR p h (upd H q o) := by
  have s : Ste p H (p ++ []) (upd H q o) := Ste.upd fun u e => (hm u e).1
  rw [List.append_nil] at s
  exact ⟨x.len, fun l u a e1 e2 => ORp.keepE s (fun v ev => by rw [upd_ne (fun y => hn (by rw [← y]; exact List.mem_of_getElem? e2))]; exact ev) (x.obj l u a e1 e2), x.sep, tabs_upd x.tab fun u e => (hm u e).2⟩
/-- what was not there yet may change -/
theorem Step.new {q : Addr} {o : HO} (s : Step p H p' H') (hq : H q = none) : Step p H p' (upd H' q o) :=
  ⟨s.ext, fun a u e i n => by rw [upd_ne (ne_of_none e hq)]; exact s.keep a u e i n, fun a u e n => by rw [upd_ne (ne_of_none e hq)]; exact s.dom a u e n⟩
theorem Step.claim {q : Addr} {o : HO} (s : Step p H p' H') (hq : H q = none) : Step p H (p' ++ [q]) (upd H' q o) := by
  obtain ⟨m, e, f⟩ := s.ext
  have t := s.new (o := o) hq
  refine ⟨⟨m ++ [q], by rw [e, List.append_assoc], fun a ha u hu => ?_⟩, t.keep, t.dom⟩
  rcases List.mem_append.mp ha with h | h
  · exact f a h u hu
  · rw [List.mem_singleton.mp h, hq] at hu; cases hu
/-- an object of the store is written -/
theorem step_write {q : Addr} {l : Nat} {ob : Obj} {o : HO} (x : F.HR p h H) (hl : h[l]? = some ob) (hq : p[l]? = some q) (m : isMut ob) (nt : noTbl o) : Step p H p (upd H q o) := by
  obtain ⟨u, e1, e2, e3, e4⟩ := (x.obj l ob q hl hq).mut m
  refine ⟨⟨[], by simp, fun _ h => by cases h⟩, fun a v e i nt => ?_, fun a v e n => ?_⟩
  · rw [upd_ne (fun z => ?_)]
    · exact e
    · subst z
      rcases i with i | i
      · rw [e1] at e; cases e; exact e2 i
      · exact i (List.mem_of_getElem? hq)
  · by_cases z : a = q
    · rw [z, upd_same]; exact ⟨_, rfl, nt⟩
    · rw [upd_ne z]; exact ⟨v, e, n⟩
theorem HR.write {q : Addr} {l : Nat} {ob ob' : Obj} {o : HO} (x : F.HR p h H) (hl : h[l]? = some ob) (hq : p[l]? = some q) (m : isMut ob) (m' : isMut ob') (nt : noTbl o) (r : ORp F.K F.cA F.oA p (upd H q o) q ob') : F.HR p (h.set l ob') (upd H q o) := by
  have s : Step p H p (upd H q o) := step_write x hl hq m nt
  obtain ⟨w, g1, g2, g3, g4⟩ := (x.obj l ob q hl hq).mut m
  have get : ∀ {k : Nat} {u : Obj}, (h.set l ob')[k]? = some u → (k = l ∧ u = ob') ∨ (k ≠ l ∧ h[k]? = some u) := fun {k u} e => by
    by_cases z : k = l
    · subst z
      rw [List.getElem?_set_self (List.getElem?_eq_some_iff.mp hl).1] at e
      exact .inl ⟨rfl, (Option.some.inj e).symm⟩
    · rw [List.getElem?_set_ne (Ne.symm z)] at e
      exact .inr ⟨z, e⟩
  have back : ∀ {k : Nat} {u : Obj}, (h.set l ob')[k]? = some u → isMut u → ∃ v, h[k]? = some v ∧ isMut v := fun {k u} e mu => by
    rcases get e with ⟨z, _⟩ | ⟨_, e⟩
    · exact ⟨ob, by rw [z]; exact hl, m⟩
    · exact ⟨u, e, mu⟩
  refine ⟨by rw [List.length_set]; exact x.len, fun k u a e1 e2 => ?_, fun i k u v a e1 e2 e3 e4 m1 m2 => ?_, tabs_upd x.tab fun u e => ?_⟩
  · rcases get e1 with ⟨z, e⟩ | ⟨z, e⟩
    · subst z e
      rw [hq] at e2; cases e2
      exact r
    · by_cases y : a = q
      · subst y
        cases u with
        | lst ds => exact absurd (x.sep k l _ _ a e2 hq e hl trivial m) z
        | dct kvs => exact absurd (x.sep k l _ _ a e2 hq e hl trivial m) z
        | ins c fs => exact absurd (x.sep k l _ _ a e2 hq e hl trivial m) z
      · exact ORp.keep s (fun v ev => by rw [upd_ne y]; exact ev) (x.obj k u a e e2)
  · obtain ⟨v1, f1, n1⟩ := back e3 m1
    obtain ⟨v2, f2, n2⟩ := back e4 m2
    exact x.sep i k v1 v2 a e1 e2 f1 f2 n1 n2
  · rw [g1] at e; cases e; exact ⟨g3, g4⟩
theorem HR.at_ (x : F.HR p h H) {l : Nat} {o : Obj} (e : h[l]? = some o) : ∃ a, p[l]? = some a := by
  have h1 := (List.getElem?_eq_some_iff.mp e).1
  rw [← x.len] at h1
  exact ⟨p[l], List.getElem?_eq_getElem h1⟩

/-! ### results -/
/-- what is wanted of a result: Q of its value, Z of an exception's class; R: how a value is borne -/
def PX {a b : Type} (F : Fx) (R : Rho → Hp → a → b → Prop) (p : Rho) (H : Hp) (r : Res a) (Q : b → Hp → Prop) (Z : Nat → Hp → Prop) : Prop := match r with
  | .ok d h1 => ∀ p1 H1 v, Step p H p1 H1 → F.HR p1 h1 H1 → R p1 H1 d v → Q v H1
  | .exn c h1 => ∀ p1 H1, Step p H p1 H1 → F.HR p1 h1 H1 → Z c H1
  | .bad => False
/-- borne as itself -/
def Rid {a : Type} : Rho → Hp → a → a → Prop := fun _ _ x y => y = x
abbrev PD (F : Fx) (p : Rho) (H : Hp) (r : Res D) (Q : VK) (Z : Nat → Hp → Prop) : Prop := PX F F.DR p H r Q Z
theorem PX.mono {a b : Type} {R : Rho → Hp → a → b → Prop} {r : Res a} {Q : b → Hp → Prop} {Z : Nat → Hp → Prop} (s : Step p H p' H') (x : PX F R p H r Q Z) : PX F R p' H' r Q Z := by
  cases r with
  | ok d h1 => exact fun p1 H1 v t => x p1 H1 v (s.trans t)
  | exn c h1 => exact fun p1 H1 t => x p1 H1 (s.trans t)
  | bad => exact x.elim
/-- the first of two -/
theorem px_bnd {a b c d : Type} {R : Rho → Hp → a → b → Prop} {R' : Rho → Hp → c → d → Prop} {m : M a} {g : a → M c} {Q : d → Hp → Prop} {T : b → Hp → Prop} {Z : Nat → Hp → Prop} (x : PX F R' p H (bnd m g h) Q Z)
    (k : ∀ p1 h1 e v H1, Step p H p1 H1 → F.HR p1 h1 H1 → R p1 H1 e v → PX F R' p1 H1 (g e h1) Q Z → T v H1) : PX F R p H (m h) T Z := by
  unfold bnd at x
  cases e : m h with
  | ok d h1 =>
    rw [e] at x
    exact fun p1 H1 v t y1 y2 => k p1 h1 d v H1 t y1 y2 (x.mono t)
  | exn c h1 => rw [e] at x; exact x
  | bad => rw [e] at x; exact x.elim
/-- a look at the store, then the rest -/
theorem px_look {a c d : Type} {R' : Rho → Hp → c → d → Prop} {f : Sto → Option a} {g : a → M c} {Q : d → Hp → Prop} {Z : Nat → Hp → Prop} (x : PX F R' p H (bnd (lookS f) g h) Q Z) : ∃ e, f h = some e ∧ PX F R' p H (g e h) Q Z := by
  unfold bnd lookS at x
  cases e : f h with
  | none => rw [e] at x; exact x.elim
  | some d => rw [e] at x; exact ⟨d, rfl, x⟩

/-- the slots -/
structure FR (F : Fx) (p : Rho) (H : Hp) (f : Fr) (s : L2.St) : Prop where
  len : f.length = s.length
  get : ∀ (i : Nat) (d : D), f[i]? = some (some d) → ∃ v, s[i]? = some (some v) ∧ F.DR p H d v
  pin : ∀ z, F.pin = some z → s[z.i]? = some (some (.ref z.f)) ∧ H z.c = some (LamX.CodeO z.c z.q) ∧ Step z.p z.H p H
/-- a slot that is not the lambda's -/
def offPin (F : Fx) (i : Nat) : Prop := ∀ z, F.pin = some z → i ≠ z.i
theorem FR.mono {f : Fr} {s : L2.St} (t : Step p H p' H') (x : FR F p H f s) : FR F p' H' f s :=
  ⟨x.len, fun i d e => let ⟨v, h1, h2⟩ := x.get i d e; ⟨v, h1, h2.mono t⟩, fun z e => let ⟨h1, h2, h3⟩ := x.pin z e; ⟨h1, t.keep _ _ h2 (.inl (by unfold LamX.CodeO; trivial)) (by unfold LamX.CodeO; trivial), h3.trans t⟩⟩
theorem FR.set {f : Fr} {s : L2.St} {d : D} {v : V} (x : FR F p H f s) (i : Nat) (hp : offPin F i) (r : F.DR p H d v) : FR F p H (f.set i (some d)) (s.set i (some v)) := by
  refine ⟨by simp [x.len], fun j e hj => ?_, fun z e => let ⟨h1, h2, h3⟩ := x.pin z e; ⟨by rw [List.getElem?_set_ne (hp z e)]; exact h1, h2, h3⟩⟩
  by_cases z : i = j
  · subst z
    by_cases hi : i < f.length
    · rw [List.getElem?_set_self hi] at hj
      cases hj
      rw [x.len] at hi
      exact ⟨v, by rw [List.getElem?_set_self hi], r⟩
    · rw [List.getElem?_eq_none (by simpa using hi)] at hj; cases hj
  · rw [List.getElem?_set_ne z] at hj
    obtain ⟨w, h1, h2⟩ := x.get j e hj
    exact ⟨w, by rw [List.getElem?_set_ne z]; exact h1, h2⟩
theorem FR.wipe {f : Fr} {s : L2.St} (x : FR F p H f s) (i : Nat) (hp : offPin F i) (o : Option V) : FR F p H (f.set i none) (s.set i o) := by
  refine ⟨by simp [x.len], fun j e hj => ?_, fun z e => let ⟨h1, h2, h3⟩ := x.pin z e; ⟨by rw [List.getElem?_set_ne (hp z e)]; exact h1, h2, h3⟩⟩
  by_cases z : i = j
  · subst z
    by_cases hi : i < f.length
    · rw [List.getElem?_set_self hi] at hj; cases hj
    · rw [List.getElem?_eq_none (by simpa using hi)] at hj; cases hj
  · rw [List.getElem?_set_ne z] at hj
    obtain ⟨w, h1, h2⟩ := x.get j e hj
    exact ⟨w, by rw [List.getElem?_set_ne z]; exact h1, h2⟩

/-! ### readings -/
/-- the wish of an exception by its class -/
abbrev zE (F : Fx) (W : WX) (s : L2.St) : Nat → Hp → Prop := fun c H1 => W (.ref (F.cA c)) none s H1
def tX {a b : Type} (F : Fx) (W : WX) (R : Rho → Hp → a → b → Prop) (m : Fr → M a) (s : L2.St) (H : Hp) (Q : b → Hp → Prop) : Prop := ∃ p f h, FR F p H f s ∧ F.HR p h H ∧ PX F R p H (m f h) Q (zE F W s)
abbrev tE (F : Fx) (W : WX) (m : Fr → M D) : TE := tX F W F.DR m
abbrev tA (F : Fx) (W : WX) (m : Fr → M (List D)) : TA := tX F W F.DRs m
abbrev tT (F : Fx) (W : WX) (m : Fr → M Bool) : TT := tX F W Rid m
/-- a statement's result -/
def PS_ (F : Fx) (W : WX) (p : Rho) (H : Hp) (r : RS) (D : Ends) : Prop := match r with
  | .ok fl f1 h1 => ∀ p1 H1 s1, Step p H p1 H1 → F.HR p1 h1 H1 → FR F p1 H1 f1 s1 → match fl with
    | .next => D.nx s1 H1
    | .brk => D.bk s1 H1
    | .cnt => D.ct s1 H1
    | .ret d => ∀ v, F.DR p1 H1 d v → D.rt v H1
  | .exn c f1 h1 => ∀ p1 H1 s1, Step p H p1 H1 → F.HR p1 h1 H1 → FR F p1 H1 f1 s1 → zE F W s1 c H1
  | .bad => False
theorem PS_.mono {W : WX} {r : RS} {D : Ends} (s : Step p H p' H') (x : PS_ F W p H r D) : PS_ F W p' H' r D := by
  cases r with
  | ok d f1 h1 => exact fun p1 H1 s1 t => x p1 H1 s1 (s.trans t)
  | exn c f1 h1 => exact fun p1 H1 s1 t => x p1 H1 s1 (s.trans t)
  | bad => exact x.elim
def tS (F : Fx) (W : WX) (m : MS) : TS := fun D s H => ∃ p f h, FR F p H f s ∧ F.HR p h H ∧ PS_ F W p H (m f h) D
/-- a statement that begins with an expression -/
theorem ps_use {a b : Type} {W : WX} {R : Rho → Hp → a → b → Prop} {m : Fr → M a} {g : a → MS} {D : Ends} {f : Fr} {s : L2.St} {T : b → Hp → Prop} (fr : FR F p H f s) (x : PS_ F W p H (useE m g f h) D)
    (k : ∀ p1 h1 e v H1, Step p H p1 H1 → F.HR p1 h1 H1 → FR F p1 H1 f s → R p1 H1 e v → PS_ F W p1 H1 (g e f h1) D → T v H1) : PX F R p H (m f h) T (zE F W s) := by
  unfold useE at x
  cases e : m f h with
  | ok d h1 =>
    rw [e] at x
    exact fun p1 H1 v t y1 y2 => k p1 h1 d v H1 t y1 (fr.mono t) y2 (x.mono t)
  | exn c h1 =>
    rw [e] at x
    exact fun p1 H1 t y1 => x p1 H1 s t y1 (fr.mono t)
  | bad => rw [e] at x; exact x.elim
end
theorem pe_weak {X : Cx} {e : Expr} {t t' : TE} (h : PE X e t) (i : ∀ s H Q, t' s H Q → t s H Q) : PE X e t' := ⟨fun pins s σ H Q I x => h.run pins s σ H Q I (i _ _ _ x)⟩
theorem pt_weak {X : Cx} {e : Expr} {t t' : TT} (h : PT X e t) (i : ∀ s H Q, t' s H Q → t s H Q) : PT X e t' := ⟨fun pins s σ H Q I x => h.run pins s σ H Q I (i _ _ _ x)⟩
theorem pa_weak {X : Cx} {es : List Expr} {t t' : TA} (h : PA X es t) (i : ∀ s H Q, t' s H Q → t s H Q) : PA X es t' := ⟨fun pos pins s σ H Q I x => h.run pos pins s σ H Q I (i _ _ _ x)⟩
theorem ps_weak {X : Cx} {st : Stmt} {t t' : TS} (h : PS X st t) (i : ∀ D s H, t' D s H → t D s H) : PS X st t' := ⟨fun pins s σ H D I x => h.run pins s σ H D I (i _ _ _ x)⟩
theorem pss_weak {X : Cx} {st : List Stmt} {t t' : TS} (h : PSs X st t) (i : ∀ D s H, t' D s H → t D s H) : PSs X st t' := ⟨fun pins s σ H D I x => h.run pins s σ H D I (i _ _ _ x)⟩
end Mi

set_option Elab.async false
set_option linter.all false
set_option autoImplicit false
set_option maxRecDepth 100000
set_option maxHeartbeats 2000000
/-! Sb: the operations by values: each of Mi's, over the rules of the layer. -/
namespace Mi
open PySem L2
theorem lim_val : lim = 16777216 := by unfold lim; rfl
theorem lim_eq : (sizeLine : Nat) = lim := by rw [sizeLine_eq, lim_val]
theorem toS_length (s : List Nat) : (toS s).length = s.length := by simp [Str.length]
theorem toS_app (a b : List Nat) : toS a ++ toS b = toS (a ++ b) := by
  show Str.mk (a.toArray ++ b.toArray) = Str.mk (a ++ b).toArray
  simp
theorem toS_inj {a b : List Nat} (h : toS a = toS b) : a = b := by
  have := congrArg (fun s : Str => s.cps.toList) h
  simpa using this
theorem toS_list (s : List Nat) : (toS s).cps.toList = s := by simp
theorem toS_of (s : Str) : toS s.cps.toList = s := by
  cases s
  simp

theorem rep_length {α : Type} (a : List α) (n : Nat) : (rep a n).length = a.length * n := by simp [rep, List.length_flatten, Nat.mul_comm]
theorem rep_mem {α : Type} {a : List α} {n : Nat} {c : α} (h : c ∈ rep a n) : c ∈ a := by
  unfold rep at h
  obtain ⟨l, h1, h2⟩ := List.mem_flatten.mp h
  rw [List.eq_of_mem_replicate h1] at h2
  exact h2
theorem okS.app {a b : List Nat} (x : okS a) (y : okS b) (h : a.length + b.length ≤ lim) : okS (a ++ b) := ⟨by simpa using h, fun c hc => (List.mem_append.mp hc).elim (x.2 c) (y.2 c)⟩
theorem okS.rep {a : List Nat} {n : Nat} (x : okS a) (h : a.length * n ≤ lim) : okS (rep a n) := ⟨by rw [rep_length]; exact h, fun c hc => x.2 c (rep_mem hc)⟩
theorem okS.sub {a b : List Nat} (x : okS a) (h : b.length ≤ a.length) (m : ∀ c ∈ b, c ∈ a) : okS b := ⟨Nat.le_trans h x.1, fun c hc => x.2 c (m c hc)⟩
theorem okS.one {c : Nat} (h : c < 128) : okS [c] := ⟨by rw [lim_val, List.length_singleton]; omega, fun z hz => by rw [List.mem_singleton.mp hz]; exact h⟩
section
variable {F : Fx} {p p' : Rho} {h : Sto} {H H' : Hp} {Q : VK} {Z : Nat → Hp → Prop}
theorem PD.now {d : D} {v : V} (x : PD F p H (.ok d h) Q Z) (hr : F.HR p h H) (r : F.DR p H d v) : Q v H := x p H v (Step.rfl' p H) hr r
theorem PD.then {d : D} {v : V} {h1 : Sto} {H1 : Hp} {p1 : Rho} (x : PD F p H (.ok d h1) Q Z) (s : Step p H p1 H1) (hr : F.HR p1 h1 H1) (r : F.DR p1 H1 d v) : Q v H1 := x p1 H1 v s hr r
/-- a new tuple -/
theorem PD.tup {ds : List D} {vs : List V} {q : Addr} (x : PD F p H (.ok (.tup ds) h) Q Z) (hr : F.HR p h H) (hq : H q = none) (r : F.DRs p H ds vs) : Q (.ref q) (upd H q (.tup vs)) :=
  x p _ _ (step_new hq) (hr.fresh hq) (.tup (SqT.of upd_same) (r.mono (step_new hq)))
/-- a new list -/
theorem PD.lst {ds : List D} {vs : List V} {q : Addr} (x : PD F p H (alloc (.lst ds) h) Q Z) (hr : F.HR p h H) (hq : H q = none) (r : F.DRs p H ds vs) : Q (.ref q) (upd H q (.lst vs)) := by
  refine x (p ++ [q]) _ _ (step_alloc hq) (hr.alloc hq trivial ⟨vs, upd_same, r.mono (step_alloc hq)⟩) (.ref ?_)
  rw [← hr.len]
  simp
theorem PD.dct {kvs : List (Ky × D)} {ws : List (L2.Key × V)} {q : Addr} (x : PD F p H (alloc (.dct kvs) h) Q Z) (hr : F.HR p h H) (hq : H q = none) (r : KRs F.K F.cA p H kvs ws) : Q (.ref q) (upd H q (.dK ws)) := by
  refine x (p ++ [q]) _ _ (step_alloc hq) (hr.alloc hq trivial ⟨ws, upd_same, r.mono (step_alloc hq)⟩) (.ref ?_)
  rw [← hr.len]
  simp
/-- where a reference leads -/
theorem DR.ref_at (hr : F.HR p h H) {l : Nat} {v : V} {o : Obj} (r : F.DR p H (.ref l) v) (e : h[l]? = some o) : ∃ a, v = .ref a ∧ p[l]? = some a ∧ ORp F.K F.cA F.oA p H a o := by
  cases r with
  | ref h1 => exact ⟨_, rfl, h1, hr.obj l o _ e h1⟩
theorem ORp.seq {a : Addr} {ds : List D} {o : Obj} (x : ORp F.K F.cA F.oA p H a o) (e : o = .lst ds) : ∃ vs, SqL F.K H a vs ∧ F.DRs p H ds vs := by
  subst e; obtain ⟨vs, e, r⟩ := x; exact ⟨vs, SqL.of e, r⟩
end

/-! ### two-place operators -/
def r2 (F : Fx) (f : D → D → M D) : R2 := fun x y H Q => ∃ p h a b Z, F.HR p h H ∧ F.DR p H a x ∧ F.DR p H b y ∧ PD F p H (f a b h) Q Z
def opOf : BOp → Operator
  | .add => .Add
  | .sub => .Sub
  | .mul => .Mult
  | .fdiv => .FloorDiv
  | .mod => .Mod
  | .pow => .Pow
theorem rep_cps (x : List Nat) (n : Nat) : (List.replicate n x.toArray).foldl (fun a b => a ++ b) #[] = (rep x n).toArray := by
  have g : ∀ (m : Nat) (acc : List Nat), (List.replicate m x.toArray).foldl (fun a b => a ++ b) acc.toArray = (acc ++ (List.replicate m x).flatten).toArray := by
    intro m
    induction m with
    | zero => intro acc; simp
    | succ m ih =>
      intro acc
      rw [List.replicate_succ, List.foldl_cons, List.replicate_succ, List.flatten_cons]
      have e : acc.toArray ++ x.toArray = (acc ++ x).toArray := by simp
      rw [e, ih, List.append_assoc]
  have := g n []
  simpa [rep] using this
section
variable {X : Cx} {F : Fx}
theorem or_bin (hK : F.K = X.K) (o : BOp) : OpR X (binaryOp (opOf o)) (r2 F (binD o)) := by
  intro pins s σ H x y v u Q I rx ry q
  obtain ⟨p, h, a, b, Z, hr, ra, rb, pd⟩ := q
  have hl := lim_eq
  have bot : ∀ {P : Prop}, PD F p H .bad Q Z → P := fun z => (show False from z).elim
  cases o with
  | add =>
    cases a <;> cases b
    case int.int i j =>
      cases ra; cases rb
      exact op_add pins s σ H _ _ v u Q I rx ry ⟨i, j, rfl, rfl, PD.now pd hr (.int _)⟩
    case str.str a b =>
      cases ra with | str la => cases rb with | str lb =>
      by_cases c : a.length + b.length ≤ lim
      · have pd : PD F p H (.ok (.str (a ++ b)) h) Q Z := by
          unfold binD at pd
          dsimp only at pd
          rw [if_pos c] at pd
          exact pd
        refine op_add_str pins s σ H _ _ v u Q I rx ry ⟨_, _, rfl, rfl, ?_, ?_⟩
        · rw [toS_length, toS_length, hl]; exact c
        · rw [toS_app]
          exact PD.now pd hr (.str (okS.app la lb c))
      · exact bot (by unfold binD at pd; dsimp only at pd; rw [if_neg c] at pd; exact pd)
    case tup.tup ds es =>
      cases ra with | tup ha ra => cases rb with | tup hb rb =>
      rename_i vs xa ws xb
      by_cases c : ds.length + es.length ≤ lim
      · have pd : PD F p H (.ok (.tup (ds ++ es)) h) Q Z := by
          unfold binD at pd
          dsimp only at pd
          rw [if_pos c] at pd
          exact pd
        refine op_catA pins s σ H _ _ v u Q I rx ry ⟨_, _, vs, ws, rfl, rfl, by rw [← hK]; exact ha, by rw [← hK]; exact hb, ?_, fun e => ?_, fun e1 e => ?_, fun _ _ q hq => ?_⟩
        · rw [← ra.length, ← rb.length, hl]; exact c
        · subst e
          cases ra
          exact PD.now pd hr (.tup hb rb)
        · subst e
          cases rb
          rw [List.append_nil] at pd
          exact PD.now pd hr (.tup ha ra)
        · exact PD.tup pd hr hq (ra.append rb)
      · exact bot (by unfold binD at pd; dsimp only at pd; rw [if_neg c] at pd; exact pd)
    case ref.ref l k =>
      cases e1 : h[l]? with
      | none => exact bot (by unfold binD at pd; dsimp only at pd; rw [e1] at pd; exact pd)
      | some o1 =>
        cases e2 : h[k]? with
        | none => exact bot (by unfold binD at pd; dsimp only at pd; rw [e1, e2] at pd; cases o1 <;> exact pd)
        | some o2 =>
          cases o1 with
          | lst ds =>
            cases o2 with
            | lst es =>
              obtain ⟨xa, e3, e4, vs, e5, r5⟩ := DR.ref_at hr ra e1
              obtain ⟨xb, e6, e7, ws, e8, r8⟩ := DR.ref_at hr rb e2
              subst e3 e6
              by_cases c : ds.length + es.length ≤ lim
              · have pd : PD F p H (alloc (.lst (ds ++ es)) h) Q Z := by
                  unfold binD at pd
                  dsimp only at pd
                  rw [e1, e2] at pd
                  dsimp only at pd
                  rw [if_pos c] at pd
                  exact pd
                refine op_cat pins s σ H _ _ v u Q I rx ry ⟨_, _, vs, ws, rfl, rfl, e5, e8, ?_, fun q hq => PD.lst pd hr hq (r5.append r8)⟩
                rw [← r5.length, ← r8.length, hl]; exact c
              · exact bot (by unfold binD at pd; dsimp only at pd; rw [e1, e2] at pd; dsimp only at pd; rw [if_neg c] at pd; exact pd)
            | _ => exact bot (by unfold binD at pd; dsimp only at pd; rw [e1, e2] at pd; exact pd)
          | _ => exact bot (by unfold binD at pd; dsimp only at pd; rw [e1, e2] at pd; exact pd)
    all_goals exact bot pd
  | sub =>
    cases a <;> cases b
    case int.int i j =>
      cases ra; cases rb
      exact op_sub pins s σ H _ _ v u Q I rx ry ⟨i, j, rfl, rfl, PD.now pd hr (.int _)⟩
    all_goals exact bot pd
  | mul =>
    cases a <;> cases b
    case int.int i j =>
      cases ra; cases rb
      by_cases c : i.natAbs.log2 + j.natAbs.log2 < 1000000
      · have pd : PD F p H (.ok (.int (i * j)) h) Q Z := by
          unfold binD at pd
          dsimp only at pd
          rw [if_pos c] at pd
          exact pd
        exact op_mulW pins s σ H _ _ v u Q I rx ry ⟨i, j, rfl, rfl, c, PD.now pd hr (.int _)⟩
      · exact bot (by unfold binD at pd; dsimp only at pd; rw [if_neg c] at pd; exact pd)
    case str.int a n =>
      cases rb
      cases ra with | str la =>
      by_cases c : a.length * n.toNat ≤ lim ∧ -(2 ^ 62) < n ∧ n < 2 ^ 62
      · have pd : PD F p H (.ok (.str (rep a n.toNat)) h) Q Z := by
          unfold binD at pd
          dsimp only at pd
          rw [if_pos c] at pd
          exact pd
        obtain ⟨c1, c2, c3⟩ := c
        obtain ⟨t, rfl⟩ := rx
        obtain ⟨t', rfl⟩ := ry
        by_cases hn : n < 1
        · refine PySem.P.mul_str_none hn (by omega) ⟨.str (toS (rep a n.toNat)), H, I.tok _, ⟨s.toks, ?_⟩, PD.now pd hr (.str ?_)⟩
          · have e : n.toNat = 0 := by omega
            rw [e]
            rfl
          · exact okS.rep la c1
        · have le := rep_length a n.toNat
          have pd2 : Q (.str (toS (rep a n.toNat))) H := PD.now pd hr (.str (okS.rep la c1))
          refine PySem.P.mul_str (by
            have h1 : ¬ n < -(2 ^ 63) := by omega
            have h2 : ¬ n ≥ 2 ^ 63 := by omega
            rw [decide_eq_false h1, decide_eq_false h2]; rfl) (fun _ _ => ?_) (fun _ _ => ?_) ?_
          · have h3 : (0 : Int) < n := by omega
            have h4 : ((toS a).length : Int) * n ≤ 2 ^ 63 - 1 := by
              rw [toS_length]
              have e : ((a.length * n.toNat : Nat) : Int) = (a.length : Int) * n := by
                rw [Int.natCast_mul, Int.toNat_of_nonneg (by omega)]
              rw [← e]
              have := lim_val
              omega
            have h5 := Int.le_ediv_of_mul_le h3 h4
            omega
          · rw [toS_length]
            unfold Builtin.Str.tooLong
            rw [hl]
            simpa using c1
          · rw [if_neg hn]
            by_cases h1 : (n == 1 || (toS a).length == 0) = true
            · rw [if_pos h1]
              refine ⟨.str (toS (rep a n.toNat)), H, I, ⟨t, ?_⟩, pd2⟩
              have e : rep a n.toNat = a := by
                rcases Bool.or_eq_true_iff.mp h1 with h2 | h2
                · have h3 : n = 1 := by simpa using h2
                  subst h3
                  simp [rep]
                · rw [toS_length] at h2
                  have h3 : a = [] := List.length_eq_zero_iff.mp (by simpa using h2)
                  subst h3
                  simp [rep]
              rw [e]
            · rw [if_neg h1]
              have e : (List.replicate n.toNat (toS a).cps).foldl (fun a b => a ++ b) #[] = (rep a n.toNat).toArray := rep_cps a n.toNat
              refine ⟨?_, .str (toS (rep a n.toNat)), H, I.tok _, ⟨s.toks, ?_⟩, pd2⟩
              · show ((List.replicate n.toNat (toS a).cps).foldl (fun a b => a ++ b) #[]).size ≤ sizeLine
                rw [e, hl]
                simpa [le] using c1
              · show Value.str ⟨(List.replicate n.toNat (toS a).cps).foldl (fun a b => a ++ b) #[]⟩ _ = _
                rw [e]
      · exact bot (by unfold binD at pd; dsimp only at pd; rw [if_neg c] at pd; exact pd)
    case tup.int ds n =>
      cases rb
      cases ra with | tup ha ra =>
      rename_i vs xa
      by_cases c : ds.length ≤ 1000 ∧ ds.isEmpty = false ∧ 2 ≤ n ∧ n ≤ 1000
      · have pd : PD F p H (.ok (.tup (rep ds n.toNat)) h) Q Z := by
          unfold binD at pd
          dsimp only at pd
          rw [if_pos c] at pd
          exact pd
        obtain ⟨c1, c2, c3, c4⟩ := c
        refine op_repT pins s σ H _ _ v u Q I rx ry ⟨_, n, vs, rfl, rfl, by rw [← hK]; exact ha, ?_, c3, c4, by rw [← ra.length]; exact c1, fun q hq => PD.tup pd hr hq (ra.rep _)⟩
        intro e
        subst e
        cases ra
        simp at c2
      · exact bot (by unfold binD at pd; dsimp only at pd; rw [if_neg c] at pd; exact pd)
    case ref.int l n =>
      cases rb
      cases e1 : h[l]? with
      | none => exact bot (by unfold binD at pd; dsimp only at pd; rw [e1] at pd; exact pd)
      | some o1 =>
        cases o1 with
        | lst ds =>
          obtain ⟨xa, e3, e4, vs, e5, r5⟩ := DR.ref_at hr ra e1
          subst e3
          by_cases c : ds.length * n.toNat ≤ lim ∧ -(2 ^ 62) < n ∧ n < 2 ^ 62
          · have pd : PD F p H (alloc (.lst (rep ds n.toNat)) h) Q Z := by
              unfold binD at pd
              dsimp only at pd
              rw [e1] at pd
              dsimp only at pd
              rw [if_pos c] at pd
              exact pd
            obtain ⟨c1, c2, c3⟩ := c
            exact op_rep pins s σ H _ _ v u Q I rx ry ⟨_, n, vs, rfl, rfl, e5, by omega, by omega, by rw [← r5.length, hl]; exact c1, fun q hq => PD.lst pd hr hq (r5.rep _)⟩
          · exact bot (by unfold binD at pd; dsimp only at pd; rw [e1] at pd; dsimp only at pd; rw [if_neg c] at pd; exact pd)
        | _ => exact bot (by unfold binD at pd; dsimp only at pd; rw [e1] at pd; exact pd)
    all_goals exact bot pd
  | fdiv =>
    cases a <;> cases b
    case int.int i j =>
      cases ra; cases rb
      by_cases c : 0 < j ∧ j.natAbs.log2 < 9000
      · have pd : PD F p H (.ok (.int (i / j)) h) Q Z := by
          unfold binD at pd
          dsimp only at pd
          rw [if_pos c] at pd
          exact pd
        exact op_fdivW pins s σ H _ _ v u Q I rx ry ⟨i, j, rfl, rfl, c, PD.now pd hr (.int _)⟩
      · exact bot (by unfold binD at pd; dsimp only at pd; rw [if_neg c] at pd; exact pd)
    all_goals exact bot pd
  | mod =>
    cases a <;> cases b
    case int.int i j =>
      cases ra; cases rb
      by_cases c : 0 < j
      · have pd : PD F p H (.ok (.int (i % j)) h) Q Z := by
          unfold binD at pd
          dsimp only at pd
          rw [if_pos c] at pd
          exact pd
        exact op_mod pins s σ H _ _ v u Q I rx ry ⟨i, j, rfl, rfl, c, PD.now pd hr (.int _)⟩
      · exact bot (by unfold binD at pd; dsimp only at pd; rw [if_neg c] at pd; exact pd)
    all_goals exact bot pd
  | pow =>
    cases a <;> cases b
    case int.int i j =>
      cases ra; cases rb
      by_cases c : 0 ≤ j ∧ j ≤ 1000000 ∧ i.natAbs < 2 ^ 64
      · have pd : PD F p H (.ok (.int (i ^ j.toNat)) h) Q Z := by
          unfold binD at pd
          dsimp only at pd
          rw [if_pos c] at pd
          exact pd
        exact op_pow pins s σ H _ _ v u Q I rx ry ⟨i, j, rfl, rfl, c, PD.now pd hr (.int _)⟩
      · exact bot (by unfold binD at pd; dsimp only at pd; rw [if_neg c] at pd; exact pd)
    all_goals exact bot pd
end
end Mi

set_option Elab.async false
set_option linter.all false
set_option autoImplicit false
set_option maxRecDepth 100000
set_option maxHeartbeats 2000000
/-! Sc: comparisons, truth, subscripts, slices, built-ins, by values. -/
namespace Mi
open PySem L2

/-! ### data -/
mutual
def toP : D → PyData
  | .non => .none
  | .bl b => .bool b
  | .int i => .int i
  | .str s => .str (toS s)
  | .tup xs => .tuple (toPs xs)
  | .lst xs => .list (toPs xs)
  | _ => .none
def toPs : List D → List PyData
  | [] => []
  | x :: xs => toP x :: toPs xs
end
mutual
/-- no reference in it -/
def pure_ : D → Bool
  | .ref _ => false
  | .exc _ => false
  | .clo => false
  | .fl _ => false
  | .tup xs => pures xs
  | .lst xs => pures xs
  | _ => true
def pures : List D → Bool
  | [] => true
  | x :: xs => pure_ x && pures xs
end
mutual
theorem eqv_toP : ∀ (a b : D), pure_ a = true → pure_ b = true → eqv a b = PyData.eqv (toP a) (toP b)
  | .non, b, _, hb => by cases b <;> first | rfl | (cases hb)
  | .bl x, b, _, hb => by cases b <;> first | rfl | (cases hb)
  | .int i, b, _, hb => by cases b <;> first | rfl | (cases hb)
  | .str x, b, _, hb => by
    cases b with
    | str y =>
      show decide (x = y) = (toS x == toS y)
      by_cases e : x = y
      · subst e; simp
      · rw [decide_eq_false e]
        exact (beq_eq_false_iff_ne.mpr fun q => e (toS_inj q)).symm
    | _ => first | rfl | (cases hb)
  | .tup xs, b, ha, hb => by
    cases b with
    | tup ys =>
      show eqvs xs ys = PyData.eqvAll (toPs xs) (toPs ys)
      exact eqvs_toP xs ys ha hb
    | _ => first | rfl | (cases hb)
  | .lst xs, b, ha, hb => by
    cases b with
    | lst ys =>
      show eqvs xs ys = PyData.eqvAll (toPs xs) (toPs ys)
      exact eqvs_toP xs ys ha hb
    | _ => first | rfl | (cases hb)
  | .ref _, _, ha, _ => by cases ha
  | .exc _, _, ha, _ => by cases ha
  | .clo, _, ha, _ => by cases ha
  | .fl _, _, ha, _ => by cases ha
theorem eqvs_toP : ∀ (xs ys : List D), pures xs = true → pures ys = true → eqvs xs ys = PyData.eqvAll (toPs xs) (toPs ys)
  | [], [], _, _ => rfl
  | [], _ :: _, _, _ => rfl
  | _ :: _, [], _, _ => rfl
  | x :: xs, y :: ys, ha, hb => by
    obtain ⟨h1, h2⟩ := Bool.and_eq_true_iff.mp (show (pure_ x && pures xs) = true from ha)
    obtain ⟨h3, h4⟩ := Bool.and_eq_true_iff.mp (show (pure_ y && pures ys) = true from hb)
    show (eqv x y && eqvs xs ys) = (PyData.eqv (toP x) (toP y) && PyData.eqvAll (toPs xs) (toPs ys))
    rw [eqv_toP x y h1 h3, eqvs_toP xs ys h2 h4]
end
section
variable {F : Fx} {p : Rho} {h : Sto} {H : Hp}
/-- what a value written out is in the heap -/
structure Deep (K : PySem.W.Frag) (H : Hp) (v : V) (n : Nat) (d : D) : Prop where
  dp : Dp K H v (toP d)
  pu : pure_ d = true
  lay : (toP d).canLay0 = true
  dep : (toP d).depth ≤ n
structure Deeps (K : PySem.W.Frag) (H : Hp) (vs : List V) (n : Nat) (ds : List D) : Prop where
  dp : DpAll K H vs (toPs ds)
  pu : pures ds = true
  lay : PyData.canLayAll0 (toPs ds) = true
  dep : PyData.depthAll (toPs ds) ≤ n
theorem deeps_of (n : Nat) (ih : ∀ (d e : D) (v : V), deep h n d = some e → F.DR p H d v → Deep F.K H v n e) :
    ∀ (ds es : List D) (vs : List V), ds.mapM (deep h n) = some es → F.DRs p H ds vs → Deeps F.K H vs n es
  | [], es, vs, e, r => by
    cases r
    simp at e
    subst e
    exact ⟨.nil, rfl, rfl, Nat.zero_le _⟩
  | d :: ds, es, vs, e, r => by
    cases r with
    | cons r1 r2 =>
      rw [List.mapM_cons] at e
      cases e1 : deep h n d with
      | none => rw [e1] at e; cases e
      | some x =>
        cases e2 : ds.mapM (deep h n) with
        | none => rw [e1, e2] at e; cases e
        | some xs =>
          rw [e1, e2] at e
          cases e
          obtain ⟨a1, a2, a3, a4⟩ := ih d x _ e1 r1
          obtain ⟨b1, b2, b3, b4⟩ := deeps_of n ih ds xs _ e2 r2
          refine ⟨.cons a1 b1, Bool.and_eq_true_iff.mpr ⟨a2, b2⟩, Bool.and_eq_true_iff.mpr ⟨a3, b3⟩, ?_⟩
          show max (toP x).depth (PyData.depthAll (toPs xs)) ≤ n
          exact Nat.max_le.mpr ⟨a4, b4⟩
theorem deep_of (hr : F.HR p h H) : ∀ (n : Nat) (d e : D) (v : V), deep h n d = some e → F.DR p H d v → Deep F.K H v n e
  | 0, _, _, _, e, _ => by cases e
  | n + 1, d, e, v, he, r => by
    have ih := deeps_of n (deep_of hr n)
    cases d with
    | non => cases r; cases he; exact ⟨.non, rfl, rfl, Nat.zero_le _⟩
    | bl b => cases r; cases he; exact ⟨.bl b, rfl, rfl, Nat.zero_le _⟩
    | int i => cases r; cases he; exact ⟨.int i, rfl, rfl, Nat.zero_le _⟩
    | str s =>
      cases r with
      | str ok =>
        cases he
        refine ⟨.str _, rfl, ?_, Nat.zero_le _⟩
        show PyData.strOk (toS s) = true
        unfold PyData.strOk
        simp only [Array.all_eq_true_iff_forall_mem] 
        intro c hc
        have := ok.2 c (by simpa using hc)
        simp
        omega
    | tup xs =>
      cases r with
      | tup hq rs =>
        cases e2 : xs.mapM (deep h n) with
        | none => have he' : (xs.mapM (deep h n)).map D.tup = some e := he; rw [e2] at he'; cases he'
        | some es =>
          have he' : (xs.mapM (deep h n)).map D.tup = some e := he
          rw [e2] at he'
          cases he'
          obtain ⟨a1, a2, a3, a4⟩ := ih xs es _ e2 rs
          exact ⟨.tup hq a1, a2, a3, Nat.succ_le_succ a4⟩
    | fl xs =>
      cases r with
      | fl hq rs =>
        cases e2 : xs.mapM (deep h n) with
        | none => have he' : (xs.mapM (deep h n)).map D.lst = some e := he; rw [e2] at he'; cases he'
        | some es =>
          have he' : (xs.mapM (deep h n)).map D.lst = some e := he
          rw [e2] at he'
          cases he'
          obtain ⟨a1, a2, a3, a4⟩ := ih xs es _ e2 rs
          exact ⟨.lst hq.seq a1, a2, a3, Nat.succ_le_succ a4⟩
    | ref l =>
      have he' : (match h[l]? with
        | some (.lst ds) => (ds.mapM (deep h n)).map D.lst
        | _ => none) = some e := he
      cases e1 : h[l]? with
      | none => rw [e1] at he'; cases he'
      | some o =>
        rw [e1] at he'
        obtain ⟨a, ev, e3, x⟩ := DR.ref_at hr r e1
        subst ev
        have go : ∀ ds, o = .lst ds → (ds.mapM (deep h n)).map D.lst = some e → Deep F.K H (.ref a) (n + 1) e := fun ds ho hm => by
          obtain ⟨vs, q1, q2⟩ := x.seq ho
          cases e2 : ds.mapM (deep h n) with
          | none => rw [e2] at hm; cases hm
          | some es =>
            rw [e2] at hm
            cases hm
            obtain ⟨a1, a2, a3, a4⟩ := ih ds es _ e2 q2
            exact ⟨.lst q1 a1, a2, a3, Nat.succ_le_succ a4⟩
        cases o with
        | lst ds => exact go ds rfl he'
        | dct kvs => cases he'
        | ins c fs => cases he'
    | lst _ => cases he
    | exc _ => cases he
    | clo => cases he
theorem eqD_dp (hr : F.HR p h H) {a b : D} {x y : V} {t : Bool} (ra : F.DR p H a x) (rb : F.DR p H b y) (e : eqD h a b = some t) :
    ∃ d e, Dp F.K H x d ∧ Dp F.K H y e ∧ SeqAt.shaped d = true ∧ SeqAt.shaped e = true ∧ PyData.eqv d e = t := by
  unfold eqD at e
  cases e1 : deep h 60 a with
  | none => rw [e1] at e; cases e
  | some a' =>
    cases e2 : deep h 60 b with
    | none => rw [e1, e2] at e; cases e
    | some b' =>
      rw [e1, e2] at e
      cases e
      obtain ⟨a1, a2, a3, a4⟩ := deep_of hr 60 a a' x e1 ra
      obtain ⟨b1, b2, b3, b4⟩ := deep_of hr 60 b b' y e2 rb
      refine ⟨_, _, a1, b1, ?_, ?_, (eqv_toP a' b' a2 b2).symm⟩
      · exact Bool.and_eq_true_iff.mpr ⟨a3, decide_eq_true (by omega)⟩
      · exact Bool.and_eq_true_iff.mpr ⟨b3, decide_eq_true (by omega)⟩
/-- flat values -/
theorem flat_V {d : D} {v : V} (r : F.DR p H d v) (f : flat d = true) : flatV v = true := by
  cases r <;> first | rfl | (cases f)
theorem flats_V : ∀ {ds : List D} {vs : List V}, F.DRs p H ds vs → ds.all flat = true → vs.all flatV = true
  | _, _, .nil, _ => rfl
  | _, _, .cons a b, f => by
    rw [List.all_cons, Bool.and_eq_true_iff] at f ⊢
    exact ⟨flat_V a f.1, flats_V b f.2⟩
theorem eqv_V {a b : D} {x y : V} (ra : F.DR p H a x) (rb : F.DR p H b y) (fa : flat a = true) (fb : flat b = true) : eqV x y = eqv a b := by
  cases ra <;> first | (cases fa; done) | skip
  all_goals
    cases rb <;> first | (cases fb; done) | rfl | skip
  rename_i s _ s' _
  show (toS s == toS s') = decide (s = s')
  by_cases e : s = s'
  · subst e; simp
  · rw [decide_eq_false e]
    exact beq_eq_false_iff_ne.mpr fun q => e (toS_inj q)
theorem inV_eqv {a : D} {x : V} (ra : F.DR p H a x) (fa : flat a = true) : ∀ {ds : List D} {vs : List V}, F.DRs p H ds vs → ds.all flat = true → inV x vs = ds.any fun z => eqv z a
  | _, _, .nil, _ => rfl
  | _, _, .cons r1 r2, f => by
    rw [List.all_cons, Bool.and_eq_true_iff] at f
    show (eqV _ x || inV x _) = _
    rw [eqv_V r1 ra f.1 fa, inV_eqv ra fa r2 f.2, List.any_cons]
end

/-! ### comparisons -/
def cOf : COp → CmpOp
  | .eq => .Eq
  | .ne => .NotEq
  | .lt => .Lt
  | .le => .LtE
  | .gt => .Gt
  | .ge => .GtE
  | .isn => .Is
  | .isnn => .IsNot
  | .inn => .In
  | .nin => .NotIn
def rC (F : Fx) (o : COp) : R2 := fun x y H Q => ∃ p h a b t, F.HR p h H ∧ F.DR p H a x ∧ F.DR p H b y ∧ cmpD h o a b = some t ∧ Q (.bl t) H
section
variable {X : Cx} {F : Fx} {p : Rho} {h : Sto} {H : Hp}
theorem dec_non {a : D} {x : V} (r : F.DR p H a x) : decide (x = V.non) = isNone a := by
  cases r <;> simp [isNone]
theorem or_in (hK : F.K = X.K) : OpR X (compareOp .In) (fun x y H Q => ∃ p h a b t, F.HR p h H ∧ F.DR p H a x ∧ F.DR p H b y ∧ inD h a b = some t ∧ Q (.bl t) H) := by
  intro pins s σ H x y v u Q I rx ry q
  obtain ⟨p, h, a, b, t, hr, ra, rb, e, q⟩ := q
  cases b with
  | str z =>
    cases rb with
    | str okz =>
      cases a with
      | str x =>
        match x, e, ra with
        | [c], e, .str _ =>
          cases e
          exact op_in_sign pins s σ H _ _ v u Q I rx ry ⟨c, _, rfl, rfl, by simpa using q⟩
        | [], e, _ => cases e
        | _ :: _ :: _, e, _ => cases e
      | _ => cases e
  | tup ys =>
    cases rb with
    | tup hq rs =>
      have e : (if flat a && ys.all flat then some (ys.any fun z => eqv z a) else none) = some t := e
      by_cases c : (flat a && ys.all flat) = true
      · rw [if_pos c] at e
        cases e
        obtain ⟨c1, c2⟩ := Bool.and_eq_true_iff.mp c
        exact op_in_seq pins s σ H _ _ v u Q I rx ry ⟨_, _, rfl, .inr (by rw [← hK]; exact hq), flat_V ra c1, flats_V rs c2, by rw [if_neg Bool.false_ne_true, inV_eqv ra c1 rs c2]; exact q⟩
      · rw [if_neg c] at e; cases e
  | ref l =>
    have e : (match h[l]? with
      | some (.lst ys) => if flat a && ys.all flat then some (ys.any fun z => eqv z a) else none
      | _ => none) = some t := e
    cases e1 : h[l]? with
    | none => rw [e1] at e; cases e
    | some o =>
      rw [e1] at e
      cases o with
      | lst ys =>
        obtain ⟨xa, e3, e4, vs, e5, rs⟩ := DR.ref_at hr rb e1
        subst e3
        by_cases c : (flat a && ys.all flat) = true
        · have e : (if flat a && ys.all flat then some (ys.any fun z => eqv z a) else none) = some t := e
          rw [if_pos c] at e
          cases e
          obtain ⟨c1, c2⟩ := Bool.and_eq_true_iff.mp c
          exact op_in_seq pins s σ H _ _ v u Q I rx ry ⟨_, _, rfl, .inl (SqL.of e5), flat_V ra c1, flats_V rs c2, by rw [if_neg Bool.false_ne_true, inV_eqv ra c1 rs c2]; exact q⟩
        · have e : (if flat a && ys.all flat then some (ys.any fun z => eqv z a) else none) = some t := e
          rw [if_neg c] at e; cases e
      | _ => cases e
  | _ => cases e
theorem or_nin (hK : F.K = X.K) : OpR X (compareOp .NotIn) (fun x y H Q => ∃ p h a b t, F.HR p h H ∧ F.DR p H a x ∧ F.DR p H b y ∧ inD h a b = some t ∧ Q (.bl (!t)) H) := by
  intro pins s σ H x y v u Q I rx ry q
  obtain ⟨p, h, a, b, t, hr, ra, rb, e, q⟩ := q
  cases b with
  | str z =>
    cases rb with
    | str okz =>
      cases a with
      | str x =>
        match x, e, ra with
        | [c], e, .str _ =>
          cases e
          exact op_notIn_sign pins s σ H _ _ v u Q I rx ry ⟨c, _, rfl, rfl, by simpa using q⟩
        | [], e, _ => cases e
        | _ :: _ :: _, e, _ => cases e
      | _ => cases e
  | tup ys =>
    cases rb with
    | tup hq rs =>
      have e : (if flat a && ys.all flat then some (ys.any fun z => eqv z a) else none) = some t := e
      by_cases c : (flat a && ys.all flat) = true
      · rw [if_pos c] at e
        cases e
        obtain ⟨c1, c2⟩ := Bool.and_eq_true_iff.mp c
        exact op_notIn_seq pins s σ H _ _ v u Q I rx ry ⟨_, _, rfl, .inr (by rw [← hK]; exact hq), flat_V ra c1, flats_V rs c2, by rw [if_pos rfl, inV_eqv ra c1 rs c2]; exact q⟩
      · rw [if_neg c] at e; cases e
  | ref l =>
    have e : (match h[l]? with
      | some (.lst ys) => if flat a && ys.all flat then some (ys.any fun z => eqv z a) else none
      | _ => none) = some t := e
    cases e1 : h[l]? with
    | none => rw [e1] at e; cases e
    | some o =>
      rw [e1] at e
      cases o with
      | lst ys =>
        obtain ⟨xa, e3, e4, vs, e5, rs⟩ := DR.ref_at hr rb e1
        subst e3
        by_cases c : (flat a && ys.all flat) = true
        · have e : (if flat a && ys.all flat then some (ys.any fun z => eqv z a) else none) = some t := e
          rw [if_pos c] at e
          cases e
          obtain ⟨c1, c2⟩ := Bool.and_eq_true_iff.mp c
          exact op_notIn_seq pins s σ H _ _ v u Q I rx ry ⟨_, _, rfl, .inl (SqL.of e5), flat_V ra c1, flats_V rs c2, by rw [if_pos rfl, inV_eqv ra c1 rs c2]; exact q⟩
        · have e : (if flat a && ys.all flat then some (ys.any fun z => eqv z a) else none) = some t := e
          rw [if_neg c] at e; cases e
      | _ => cases e
  | _ => cases e
theorem or_cmp (hK : F.K = X.K) (hu : X.A.units + 64 < cLine) (o : COp) : OpR X (compareOp (cOf o)) (rC F o) := by
  intro pins s σ H x y v u Q I rx ry q
  obtain ⟨p, h, a, b, t, hr, ra, rb, e, q⟩ := q
  cases o with
  | eq =>
    obtain ⟨d, d2, h1, h2, h3, h4, h5⟩ := eqD_dp hr ra rb e
    rw [hK] at h1 h2
    exact op_eqD hu pins s σ H _ _ v u Q I rx ry ⟨d, d2, h1, h2, h3, h4, by rw [h5]; exact q⟩
  | ne =>
    have e : (eqD h a b).map (!·) = some t := e
    cases e1 : eqD h a b with
    | none => rw [e1] at e; cases e
    | some t1 =>
      rw [e1] at e
      cases e
      obtain ⟨d, d2, h1, h2, h3, h4, h5⟩ := eqD_dp hr ra rb e1
      rw [hK] at h1 h2
      exact op_neD hu pins s σ H _ _ v u Q I rx ry ⟨d, d2, h1, h2, h3, h4, by rw [h5]; exact q⟩
  | lt =>
    cases a <;> cases b
    case int.int i j =>
      cases ra; cases rb; cases e
      exact op_lt pins s σ H _ _ v u Q I rx ry ⟨i, j, rfl, rfl, q⟩
    case str.str i j =>
      cases ra; cases rb; cases e
      exact op_lt_str pins s σ H _ _ v u Q I rx ry ⟨_, _, rfl, rfl, by simpa using q⟩
    all_goals cases e
  | le =>
    cases a <;> cases b
    case int.int i j =>
      cases ra; cases rb; cases e
      exact op_le pins s σ H _ _ v u Q I rx ry ⟨i, j, rfl, rfl, q⟩
    case str.str i j =>
      cases ra; cases rb; cases e
      exact op_le_str pins s σ H _ _ v u Q I rx ry ⟨_, _, rfl, rfl, by simpa using q⟩
    all_goals cases e
  | gt =>
    cases a <;> cases b
    case int.int i j =>
      cases ra; cases rb; cases e
      exact op_gt pins s σ H _ _ v u Q I rx ry ⟨i, j, rfl, rfl, q⟩
    case str.str i j =>
      cases ra; cases rb; cases e
      exact op_gt_str pins s σ H _ _ v u Q I rx ry ⟨_, _, rfl, rfl, by simpa using q⟩
    all_goals cases e
  | ge =>
    cases a <;> cases b
    case int.int i j =>
      cases ra; cases rb; cases e
      exact op_ge pins s σ H _ _ v u Q I rx ry ⟨i, j, rfl, rfl, q⟩
    case str.str i j =>
      cases ra; cases rb; cases e
      exact op_ge_str pins s σ H _ _ v u Q I rx ry ⟨_, _, rfl, rfl, by simpa using q⟩
    all_goals cases e
  | isn =>
    cases b with
    | non =>
      cases rb; cases e
      exact op_isN pins s σ H _ _ v u Q I rx ry ⟨rfl, by rw [dec_non ra]; exact q⟩
    | _ => cases e
  | isnn =>
    cases b with
    | non =>
      cases rb; cases e
      exact op_notN pins s σ H _ _ v u Q I rx ry ⟨rfl, by rw [dec_non ra]; exact q⟩
    | _ => cases e
  | inn => exact or_in hK pins s σ H x y v u Q I rx ry ⟨p, h, a, b, t, hr, ra, rb, e, q⟩
  | nin =>
    have e : (inD h a b).map (!·) = some t := e
    cases e1 : inD h a b with
    | none => rw [e1] at e; cases e
    | some t1 =>
      rw [e1] at e
      cases e
      exact or_nin hK pins s σ H x y v u Q I rx ry ⟨p, h, a, b, t1, hr, ra, rb, e1, q⟩
end

/-! ### truth -/
section
variable {F : Fx} {p : Rho} {h : Sto} {H : Hp}
theorem DRs.isEmpty {ds : List D} {vs : List V} (r : F.DRs p H ds vs) : vs.isEmpty = ds.isEmpty := by
  cases r <;> rfl
theorem truth_V (hr : F.HR p h H) {d : D} {v : V} {b : Bool} (r : F.DR p H d v) (e : truth h d = some b) : TruV F.K v H b := by
  cases d with
  | non => cases r; cases e; rfl
  | bl k => cases r; cases e; rfl
  | int i => cases r; cases e; rfl
  | str s =>
    cases r with
    | str ok =>
      cases e
      refine ⟨by rw [toS_length, lim_eq]; exact ok.1, ?_⟩
      rw [toS_length]
      show (s.length != 0) = (((s.length : Nat) : Int) != 0)
      by_cases z : s.length = 0
      · rw [z]; rfl
      · have z1 : (s.length != 0) = true := by simpa using z
        have z2 : (((s.length : Nat) : Int) != 0) = true := by simp; intro q; rw [q] at z; simp at z
        rw [z1, z2]
  | tup xs =>
    cases r with
    | tup hq rs =>
      cases e
      exact .inr (.inl ⟨_, hq, by rw [rs.isEmpty]⟩)
  | fl xs =>
    cases r with
    | fl hq rs =>
      cases e
      exact .inl ⟨_, hq.seq, by rw [rs.isEmpty]⟩
  | ref l =>
    have e : (match h[l]? with
      | some (.lst ds) => some (!ds.isEmpty)
      | some (.dct kvs) => some (!kvs.isEmpty)
      | _ => none) = some b := e
    cases e1 : h[l]? with
    | none => rw [e1] at e; cases e
    | some o =>
      rw [e1] at e
      obtain ⟨a, e3, e4, x⟩ := DR.ref_at hr r e1
      subst e3
      cases o with
      | lst ds =>
        cases e
        obtain ⟨vs, q1, q2⟩ := x.seq rfl
        exact .inl ⟨vs, q1, by rw [q2.isEmpty]⟩
      | dct kvs =>
        cases e
        obtain ⟨ws, q1, q2⟩ := x
        exact .inr (.inr ⟨ws, q1, by cases q2 <;> rfl⟩)
      | ins c fs => cases e
  | _ => cases e
end
end Mi

set_option Elab.async false
set_option linter.all false
set_option autoImplicit false
set_option maxRecDepth 100000
set_option maxHeartbeats 2000000
/-! Sd: subscripts, slices, built-ins, methods, by values. -/
namespace Mi
open PySem L2 PyProof.Rows
section
variable {X : Cx} {F : Fx} {p : Rho} {h : Sto} {H : Hp}
theorem place_eq (n : Nat) (i : Int) : place n i = ixN n i := rfl
theorem atI_eq {α : Type} (xs : List α) (i : Int) : Mi.atI xs i = L2.atI xs i := by
  unfold Mi.atI L2.atI
  rw [place_eq]
  cases ixN xs.length i <;> rfl
theorem DRs.atI {ds : List D} {vs : List V} {i : Int} {d : D} (r : F.DRs p H ds vs) (e : Mi.atI ds i = some d) : ∃ v, L2.atI vs i = some v ∧ F.DR p H d v := by
  rw [atI_eq] at e
  unfold L2.atI at e ⊢
  rw [← r.length]
  cases e1 : ixN ds.length i with
  | none => rw [e1] at e; cases e
  | some j =>
    rw [e1] at e
    exact r.get e
theorem kq_kV {d : D} {k : Ky} {v : V} (r : F.DR p H d v) (e : keyOf d = some k) : v = kV (kq k) := by
  cases d with
  | int i => cases r; cases e; rfl
  | str s => cases r; cases e; rfl
  | _ => cases e
theorem kq_inj {a b : Ky} (e : kq a = kq b) : a = b := by
  cases a with
  | i n => cases b with
    | i m => cases e; rfl
    | s y => cases e
  | s x => cases b with
    | i m => cases e
    | s y =>
      have e : (Sum.inr (toS x) : L2.Key) = Sum.inr (toS y) := e
      rw [toS_inj (Sum.inr.inj e)]
theorem KRs.get {kvs : List (Ky × D)} {ws : List (L2.Key × V)} (r : KRs F.K F.cA p H kvs ws) (k : Ky) : (kget kvs k = none ∧ valV ws (kq k) = none) ∨ ∃ d v, kget kvs k = some d ∧ valV ws (kq k) = some v ∧ F.DR p H d v := by
  induction r with
  | nil => exact .inl ⟨rfl, rfl⟩
  | @cons q d v r s a b ih =>
    by_cases c : q = k
    · subst c
      exact .inr ⟨d, v, by simp [kget], valV_pos rfl, a⟩
    · have c2 : ¬ kq q = kq k := fun e => c (kq_inj e)
      have e1 : kget ((q, d) :: r) k = kget r k := by simp [kget, c]
      rw [e1, valV_neg c2]
      exact ih
theorem KRs.length {kvs : List (Ky × D)} {ws : List (L2.Key × V)} (r : KRs F.K F.cA p H kvs ws) : kvs.length = ws.length := by
  induction r with
  | nil => rfl
  | cons a b ih => exact congrArg Nat.succ ih
theorem khas_eq {kvs : List (Ky × D)} {ws : List (L2.Key × V)} (r : KRs F.K F.cA p H kvs ws) (k : Ky) : khas kvs k = ws.any fun kv => decide (kv.1 = kq k) := by
  induction r with
  | nil => rfl
  | @cons q d v r s a b ih =>
    rw [List.any_cons, ← ih]
    show (decide (q = k) || khas r k) = (decide (kq q = kq k) || khas r k)
    by_cases c : q = k
    · subst c; simp
    · have c2 : ¬ kq q = kq k := fun e => c (kq_inj e)
      rw [decide_eq_false c, decide_eq_false c2]
theorem KRs.kset {kvs : List (Ky × D)} {ws : List (L2.Key × V)} (r : KRs F.K F.cA p H kvs ws) (k : Ky) {d : D} {v : V} (rd : F.DR p H d v) :
    KRs F.K F.cA p H (kset kvs k d) (ws.map fun kv => if kv.1 = kq k then (kv.1, v) else kv) := by
  induction r with
  | nil => exact .nil
  | @cons q x y r s a b ih =>
    by_cases c : q = k
    · subst c
      have e : Mi.kset ((q, x) :: r) q d = (q, d) :: Mi.kset r q d := by simp [Mi.kset]
      rw [e, List.map_cons, if_pos rfl]
      exact .cons rd ih
    · have c2 : ¬ kq q = kq k := fun e => c (kq_inj e)
      have e : Mi.kset ((q, x) :: r) k d = (q, x) :: Mi.kset r k d := by simp [Mi.kset, c]
      rw [e, List.map_cons, if_neg c2]
      exact .cons a ih
theorem KRs.app {kvs : List (Ky × D)} {ws : List (L2.Key × V)} (r : KRs F.K F.cA p H kvs ws) (k : Ky) {d : D} {v : V} (rd : F.DR p H d v) : KRs F.K F.cA p H (kvs ++ [(k, d)]) (ws ++ [(kq k, v)]) := by
  induction r with
  | nil => exact .cons rd .nil
  | cons a b ih => exact .cons a ih
theorem KRs.put {kvs : List (Ky × D)} {ws : List (L2.Key × V)} (r : KRs F.K F.cA p H kvs ws) (k : Ky) {d : D} {v : V} (rd : F.DR p H d v) : KRs F.K F.cA p H (kput kvs k d) (putK ws (kq k) v) := by
  unfold kput putK
  rw [khas_eq r k]
  by_cases c : (ws.any fun kv => decide (kv.1 = kq k)) = true
  · rw [if_pos c, if_pos c]
    exact r.kset k rd
  · rw [if_neg c, if_neg c]
    exact r.app k rd
end

/-! ### subscripts -/
section
variable {X : Cx} {F : Fx}
def rIx (F : Fx) : R2 := fun x y H Q => ∃ p h a b d, F.HR p h H ∧ F.DR p H a x ∧ F.DR p H b y ∧ idxD h a b = some d ∧ ∀ v, F.DR p H d v → Q v H
theorem or_idx (hK : F.K = X.K) (hu : X.A.units + 1 < cLine) : IxR X (rIx F) := by
  intro value slice pins s σ H x y v u Q I rx ry q hs
  obtain ⟨p, h, a, b, d, hr, ra, rb, e, q⟩ := q
  have dict : ∀ {a : Addr} {kvs : List (Ky × D)} {k : Ky}, x = .ref a → ORp F.K F.cA F.oA p H a (.dct kvs) → keyOf b = some k → kget kvs k = some d → wpAny (model X.prog X.w) X.A (subscriptTail value slice v u) (EP X pins σ Q) X.xe s := fun {a kvs k} ex o ek eg => by
    subst ex
    cases rx
    obtain ⟨ws, e1, r1⟩ := o
    rcases r1.get k with ⟨z, _⟩ | ⟨d', w, z1, z2, z3⟩
    · rw [z] at eg; cases eg
    · rw [z1] at eg
      cases eg
      have g : DGet H a y (some w) := by
        rw [kq_kV rb ek, ← z2]
        exact DGet.k e1
      exact PyProof.Rows.tail_any (dict_typeIs I g) PySem.F.slot_dict_getitem.lookup (d_getItem hu I g ry fun w' s3 I3 rw' => ⟨w, H, I3, rw', q w z3⟩) hs
  cases a with
  | tup xs =>
    cases b with
    | int i =>
      cases rb
      cases ra with
      | tup hq rs =>
        obtain ⟨w, e1, r1⟩ := rs.atI e
        exact ix_seq value slice pins s σ H _ _ v u Q I rx ry (.inr (.inl ⟨_, _, i, w, rfl, rfl, by rw [← hK]; exact hq, e1, q w r1⟩)) hs
    | _ => cases e
  | str z =>
    cases b with
    | int i =>
      cases rb
      cases ra with
      | str ok =>
        have e : (Mi.atI z i).map (fun c => D.str [c]) = some d := e
        cases e1 : Mi.atI z i with
        | none => rw [e1] at e; cases e
        | some c =>
          rw [e1] at e
          cases e
          rw [atI_eq] at e1
          have hc : c ∈ z := by
            obtain ⟨j, _, h2, _⟩ := L2.atI_get e1
            exact List.mem_of_getElem? h2
          exact ix_seq value slice pins s σ H _ _ v u Q I rx ry (.inr (.inr ⟨_, i, c, rfl, rfl, by rw [toS_length, lim_eq]; exact ok.1, by rw [toS_list]; exact e1, q _ (.str (okS.one (ok.2 c hc)))⟩)) hs
    | _ => cases e
  | fl xs =>
    cases b with
    | int i =>
      cases rb
      cases ra with
      | fl hq rs =>
        obtain ⟨w, e1, r1⟩ := rs.atI e
        exact ix_seq value slice pins s σ H _ _ v u Q I rx ry (.inl ⟨_, _, i, w, rfl, rfl, by rw [← hK]; exact hq.seq, e1, q w r1⟩) hs
    | _ => cases e
  | ref l =>
    cases e1 : h[l]? with
    | none =>
      cases b <;> first
        | (cases e; done)
        | (unfold idxD at e; dsimp only at e; rw [e1] at e; cases e)
    | some o =>
      obtain ⟨xa, e3, e4, or_⟩ := DR.ref_at hr ra e1
      cases b with
      | int i =>
        unfold idxD at e
        dsimp only at e
        rw [e1] at e
        cases o with
        | lst ds =>
          obtain ⟨vs, q1, q2⟩ := or_.seq rfl
          obtain ⟨w, e5, r5⟩ := q2.atI e
          subst e3
          cases rb
          exact ix_seq value slice pins s σ H _ _ v u Q I rx ry (.inl ⟨_, _, i, w, rfl, rfl, by rw [← hK]; exact q1, e5, q w r5⟩) hs
        | dct kvs => exact dict e3 or_ rfl e
        | ins c fs => cases e
      | str z =>
        unfold idxD at e
        dsimp only at e
        rw [e1] at e
        cases o with
        | dct kvs => exact dict e3 or_ rfl e
        | _ => cases e
      | _ => cases e
  | _ => cases e

/-! ### slices -/
theorem clamp_eq (n d : Nat) (o : Option Int) : clampI n d o = HT.sIx n d o := by
  cases o <;> rfl
theorem slice_eq (vs : List V) (lo hi : Option Int) : Mi.slice vs lo hi = cutV vs lo hi := by
  unfold Mi.slice cutV
  rw [clamp_eq, clamp_eq]
theorem DRs.slice {p : Rho} {H : Hp} {ds : List D} {vs : List V} (r : F.DRs p H ds vs) (lo hi : Option Int) : F.DRs p H (Mi.slice ds lo hi) (cutV vs lo hi) := by
  rw [← slice_eq]
  unfold Mi.slice
  rw [← r.length]
  exact (r.drop _).take _
theorem slice_mem {α : Type} {xs : List α} {lo hi : Option Int} {c : α} (h : c ∈ Mi.slice xs lo hi) : c ∈ xs := List.mem_of_mem_drop (List.mem_of_mem_take h)
theorem slice_le {α : Type} (xs : List α) (lo hi : Option Int) : (Mi.slice xs lo hi).length ≤ xs.length := by
  unfold Mi.slice
  rw [List.length_take, List.length_drop]
  omega
theorem okS.slice {s : List Nat} (x : okS s) (lo hi : Option Int) : okS (Mi.slice s lo hi) := x.sub (slice_le s lo hi) fun c hc => slice_mem hc
theorem slice_str (s : List Nat) (lo hi : Option Int) : cutS (toS s) lo hi = toS (Mi.slice s lo hi) := by
  unfold cutS Mi.slice
  rw [toS_list, toS_length, clamp_eq, clamp_eq]
theorem slice_all {α : Type} {xs : List α} {lo hi : Option Int} (h1 : clampI xs.length 0 lo = 0) (h2 : clampI xs.length xs.length hi = xs.length) : Mi.slice xs lo hi = xs := by
  unfold Mi.slice
  rw [h1, h2]
  simp
def rSl (F : Fx) : V → Option Int → Option Int → Hp → VK → Prop := fun x lo hi H Q => ∃ p h a Z, F.HR p h H ∧ F.DR p H a x ∧ PD F p H (sliceD a lo hi h) Q Z
theorem or_slc (hK : F.K = X.K) : SlR X (rSl F) := by
  intro pins s σ H x v vl vu lo hi sl Q I rx hs pl pu q
  obtain ⟨p, h, a, Z, hr, ra, pd⟩ := q
  cases a with
  | tup xs =>
    cases ra with
    | tup hq rs =>
      rename_i vs xa
      refine sl_tupA pins s σ H _ v vl vu lo hi sl Q I rx hs pl pu ⟨_, vs, rfl, by rw [← hK]; exact hq, fun c => ?_, fun c q hq2 => ?_⟩
      · have c1 : clampI xs.length 0 lo = 0 := by rw [clamp_eq, rs.length]; exact c.1
        have c2 : clampI xs.length xs.length hi = xs.length := by rw [clamp_eq, rs.length]; exact c.2
        have pd : PD F p H (.ok (.tup (Mi.slice xs lo hi)) h) Q Z := pd
        rw [slice_all c1 c2] at pd
        exact PD.now pd hr (.tup hq rs)
      · exact PD.tup pd hr hq2 (rs.slice lo hi)
  | str z =>
    cases ra with
    | str ok =>
      refine sl_str pins s σ H _ v vl vu lo hi sl Q I rx hs pl pu ⟨_, rfl, by rw [toS_length, lim_eq]; exact ok.1, ?_⟩
      rw [slice_str]
      exact PD.now pd hr (.str (ok.slice lo hi))
  | ref l =>
    unfold sliceD at pd
    dsimp only at pd
    cases e1 : h[l]? with
    | none => rw [e1] at pd; exact (show False from pd).elim
    | some o =>
      rw [e1] at pd
      obtain ⟨xa, e3, e4, or_⟩ := DR.ref_at hr ra e1
      subst e3
      cases o with
      | lst ds =>
        obtain ⟨vs, q1, q2⟩ := or_.seq rfl
        exact sl_list pins s σ H _ v vl vu lo hi sl Q I rx hs pl pu ⟨_, vs, rfl, by rw [← hK]; exact q1, fun q hq2 => PD.lst pd hr hq2 (q2.slice lo hi)⟩
      | _ => exact (show False from pd).elim
  | _ => exact (show False from pd).elim
end

/-! ### built-in functions -/
section
variable {X : Cx} {F : Fx} {p : Rho} {h : Sto} {H : Hp}
def rBF (F : Fx) (f : BF) : List V → Hp → VK → Prop := fun xs H Q => ∃ p h ds Z, F.HR p h H ∧ F.DRs p H ds xs ∧ PD F p H (bfD f ds h) Q Z
theorem PD.look {f : Sto → Option D} {Q : VK} {Z : Nat → Hp → Prop} (pd : PD F p H (lookS f h) Q Z) : ∃ d, f h = some d ∧ PD F p H (.ok d h) Q Z := by
  unfold lookS at pd
  cases e : f h with
  | none => rw [e] at pd; exact (show False from pd).elim
  | some d => rw [e] at pd; exact ⟨d, rfl, pd⟩
theorem PD.ofO {o : Option D} {Q : VK} {Z : Nat → Hp → Prop} (pd : PD F p H (ofO o h) Q Z) : ∃ d, o = some d ∧ PD F p H (.ok d h) Q Z := by
  unfold Mi.ofO at pd
  cases o with
  | none => exact (show False from pd).elim
  | some d => exact ⟨d, rfl, pd⟩
theorem DRs.one {d : D} {vs : List V} (r : F.DRs p H [d] vs) : ∃ v, vs = [v] ∧ F.DR p H d v := by
  cases r with
  | cons a b => cases b; exact ⟨_, rfl, a⟩
theorem DRs.two {d e : D} {vs : List V} (r : F.DRs p H [d, e] vs) : ∃ v w, vs = [v, w] ∧ F.DR p H d v ∧ F.DR p H e w := by
  cases r with
  | cons a b => cases b with
    | cons b c => cases c; exact ⟨_, _, rfl, a, b⟩
theorem cr_len (hK : F.K = X.K) : CallR X (.builtin "len") (rBF F .len) := by
  intro pins s σ H xs us Q I r q
  obtain ⟨p, h, ds, Z, hr, rs, pd⟩ := q
  match ds, rs, pd with
  | [a], rs, pd =>
    obtain ⟨x, rfl, ra⟩ := rs.one
    obtain ⟨d, e, pd⟩ := PD.look (f := fun h => (lenD h a).map fun n => .int n) pd
    have go : ∀ n : Nat, lenD h a = some n → Q (.int n) H := fun n en => by
      have e : (lenD h a).map (fun n => D.int n) = some d := e
      rw [en] at e
      cases e
      exact PD.now pd hr (.int _)
    cases a with
    | str z =>
      cases ra with
      | str ok => exact call_len pins s σ H _ us Q I r ⟨_, z.length, rfl, ⟨by rw [toS_length, lim_eq]; exact ok.1, by rw [toS_length]⟩, go _ rfl⟩
    | tup ys =>
      cases ra with
      | tup hq rs2 => exact call_len pins s σ H _ us Q I r ⟨_, ys.length, rfl, .inr ⟨_, by rw [← hK]; exact hq, rs2.length⟩, go _ rfl⟩
    | fl ys =>
      cases ra with
      | fl hq rs2 => exact call_len pins s σ H _ us Q I r ⟨_, ys.length, rfl, .inl ⟨_, by rw [← hK]; exact hq.seq, rs2.length⟩, go _ rfl⟩
    | ref l =>
      have e : (lenD h (.ref l)).map (fun n => D.int n) = some d := e
      unfold lenD at e go
      dsimp only at e go
      cases e1 : h[l]? with
      | none => rw [e1] at e; cases e
      | some o =>
        rw [e1] at e go
        obtain ⟨xa, e3, e4, or_⟩ := DR.ref_at hr ra e1
        subst e3
        cases o with
        | lst ys =>
          obtain ⟨vs, q1, q2⟩ := or_.seq rfl
          exact call_len pins s σ H _ us Q I r ⟨_, ys.length, rfl, .inl ⟨_, by rw [← hK]; exact q1, q2.length⟩, go _ rfl⟩
        | dct kvs =>
          obtain ⟨ws, q1, q2⟩ := or_
          have hg := go _ rfl
          rw [q2.length] at hg
          exact call_lenD pins s σ H _ us Q I r ⟨_, ws, rfl, q1, hg⟩
        | ins c fs => cases e
    | _ => cases e
  | [], rs, pd => exact (show False from pd).elim
  | _ :: _ :: _, rs, pd => exact (show False from pd).elim
theorem cr_abs : CallR X (.builtin "abs") (rBF F .abs) := by
  intro pins s σ H xs us Q I r q
  obtain ⟨p, h, ds, Z, hr, rs, pd⟩ := q
  match ds, rs, pd with
  | [.int i], rs, pd =>
    obtain ⟨x, rfl, ra⟩ := rs.one
    cases ra
    exact call_abs pins s σ H _ us Q I r ⟨i, rfl, PD.now pd hr (.int _)⟩
theorem cr_max (hc : X.calm = true) : CallR X (.builtin "max") (rBF F .max) := by
  intro pins s σ H xs us Q I r q
  obtain ⟨p, h, ds, Z, hr, rs, pd⟩ := q
  match ds, rs, pd with
  | [.int i, .int j], rs, pd =>
    obtain ⟨x, y, rfl, ra, rb⟩ := rs.two
    cases ra; cases rb
    exact call_max2 hc pins s σ H _ us Q I r ⟨i, j, rfl, PD.now pd hr (.int _)⟩
theorem cr_min (hc : X.calm = true) : CallR X (.builtin "min") (rBF F .min) := by
  intro pins s σ H xs us Q I r q
  obtain ⟨p, h, ds, Z, hr, rs, pd⟩ := q
  match ds, rs, pd with
  | [.int i, .int j], rs, pd =>
    obtain ⟨x, y, rfl, ra, rb⟩ := rs.two
    cases ra; cases rb
    exact call_min2 hc pins s σ H _ us Q I r ⟨i, j, rfl, PD.now pd hr (.int _)⟩
theorem valN_eq : ∀ (s : List Nat) (a : Nat), valN s a = s.foldl (fun acc c => acc * 10 + (c - 48)) a
  | [], _ => rfl
  | c :: r, a => by
    show valN r (a * 10 + (c - 48)) = _
    rw [valN_eq r, List.foldl_cons]
theorem intS_eq {s : List Nat} {n : Int} (e : intS s = some n) : intText? (toS s) = some n ∧ (toS s).length ≤ 640 := by
  unfold intS at e
  by_cases c : 1 ≤ s.length ∧ s.length ≤ 600 ∧ s.all (fun c => decide (48 ≤ c ∧ c ≤ 57)) = true
  · rw [if_pos c] at e
    obtain ⟨c1, c2, c3⟩ := c
    have h1 := intText_digits (x := toS s) (by
      rw [toS_list]
      intro z hz
      simpa using List.all_eq_true.mp c3 z hz) (by rw [toS_list]; intro q; rw [q] at c1; simp at c1) (by rw [toS_length]; omega)
    rw [h1]
    refine ⟨?_, by rw [toS_length]; omega⟩
    rw [toS_list]
    unfold NumText.digitsVal
    rw [← valN_eq]
    exact e
  · rw [if_neg c] at e; cases e
theorem cr_int : CallR X (.type "int") (rBF F .int) := by
  intro pins s σ H xs us Q I r q
  obtain ⟨p, h, ds, Z, hr, rs, pd⟩ := q
  match ds, rs, pd with
  | [.str z], rs, pd =>
    obtain ⟨x, rfl, ra⟩ := rs.one
    obtain ⟨d, e, pd⟩ := PD.ofO (o := (intS z).map .int) pd
    cases e1 : intS z with
    | none => rw [e1] at e; cases e
    | some n =>
      rw [e1] at e
      cases e
      cases ra
      obtain ⟨h1, h2⟩ := intS_eq e1
      exact call_int_str pins s σ H _ us Q I r ⟨_, n, rfl, h1, h2, PD.now pd hr (.int _)⟩
theorem figs_numL : ∀ (f n : Nat), n < f → figs f n = TL.numL n
  | 0, _, h => absurd h (Nat.not_lt_zero _)
  | f + 1, n, h => by
    unfold figs
    by_cases c : n < 10
    · rw [if_pos c, TL.numL_lt c]
    · rw [if_neg c, TL.numL_step (by omega), figs_numL f (n / 10) (by omega)]
theorem strN_numL (n : Nat) : strN n = TL.numL n := figs_numL _ _ (Nat.lt_succ_self _)
theorem strN_S (n : Nat) : (Str.ofString (toString ((n : Nat) : Int))) = toS (strN n) := by
  rw [strN_numL, ← TL.tl_num]
theorem strN_ok {n : Nat} (h : n < 10 ^ 500) : okS (strN n) := by
  rw [strN_numL]
  refine ⟨?_, fun c hc => ?_⟩
  · have := TL.numL_len (k := 500) (by omega) h
    rw [lim_val]
    omega
  · have := TL.numL_digits n c hc
    omega
theorem cr_str : CallR X (.type "str") (rBF F .str) := by
  intro pins s σ H xs us Q I r q
  obtain ⟨p, h, ds, Z, hr, rs, pd⟩ := q
  match ds, rs, pd with
  | [.int i], rs, pd =>
    obtain ⟨x, rfl, ra⟩ := rs.one
    cases ra
    by_cases c : 0 ≤ i ∧ i.natAbs < 10 ^ 500
    · have pd : PD F p H ((if 0 ≤ i ∧ i.natAbs < 10 ^ 500 then ret (.str (strN i.natAbs)) else bad : M D) h) Q Z := pd
      rw [if_pos c] at pd
      obtain ⟨c1, c2⟩ := c
      have e : i = ((i.natAbs : Nat) : Int) := by omega
      refine call_str_int pins s σ H _ us Q I r ⟨i, rfl, ?_, ?_⟩
      · have h1 : i.natAbs < 2 ^ 1900 := Nat.lt_of_lt_of_le c2 (by decide +kernel)
        exact Nat.lt_of_lt_of_le (PySem.Flt.log2_lt_of (by omega) h1) (by omega)
      · have e2 : (toString i : String) = toString ((i.natAbs : Nat) : Int) := by rw [← e]
        show Q (.str (Str.ofString (toString i))) H
        rw [e2, strN_S]
        exact PD.now pd hr (.str (strN_ok c2))
    · have pd : PD F p H ((if 0 ≤ i ∧ i.natAbs < 10 ^ 500 then ret (.str (strN i.natAbs)) else bad : M D) h) Q Z := pd
      rw [if_neg c] at pd
      exact (show False from pd).elim
theorem DRs.toInts : ∀ {ds : List D} {vs : List V} {ns : List Int}, F.DRs p H ds vs → intsD ds = some ns → vs = ns.map V.int
  | [], _, ns, .nil, e => by cases e; rfl
  | d :: ds, _, ns, .cons a b, e => by
    cases d with
    | int i =>
      have e : (intsD ds).map (i :: ·) = some ns := e
      cases e1 : intsD ds with
      | none => rw [e1] at e; cases e
      | some ms =>
        rw [e1] at e
        cases e
        cases a
        rw [DRs.toInts b e1]
        rfl
    | _ => cases e
theorem DRs.toBools : ∀ {ds : List D} {vs : List V} {ns : List Bool}, F.DRs p H ds vs → boolsD ds = some ns → vs = ns.map V.bl
  | [], _, ns, .nil, e => by cases e; rfl
  | d :: ds, _, ns, .cons a b, e => by
    cases d with
    | bl i =>
      have e : (boolsD ds).map (i :: ·) = some ns := e
      cases e1 : boolsD ds with
      | none => rw [e1] at e; cases e
      | some ms =>
        rw [e1] at e
        cases e
        cases a
        rw [DRs.toBools b e1]
        rfl
    | _ => cases e
theorem DRs.toStrs : ∀ {ds : List D} {vs : List V} {ns : List (List Nat)}, F.DRs p H ds vs → strsD ds = some ns → vs = ns.map (fun s => V.str (toS s)) ∧ ∀ s ∈ ns, okS s
  | [], _, ns, .nil, e => by cases e; exact ⟨rfl, fun s h => by cases h⟩
  | d :: ds, _, ns, .cons a b, e => by
    cases d with
    | str i =>
      have e : (strsD ds).map (i :: ·) = some ns := e
      cases e1 : strsD ds with
      | none => rw [e1] at e; cases e
      | some ms =>
        rw [e1] at e
        cases e
        obtain ⟨h1, h2⟩ := DRs.toStrs b e1
        cases a with
        | str ok =>
          refine ⟨by rw [h1]; rfl, fun s hs => ?_⟩
          rcases List.mem_cons.mp hs with q | q
          · rw [q]; exact ok
          · exact h2 s q
    | _ => cases e
theorem cr_sum (hK : F.K = X.K) (hc : X.calm = true) : CallR X (.builtin "sum") (rBF F .sum) := by
  intro pins s σ H xs us Q I r q
  obtain ⟨p, h, ds, Z, hr, rs, pd⟩ := q
  match ds, rs, pd with
  | [.ref l], rs, pd =>
    obtain ⟨x, rfl, ra⟩ := rs.one
    unfold bfD at pd
    dsimp only at pd
    obtain ⟨d, e, pd⟩ := PD.look pd
    cases e1 : h[l]? with
    | none => rw [e1] at e; cases e
    | some o =>
      rw [e1] at e
      obtain ⟨xa, e3, e4, or_⟩ := DR.ref_at hr ra e1
      subst e3
      cases o with
      | lst ys =>
        have e : (intsD ys).map (fun ns => D.int ns.sum) = some d := e
        cases e2 : intsD ys with
        | none => rw [e2] at e; cases e
        | some ns =>
          rw [e2] at e
          cases e
          obtain ⟨vs, q1, q2⟩ := or_.seq rfl
          rw [q2.toInts e2] at q1
          exact L2.cr_sum hc pins s σ H _ us Q I r ⟨_, ns, rfl, by rw [← hK]; exact q1, PD.now pd hr (.int _)⟩
      | _ => cases e
theorem cr_all (hK : F.K = X.K) (hc : X.calm = true) : CallR X (.builtin "all") (rBF F .all) := by
  intro pins s σ H xs us Q I r q
  obtain ⟨p, h, ds, Z, hr, rs, pd⟩ := q
  match ds, rs, pd with
  | [.ref l], rs, pd =>
    obtain ⟨x, rfl, ra⟩ := rs.one
    unfold bfD at pd
    dsimp only at pd
    obtain ⟨d, e, pd⟩ := PD.look pd
    cases e1 : h[l]? with
    | none => rw [e1] at e; cases e
    | some o =>
      rw [e1] at e
      obtain ⟨xa, e3, e4, or_⟩ := DR.ref_at hr ra e1
      subst e3
      cases o with
      | lst ys =>
        have e : (Mi.boolsD ys).map (fun ns => D.bl (ns.all id)) = some d := e
        cases e2 : Mi.boolsD ys with
        | none => rw [e2] at e; cases e
        | some ns =>
          rw [e2] at e
          cases e
          obtain ⟨vs, q1, q2⟩ := or_.seq rfl
          rw [q2.toBools e2] at q1
          exact L2.cr_all hc pins s σ H _ us Q I r ⟨_, ns, rfl, by rw [← hK]; exact q1, PD.now pd hr (.bl _)⟩
      | _ => cases e
theorem cr_any (hK : F.K = X.K) (hc : X.calm = true) : CallR X (.builtin "any") (rBF F .any) := by
  intro pins s σ H xs us Q I r q
  obtain ⟨p, h, ds, Z, hr, rs, pd⟩ := q
  match ds, rs, pd with
  | [.ref l], rs, pd =>
    obtain ⟨x, rfl, ra⟩ := rs.one
    unfold bfD at pd
    dsimp only at pd
    obtain ⟨d, e, pd⟩ := PD.look pd
    cases e1 : h[l]? with
    | none => rw [e1] at e; cases e
    | some o =>
      rw [e1] at e
      obtain ⟨xa, e3, e4, or_⟩ := DR.ref_at hr ra e1
      subst e3
      cases o with
      | lst ys =>
        have e : (Mi.boolsD ys).map (fun ns => D.bl (ns.any id)) = some d := e
        cases e2 : Mi.boolsD ys with
        | none => rw [e2] at e; cases e
        | some ns =>
          rw [e2] at e
          cases e
          obtain ⟨vs, q1, q2⟩ := or_.seq rfl
          rw [q2.toBools e2] at q1
          exact L2.cr_any hc pins s σ H _ us Q I r ⟨_, ns, rfl, by rw [← hK]; exact q1, PD.now pd hr (.bl _)⟩
      | _ => cases e
end
end Mi

set_option Elab.async false
set_option linter.all false
set_option autoImplicit false
set_option maxRecDepth 100000
set_option maxHeartbeats 2000000
/-! Se: how arguments come to parameters, for any def without star parameters, with no defaults but of keyword-only ones. -/
namespace Mi
open PySem L2 PyProof.Rows

/-- the names of the values, in the order in which they come: the first n parameters, the keywords, the keyword-only ones that lack -/
def ixOf (x : Str) : List Str → Nat → Option Nat
  | [], _ => none
  | y :: r, i => if y = x then some i else ixOf x r (i + 1)
theorem ixOf_lookup {α : Type} (x : Str) : ∀ (A : List Str) (B C : List α) (i j : Nat), ixOf x A i = some j → A.length ≤ B.length → i = C.length → ∃ v, (A.zip B).lookup x = some v ∧ (C ++ B)[j]? = some v
  | [], _, _, _, _, h, _, _ => by cases h
  | y :: A, [], _, _, _, _, hl, _ => by simp at hl
  | y :: A, b :: B, C, i, j, h, hl, hi => by
    unfold ixOf at h
    by_cases c : y = x
    · rw [if_pos c] at h
      cases h
      subst c
      refine ⟨b, by simp [List.lookup], ?_⟩
      rw [hi]
      simp
    · rw [if_neg c] at h
      have hne : (x == y) = false := beq_eq_false_iff_ne.mpr fun e => c e.symm
      obtain ⟨v, h1, h2⟩ := ixOf_lookup x A B (C ++ [b]) (i + 1) j h (by simpa using hl) (by simp [hi])
      refine ⟨v, ?_, by simpa using h2⟩
      rw [List.zip_cons_cons, List.lookup_cons, hne]
      exact h1
/-- in the parameters' order -/
def ordOf (names A : List Str) : Option (List Nat) := names.mapM fun x => ixOf x A 0
def pickN {α : Type} (ord : List Nat) (B : List α) : List α := ord.filterMap fun i => B[i]?
theorem ord_pick {α : Type} (A : List Str) (B : List α) (hl : A.length ≤ B.length) : ∀ (names : List Str) (ord : List Nat), ordOf names A = some ord →
    names.filterMap (fun n => ((A.zip B).lookup n).map fun v => (n, v)) = names.zip (pickN ord B) ∧ (pickN ord B).length = names.length ∧ ord.length = names.length ∧ ∀ i ∈ ord, i < B.length
  | [], ord, h => by
    simp [ordOf] at h
    subst h
    exact ⟨rfl, rfl, rfl, fun _ h => by cases h⟩
  | n :: names, ord, h => by
    unfold ordOf at h
    rw [List.mapM_cons] at h
    cases e1 : ixOf n A 0 with
    | none => rw [e1] at h; cases h
    | some j =>
      cases e2 : names.mapM (fun x => ixOf x A 0) with
      | none => rw [e1, e2] at h; cases h
      | some ord' =>
        rw [e1, e2] at h
        cases h
        obtain ⟨v, h1, h2⟩ := ixOf_lookup n A B [] 0 j e1 hl rfl
        obtain ⟨h3, h4, h5, h6⟩ := ord_pick A B hl names ord' e2
        rw [List.nil_append] at h2
        have e3 : pickN (j :: ord') B = v :: pickN ord' B := by
          unfold pickN
          rw [List.filterMap_cons, h2]
        have hj := (List.getElem?_eq_some_iff.mp h2).1
        refine ⟨?_, by rw [e3]; simp [h4], by simp [h5], fun i hi => ?_⟩
        · rw [List.filterMap_cons, h1, h3, e3]
          rfl
        · rcases List.mem_cons.mp hi with q | q
          · rw [q]; exact hj
          · exact h6 i q
theorem pick_Vals {vs : List V} {us : List Value} (r : Vals vs us) : ∀ ord : List Nat, Vals (pickN ord vs) (pickN ord us)
  | [] => .nil
  | i :: ord => by
    unfold pickN
    rw [List.filterMap_cons, List.filterMap_cons]
    cases e : vs[i]? with
    | none =>
      rw [r.none_of e]
      exact pick_Vals r ord
    | some v =>
      obtain ⟨u, h1, h2⟩ := r.get e
      rw [h1]
      exact .cons h2 (pick_Vals r ord)
theorem pick_DRs {F : Fx} {p : Rho} {H : Hp} {ds : List D} {vs : List V} (r : F.DRs p H ds vs) : ∀ ord : List Nat, F.DRs p H (pickN ord ds) (pickN ord vs)
  | [] => .nil
  | i :: ord => by
    unfold pickN
    rw [List.filterMap_cons, List.filterMap_cons]
    cases e : ds[i]? with
    | none =>
      rw [r.get_none e]
      exact pick_DRs r ord
    | some v =>
      obtain ⟨u, h1, h2⟩ := r.get e
      rw [h1]
      exact .cons h2 (pick_DRs r ord)

/-! ### the loops of the binding -/
/-- no name stands twice, none among the first ones -/
def freshN : List Str → List Str → Bool
  | _, [] => true
  | A, k :: r => decide (k ∉ A) && freshN (A ++ [k]) r
theorem lookup_none {α : Type} {x : Str} {l : List (Str × α)} (h : x ∉ l.map (·.1)) : l.lookup x = none := by
  induction l with
  | nil => rfl
  | cons a r ih =>
    obtain ⟨k, v⟩ := a
    rw [List.map_cons, List.mem_cons, not_or] at h
    have hne : (x == k) = false := beq_eq_false_iff_ne.mpr h.1
    rw [List.lookup_cons, hne]
    exact ih h.2
theorem lookup_some {α : Type} {x : Str} {l : List (Str × α)} (h : x ∈ l.map (·.1)) : (l.lookup x).isSome = true := by
  induction l with
  | nil => cases h
  | cons a r ih =>
    obtain ⟨k, v⟩ := a
    rw [List.lookup_cons]
    by_cases c : x = k
    · subst c; simp
    · have hne : (x == k) = false := beq_eq_false_iff_ne.mpr c
      rw [hne]
      rw [List.map_cons, List.mem_cons] at h
      exact ih (h.resolve_left c)
theorem bind_loop1 {β : Type} {f : Str × Value → List (Str × Value) × β → Sem (ForInStep (List (Str × Value) × β))} {b : β} (ok : Str → Prop)
    (hf : ∀ k v l, ok k → l.lookup k = none → f (k, v) (l, b) = pure (.yield (l ++ [(k, v)], b))) :
    ∀ (kv l : List (Str × Value)), (∀ z ∈ kv, ok z.1) → freshN (l.map (·.1)) (kv.map (·.1)) = true → forIn kv (l, b) f = pure (l ++ kv, b)
  | [], l, _, _ => by rw [List.forIn_nil, List.append_nil]
  | (k, v) :: r, l, h, hn => by
    obtain ⟨h1, h2⟩ := Bool.and_eq_true_iff.mp (show (decide (k ∉ l.map (·.1)) && freshN (l.map (·.1) ++ [k]) (r.map (·.1))) = true from hn)
    rw [List.forIn_cons, hf k v l (h _ List.mem_cons_self) (lookup_none (of_decide_eq_true h1)), pure_bind]
    have := bind_loop1 ok hf r (l ++ [(k, v)]) (fun z hz => h z (List.mem_cons_of_mem _ hz)) (by simpa using h2)
    show forIn r (l ++ [(k, v)], b) f = _
    rw [this, List.append_assoc]
    rfl
/-- the keyword-only names: those that lack are looked up -/
def lackN (A : List Str) : List Str → List Str
  | [] => []
  | k :: r => if k ∈ A then lackN A r else k :: lackN (A ++ [k]) r
theorem bind_loop2 {M : Model} {h : Heap} {f : Str → List (Str × Value) × List Str → Sem (ForInStep (List (Str × Value) × List Str))} {val : Str → Option Value}
    (hf1 : ∀ k l, (l.lookup k).isSome = true → f k (l, []) = pure (.yield (l, [])))
    (hf2 : ∀ k l v, l.lookup k = none → val k = some v → PySem.W.Looks M h (f k (l, [])) (.yield (l ++ [(k, v)], []))) :
    ∀ (kn : List Str) (l : List (Str × Value)) (mv : List Value), (∀ z ∈ (lackN (l.map (·.1)) kn).zip mv, val z.1 = some z.2) → mv.length = (lackN (l.map (·.1)) kn).length →
      PySem.W.Looks M h (forIn kn (l, []) f) (l ++ (lackN (l.map (·.1)) kn).zip mv, [])
  | [], l, mv, _, _ => by
    rw [List.forIn_nil]
    have e : lackN (l.map (·.1)) [] = [] := rfl
    rw [e, List.zip_nil_left, List.append_nil]
    exact PySem.W.Looks.now
  | k :: r, l, mv, hv, hl => by
    rw [List.forIn_cons]
    by_cases c : k ∈ l.map (·.1)
    · have e : lackN (l.map (·.1)) (k :: r) = lackN (l.map (·.1)) r := by
        unfold lackN
        rw [if_pos c]
        cases r <;> rfl
      rw [e] at hv hl ⊢
      rw [hf1 k l (lookup_some c), pure_bind]
      exact bind_loop2 hf1 hf2 r l mv hv hl
    · have e : lackN (l.map (·.1)) (k :: r) = k :: lackN (l.map (·.1) ++ [k]) r := by
        conv => lhs; unfold lackN
        rw [if_neg c]
      rw [e] at hv hl ⊢
      cases mv with
      | nil => simp at hl
      | cons m mv =>
        refine PySem.W.Looks.andThen (hf2 k l m (lookup_none c) (hv (k, m) (by rw [List.zip_cons_cons]; exact List.mem_cons_self))) ?_
        have e2 : (l ++ [(k, m)]).map (·.1) = l.map (·.1) ++ [k] := by simp
        have ih := bind_loop2 hf1 hf2 r (l ++ [(k, m)]) mv (by
          rw [e2]
          intro z hz
          exact hv z (by rw [List.zip_cons_cons]; exact List.mem_cons_of_mem _ hz)) (by rw [e2]; simpa using hl)
        rw [e2] at ih
        rw [List.zip_cons_cons]
        have e3 : l ++ (k, m) :: (lackN (l.map (·.1) ++ [k]) r).zip mv = (l ++ [(k, m)]) ++ (lackN (l.map (·.1) ++ [k]) r).zip mv := by simp
        rw [e3]
        exact ih
theorem all_there {P : List Str} {α : Type} {l : List (Str × α)} (h : ∀ x ∈ P, x ∈ l.map (·.1)) : P.filter (fun n => (l.lookup n).isNone) = [] := by
  rw [List.filter_eq_nil_iff]
  intro x hx
  have := lookup_some (h x hx)
  cases e : l.lookup x with
  | none => rw [e] at this; cases this
  | some v => simp

theorem map_zip_take {α : Type} : ∀ (P : List Str) (us : List α), us.length ≤ P.length → (P.zip us).map (·.1) = P.take us.length
  | _, [], _ => by simp
  | [], _ :: _, h => by simp at h
  | a :: P, u :: us, h => by
    rw [List.zip_cons_cons, List.map_cons, map_zip_take P us (by simpa using h)]
    rfl
theorem zip_take {α : Type} : ∀ (P : List Str) (us : List α), us.length ≤ P.length → P.zip us = (P.take us.length).zip us
  | _, [], _ => by simp
  | [], _ :: _, h => by simp at h
  | a :: P, u :: us, h => by
    rw [List.zip_cons_cons, zip_take P us (by simpa using h)]
    rfl
/-- what binds: P the parameters, Kn the keyword-only ones, n values by place, keywords ks, lacking ms -/
structure BindC (params : Arguments) (P Kn : List Str) (n : Nat) (ks ms : List Str) (ord : List Nat) : Prop where
  po : params.posonlyargs = []
  va : params.vararg = none
  kwa : params.kwarg = none
  ps : params.args.map (·.arg) = P
  kn : params.kwonlyargs.map (·.arg) = Kn
  le : n ≤ P.length
  okk : ∀ k ∈ ks, k ∈ P ∨ k ∈ Kn
  fr : freshN (P.take n) ks = true
  there : ∀ x ∈ P, x ∈ P.take n ++ ks
  lack : lackN (P.take n ++ ks) Kn = ms
  ord : ordOf (P ++ Kn) (P.take n ++ ks ++ ms) = some ord
theorem bind_gen {K : PySem.W.Frag} {x q : Str} {params : Arguments} {body : List Stmt} {scope : Scope} {kV doc pm : Value} {an : Option Addr} {cdv ct : Value} {P Kn ks ms : List Str} {n : Nat} {ord : List Nat}
    (c : BindC params P Kn n ks ms ord) {s : Shared} {us ws mv : List Value} (KX : K.In s.heap) (h1 : us.length = n) (h2 : ws.length = ks.length) (h3 : mv.length = ms.length)
    (hD : ms = [] ∨ ∃ D : Addr, kV = .ref D ∧ ∀ z ∈ ms.zip mv, PySem.W.nsIn K D z.1 = some (some z.2)) :
    BindsTo s (PySem.W.fnOf x q params body scope .none kV doc pm an cdv ct) ⟨us, ks.zip ws⟩ ((P ++ Kn).zip (pickN ord (us ++ ws ++ mv))) := by
  refine BindsTo.of_looks fun M => ?_
  have hle := c.le
  have eP : (P.zip us).map (·.1) = P.take n := by
    rw [← h1]
    exact map_zip_take P us (by omega)
  have eK : (ks.zip ws).map (·.1) = ks := List.map_fst_zip (by omega)
  unfold bindArgs PySem.W.fnOf
  dsimp only
  simp only [c.po, c.va, c.kwa, c.ps, c.kn, List.map_nil, List.nil_append, Option.isSome_none, Option.isNone_none, Bool.and_true]
  rw [bind_loop1 (fun k => k ∈ P ∨ k ∈ Kn) (fun k v l hk hl => ?_) (ks.zip ws) (P.zip us) (fun z hz => c.okk z.1 (List.of_mem_zip hz).1) (by rw [eP, eK]; exact c.fr), pure_bind]
  · have hs : seqItems? Value.none = pure none := by rfl
    rw [hs, pure_bind]
    have hg : ¬ (decide (us.length > P.length) = true) := by
      rw [decide_eq_true_eq]; omega
    dsimp only
    rw [if_neg hg]
    have hm : P.filter (fun n => ((P.zip us ++ ks.zip ws).lookup n).isNone) = [] := all_there fun x hx => by
      rw [List.map_append, eP, eK]
      exact c.there x hx
    simp only [Option.getD_none, List.length_nil, Nat.zero_sub, List.drop_nil, Nat.sub_zero, List.take_length, hm, List.isEmpty_nil, Bool.not_true, List.drop_length, List.zip_nil_right]
    rw [if_neg Bool.false_ne_true, List.forIn_nil, pure_bind]
    have e12 : (P.zip us ++ ks.zip ws).map (·.1) = P.take n ++ ks := by rw [List.map_append, eP, eK]
    have hlack : lackN ((P.zip us ++ ks.zip ws).map (·.1)) Kn = ms := by rw [e12]; exact c.lack
    have val : ∃ val : Str → Option Value, (∀ z ∈ ms.zip mv, val z.1 = some z.2) ∧ ∀ (k : Str) (l : List (Str × Value)) (v : Value), l.lookup k = none → val k = some v → PySem.W.Looks M s.heap
        (if (l.lookup k).isNone = true then
          match kV with
          | Value.ref d => do
            let dflt ← nsGet d k
            match dflt with
              | some (w : Value) => pure (ForInStep.yield (l ++ [(k, w)], ([] : List Str)))
              | none => pure (ForInStep.yield (l, ([] : List Str) ++ [k]))
          | x => do
            let dflt ← pure (none : Option Value)
            match dflt with
              | some (w : Value) => pure (ForInStep.yield (l ++ [(k, w)], ([] : List Str)))
              | none => pure (ForInStep.yield (l, ([] : List Str) ++ [k]))
        else pure (ForInStep.yield (l, []))) (.yield (l ++ [(k, v)], [])) := by
      rcases hD with e | ⟨D, e, hq⟩
      · subst e
        exact ⟨fun _ => none, fun z hz => by simp at hz, fun _ _ _ _ z => by cases z⟩
      · subst e
        refine ⟨fun k => (PySem.W.nsIn K D k).getD none, fun z hz => by dsimp only; rw [hq z hz]; rfl, fun k l v hl hv => ?_⟩
        rw [hl, if_pos (show (none : Option Value).isNone = true from rfl)]
        have hv2 : PySem.W.nsIn K D k = some (some v) := by
          have hv : (PySem.W.nsIn K D k).getD none = some v := hv
          cases e : PySem.W.nsIn K D k with
          | none => rw [e] at hv; cases hv
          | some o => rw [e] at hv; exact congrArg some hv
        exact PySem.W.Looks.andThen (PySem.W.looks_nsIn KX hv2) PySem.W.Looks.now
    obtain ⟨val, hv1, hv2⟩ := val
    refine PySem.W.Looks.andThen (bind_loop2 (val := val) (fun k l hl => ?_) (fun k l v hl hv => hv2 k l v hl hv) Kn (P.zip us ++ ks.zip ws) mv (by rw [hlack]; exact hv1) (by rw [hlack]; exact h3)) ?_
    · have hn : ¬ ((l.lookup k).isNone = true) := by
        cases e : l.lookup k with
        | none => rw [e] at hl; cases hl
        | some v => simp
      dsimp only
      rw [if_neg hn]
    · dsimp only
      rw [if_neg (by simp), hlack]
      refine PySem.W.Looks.of_pure (congrArg pure ?_)
      have ez : P.zip us ++ ks.zip ws ++ ms.zip mv = (P.take n ++ ks ++ ms).zip (us ++ ws ++ mv) := by
        rw [List.zip_append (by rw [List.length_append, List.length_append, List.length_take]; omega), List.zip_append (by rw [List.length_take]; omega)]
        congr 2
        rw [← h1]
        exact zip_take P us (by omega)
      rw [ez]
      exact (ord_pick (P.take n ++ ks ++ ms) (us ++ ws ++ mv) (by simp only [List.length_append, List.length_take]; omega) (P ++ Kn) ord c.ord).1
  · have hc : (P.contains k || Kn.contains k) = true := by
      rcases hk with q | q
      · rw [Bool.or_eq_true]; exact .inl (by simpa using q)
      · rw [Bool.or_eq_true]; exact .inr (by simpa using q)
    dsimp only
    rw [if_pos hc, if_neg (by rw [hl]; simp)]
end Mi

set_option Elab.async false
set_option linter.all false
set_option autoImplicit false
set_option maxRecDepth 100000
set_option maxHeartbeats 2000000
/-! Cm: from the model's syntax to Mi's: a function that the kernel can run. -/
namespace Mi
open PySem L2 PyProof.Rows

structure DefI where
  name : Str
  qual : Str
  pos : List Str
  kwo : List (Str × D)
  N : List Str
  sc : Scope
  params : Arguments
  body : List Stmt
  /-- the parameter that is called: the last one -/
  orc : Option Str
  /-- whether it makes lambdas -/
  lam : Bool
def DefI.nams (d : DefI) : List Str := d.pos ++ d.kwo.map (·.1)

structure Cn where
  N : List Str
  sc : Scope
  blk : Bool
  defs : List DefI
  con : List (Str × D)
  exc : List Str
  orc : Option Str
  lam : Bool
  /-- a block's own names that lambdas capture -/
  own : List Str := []
/-- for another def of the same text -/
def cnOf (c : Cn) (d : DefI) : Cn := { c with N := d.N, sc := d.sc, blk := false, orc := d.orc, lam := d.lam, own := [] }
/-- for a lambda in it -/
def cnLam (c : Cn) (sc : Scope) : Cn := { c with sc := sc, blk := true, orc := none, lam := false, own := [] }

def Cn.kind (c : Cn) (x : Str) : Option NameKind := c.sc.names.lookup x
def isVis : Option NameKind → Bool
  | some .local => true
  | some .cell => true
  | some .free => true
  | _ => false
def isLoc : Option NameKind → Bool
  | some .local => true
  | some .cell => true
  | _ => false
def isGlo : Option NameKind → Bool
  | some .globalImplicit => true
  | _ => false
def okName (x : Str) : Bool := !(x == ("__debug__" : Str)) && !(x == ("__classdict__" : Str))
/-- the slot of a name that is read -/
def Cn.slot (c : Cn) (x : Str) : Option Nat := if isVis (c.kind x) && okName x then ixOf x c.N 0 else none
/-- for a block of a comprehension in it -/
def cnBlk (c : Cn) (sc : Scope) : Cn := { c with sc := relS sc c.sc, blk := true, own := (sc.names.map (·.1)).filter fun x => sc.names.lookup x == some .cell }
/-- the slot of a name that is stored -/
def Cn.store (c : Cn) (x : Str) : Option Nat := if decide (c.orc = some x) then none else match c.kind x with
  | some .local => ixOf x c.N 0
  | some .cell => if c.blk && !decide (x ∈ c.own) then none else ixOf x c.N 0
  | _ => none
/-- a block's own names, with their slots -/
def ownOf (N : List Str) (sc : Scope) : List (Str × Nat) := sc.names.filterMap fun (x, k) => if isLoc (some k) then (ixOf x N 0).map (x, ·) else none
def Cn.glo (c : Cn) (x : Str) : Bool := isGlo (c.kind x) && okName x
def defIx (x : Str) : List DefI → Nat → Option (Nat × DefI)
  | [], _ => none
  | d :: r, i => if d.name = x then some (i, d) else defIx x r (i + 1)

def bOf : Operator → Option BOp
  | .Add => some .add
  | .Sub => some .sub
  | .Mult => some .mul
  | .FloorDiv => some .fdiv
  | .Mod => some .mod
  | .Pow => some .pow
  | _ => none
def coOf : CmpOp → Option COp
  | .Eq => some .eq
  | .NotEq => some .ne
  | .Lt => some .lt
  | .LtE => some .le
  | .Gt => some .gt
  | .GtE => some .ge
  | .Is => some .isn
  | .IsNot => some .isnn
  | .In => some .inn
  | .NotIn => some .nin
/-- right sides that the model takes for written sets have a rule of their own -/
def noSet : Expr → Bool
  | .Set _ _ _ => false
  | _ => true
def noStar : Expr → Bool
  | .Starred _ _ => false
  | _ => true
def noSlice : Expr → Bool
  | .Slice _ _ _ _ => false
  | _ => true
def noIf : Expr → Bool
  | .IfExp _ _ _ _ => false
  | _ => true
def noComp : Expr → Bool
  | .ListComp _ _ _ _ => false
  | .SetComp _ _ _ _ => false
  | .DictComp _ _ _ _ _ => false
  | _ => true
/-- not a call of a bare name, as super() -/
def noSup : Expr → Bool
  | .Call (.Name _ _) [] [] _ => false
  | _ => true
def okC (s : List Nat) : Bool := decide (s.length ≤ 1000) && s.all fun c => decide (c < 128)
def constD : Const → Option D
  | .int i => some (.int i)
  | .bool b => some (.bl b)
  | .none => some .non
  | .str x => if okC x.cps.toList then some (.str x.cps.toList) else none
  | _ => none

/-- the built-in functions by name -/
def bfOf : List (Str × BF) := [("len", .len), ("abs", .abs), ("max", .max), ("min", .min), ("int", .int), ("str", .str), ("sum", .sum), ("all", .all), ("any", .any)]
def bNames : List Str := ["len", "abs", "max", "min", "int", "str", "sum", "all", "any", "range", "isinstance", "ValueError", "bool", "tuple"]
def bmOf : List (Str × BM) := [("append", .append), ("get", .get), ("count", .count), ("index", .index), ("startswith", .startswith), ("endswith", .endswith), ("zfill", .zfill), ("split", .split), ("join", .join)]

def cAs (f : Expr → Option E) : List Expr → Option Es
  | [] => some .nil
  | e :: es => if noStar e then (match f e, cAs f es with
    | some x, some xs => some (.cons x xs)
    | _, _ => none) else none
def cBool (f : Expr → Option E) (op : PySem.BoolOp) : List Expr → Option E
  | [] => none
  | [e] => if noIf e then f e else none
  | e :: e2 :: r => if noIf e then (match f e, cBool f op (e2 :: r) with
    | some x, some y => some (match op with
      | .And => .and x y
      | .Or => .or x y)
    | _, _ => none) else none
def appEs : Es → Es → Es
  | .nil, b => b
  | .cons e r, b => .cons e (appEs r b)
def cstEs : List D → Es
  | [] => .nil
  | d :: r => .cons (.cst d) (cstEs r)
def kwNames : List Keyword → Option (List Str)
  | [] => some []
  | ⟨some x, _, _⟩ :: r => (kwNames r).map (x :: ·)
  | _ => none
def kwVals : List Keyword → List Expr
  | [] => []
  | ⟨_, v, _⟩ :: r => v :: kwVals r
def kwDflt (kwo : List (Str × D)) (ms : List Str) : Option (List D) := ms.mapM fun m => kwo.lookup m
/-- how the values come to the parameters of a def; the constants that fill up -/
def bindI (d : DefI) (n : Nat) (ks : List Str) : Option (List Nat × List D) :=
  let Kn := d.kwo.map (·.1)
  let ms := lackN (d.pos.take n ++ ks) Kn
  if decide (n ≤ d.pos.length) && (ks.all fun k => decide (k ∈ d.pos) || decide (k ∈ Kn)) && freshN (d.pos.take n) ks && (d.pos.all fun x => decide (x ∈ d.pos.take n ++ ks)) then
    match ordOf (d.pos ++ Kn) (d.pos.take n ++ ks ++ ms), kwDflt d.kwo ms with
    | some ord, some cs => some (ord, cs)
    | _, _ => none
  else none
def posBind (d : DefI) (n : Nat) : Bool := match bindI d n [] with
  | some (ord, []) => decide (ord = List.range n)
  | _ => false
def isIdent (ord : List Nat) : Bool := decide (ord = List.range ord.length)

def tyOf (c : Cn) (x : Str) : Option Ty :=
  if x = "int" then some .int else if x = "str" then some .str else if x = "bool" then some .bool else if x = "tuple" then some .tuple
  else if x = "ValueError" then some .valueError else match ixOf x c.exc 0 with
    | some i => some (.exc i)
    | none => none

def cCall (f : Expr → Option E) (c : Cn) (x : Str) (args : List Expr) (kws : List Keyword) : Option E :=
  if !c.glo x then
    (if decide (c.orc = some x) && args.isEmpty && kws.isEmpty && !c.blk && (c.slot x).isSome then some .orc else none)
  else match defIx x c.defs 0 with
    | some (i, d) => (match kwNames kws with
      | none => none
      | some ks => (match bindI d args.length ks, cAs f args, cAs f (kwVals kws) with
        | some (ord, cs), some as, some bs => some (if isIdent ord && cs.isEmpty then .call i (appEs as bs) else .perm i ord (appEs as (appEs bs (cstEs cs))))
        | _, _, _ => none))
    | none => if kws.isEmpty && decide (x ∈ bNames) then
        (if x = "isinstance" then (match args with
          | [a, .Name t _] => if c.glo t && !(decide (t ∈ c.defs.map (·.name))) then (match f a, tyOf c t with
            | some y, some ty => if noStar a then some (.isi y ty) else none
            | _, _ => none) else none
          | _ => none)
        else match bfOf.lookup x, cAs f args with
          | some b, some as => if args.isEmpty then none else some (.blt b as)
          | _, _ => none)
      else none

def cOpt (f : Expr → Option E) : Option Expr → Option E
  | none => some .no
  | some e => if noStar e then (match f e with
    | some .no => none
    | r => r) else none

def strKeys : List (Option Expr) → Option (List Ky)
  | [] => some []
  | some (.Constant (.str x) _ _) :: r => if okC x.cps.toList then (strKeys r).map (.s x.cps.toList :: ·) else none
  | _ => none

/-- the parts of an f'..' -/
def cFm (f : Expr → Option E) : List Expr → Option Es
  | [] => some .nil
  | .FormattedValue e c none _ :: r => if decide (c = -1) then (match f e, cFm f r with
    | some x, some xs => some (.cons x xs)
    | _, _ => none) else none
  | .Constant (.str x) _ _ :: r => if okC x.cps.toList then (cFm f r).map (Es.cons (.cst (.str x.cps.toList))) else none
  | _ => none
/-- no parameter at all -/
def noPar : Arguments → Bool
  | ⟨[], [], none, [], [], none, []⟩ => true
  | _ => false
/-- the arguments ahead of the last one, a lambda -/
def lamOf : Expr → Option (Arguments × Expr × Scope)
  | .Lambda pr body sc _ => some (pr, body, sc)
  | _ => none
def lamLast : List Expr → Option (List Expr × Arguments × Expr × Scope)
  | [] => none
  | [e] => (lamOf e).map fun z => ([], z)
  | e :: e2 :: r => (lamLast (e2 :: r)).map fun (es, z) => (e :: es, z)
def isLamB : Expr → Bool
  | .Lambda _ _ _ _ => true
  | _ => false

def cTg (c : Cn) : List Expr → Option (List Nat)
  | [] => some []
  | .Name x _ :: r => (match c.store x, cTg c r with
    | some i, some is => some (i :: is)
    | _, _ => none)
  | _ => none
def cForTg (c : Cn) : Expr → Option Tg
  | .Name x _ => (c.store x).map .one
  | .Tuple ts _ _ => (cTg c ts).map .many
  | _ => none
def noSetIt : Expr → Bool
  | .Set _ _ _ => false
  | _ => true
/-- all slots of a target among some -/
def tgIn (vs : List Nat) : Tg → Bool
  | .one i => decide (i ∈ vs)
  | .many is => is.all fun i => decide (i ∈ vs)
/-- a clause's tests -/
def cIf (f : Expr → Option E) : List Expr → Option E
  | [] => some (.cst (.bl true))
  | [e] => f e
  | _ => none
/-- what a loop walks -/
def cSrcF (f : Expr → Option E) (c : Cn) : Expr → Option (SrcK × Es)
  | .Call (.Name x p) args kws q => if decide (x = "range") then
      (if kws.isEmpty && c.glo x then (match args with
        | [a] => (cAs f [a]).map fun as => (.rng1, as)
        | [a, b] => (cAs f [a, b]).map fun as => (.rng2, as)
        | _ => none) else none)
    else (f (.Call (.Name x p) args kws q)).map fun e => (.val, .cons e .nil)
  | e => if noSetIt e then (f e).map fun e => (.val, .cons e .nil) else none
def cE : Nat → Cn → Expr → Option E
  | 0, _, _ => none
  | n + 1, c, e => match e with
    | .Constant k _ _ => (constD k).map .cst
    | .Name x _ => match c.slot x with
      | some i => some (.var i)
      | none => if c.glo x then (c.con.lookup x).map .cst else none
    | .BinOp a o b _ => match bOf o, cE n c a, cE n c b with
      | some o, some x, some y => some (.bin o x y)
      | _, _, _ => none
    | .UnaryOp .USub a _ => (cE n c a).map .neg
    | .UnaryOp .Not a _ => if noIf a then (cE n c a).map .not else none
    | .BoolOp op vs _ => cBool (cE n c) op vs
    | .Compare a [o] [b] _ => if noSet b then (match coOf o, cE n c a, cE n c b with
      | some o, some x, some y => some (.cmp o x y)
      | _, _, _ => none) else none
    | .Compare a [o, o2] [b, b2] _ => if noSet b && noSet b2 then (match coOf o, coOf o2, cE n c a, cE n c b, cE n c b2 with
      | some o, some o2, some x, some y, some z => some (.chn o o2 x y z)
      | _, _, _, _, _ => none) else none
    | .IfExp t a b _ => if noIf t then (match cE n c t, cE n c a, cE n c b with
      | some x, some y, some z => some (.ifx x y z)
      | _, _, _ => none) else none
    | .Tuple es _ _ => (cAs (cE n c) es).map .tup
    | .List es _ => (cAs (cE n c) es).map .lst
    | .Dict ks vs _ => if decide (ks.length = vs.length) && decide (vs.length ≤ 15) then (match strKeys ks, cAs (cE n c) vs with
      | some q, some as => some (.dct q as)
      | _, _ => none) else none
    | .Subscript a (.Slice lo hi none _) _ => match cE n c a, cOpt (cE n c) lo, cOpt (cE n c) hi with
      | some x, some l, some u => some (.slc x l u)
      | _, _, _ => none
    | .Subscript a b _ => if noSlice b then (match cE n c a, cE n c b with
      | some x, some y => some (.idx x y)
      | _, _ => none) else none
    | .Call (.Name x _) args kws _ => match lamLast args with
      | some (es, pr, body, sc) => if c.lam && kws.isEmpty && noPar pr && LamX.lamSB c.sc sc && c.glo x then (match defIx x c.defs 0 with
        | some (i, d) => if d.orc.isSome && d.kwo.isEmpty && posBind d args.length && decide (d.pos[es.length]? = d.orc) then (match cAs (cE n c) es, cE n (cnLam c sc) body with
          | some as, some b => some (.hrd i as b)
          | _, _ => none) else none
        | none => none) else none
      | none => cCall (cE n c) c x args kws
    | .Call (.Attribute o m ap) args [] cp => if (ap.endLine == cp.line) && noSup o && decide (args.length < 20) then (match bmOf.lookup m, cE n c o, cAs (cE n c) args with
      | some b, some x, some as => if args.isEmpty then none else some (.bmt b x as)
      | _, _, _ => none) else none
    | .JoinedStr vs _ => if decide (2 ≤ vs.length) then (cFm (cE n c) vs).map .fmt else none
    | .ListComp elt [⟨tg, it, ifs, 0⟩] scope _ =>
      if blkC c.N c.sc scope (ownOf c.N scope) && noSetIt it && ((ownOf c.N scope).all fun p => decide (c.orc ≠ some p.1)) then
        (match cForTg (cnBlk c scope) tg, cSrcF (cE n c) c it, cIf (cE n (cnBlk c scope)) ifs, cE n (cnBlk c scope) elt with
        | some t, some (k, as), some x, some y => if tgIn ((ownOf c.N scope).map (·.2)) t then some (.lc t k as x y ((ownOf c.N scope).map (·.2))) else none
        | _, _, _, _ => none)
      else none
    | _ => none
/-- name = [..], where the model stores the new list within the comprehension -/
def swLc (c : Cn) (x : Str) (line : Nat) (e : Expr) : Bool := match e with
  | .ListComp _ [⟨_, _, _, 0⟩] scope pos => decide (c.kind x = some .local) && (line == pos.line) && (match c.sc.kind with | .function => true | _ => false) && !(scope.names.any fun (n, k) => n == x && (k == .local || k == .cell))
  | _ => false

/-! ### statements -/
def isStarB : Expr → Bool
  | .Starred _ _ => true
  | _ => false
/-- a plain local name on the line -/
def nameOn (c : Cn) (line : Nat) : Expr → Option Str
  | .Name id pos => if c.kind id == some .local && pos.line == line then some id else none
  | _ => none
/-- as the model looks at a, b = x, y -/
def swapC (c : Cn) (ts vs : List Expr) : Option (Option (List Str)) :=
  if !(ts.length == 2 || ts.length == 3) || vs.length != ts.length || c.blk then some none
  else if vs.any isStarB then some none
  else
    let names := ts.filterMap (nameOn c ((ts.head?.map (·.pos.line)).getD 0))
    if names.length != ts.length || names.eraseDups.length != names.length then some none
    else if vs.all (foldedForSure 8) then some none
    else if vs.all (constantsAlone 8) then none
    else some (some names)
/-- the targets without their star, and where it stood -/
def unStar : List Expr → Option (List Expr × Nat)
  | [] => none
  | .Starred t _ :: r => if r.all noStar && noStar t then some (t :: r, 0) else none
  | t :: r => (unStar r).map fun (ts, i) => (t :: ts, i + 1)
def tgNames : List Expr → Option (List Str)
  | [] => some []
  | .Name x _ :: r => (tgNames r).map (x :: ·)
  | _ => none
def ixSt (l : List Str) (x : Str) : Option Nat := ixOf x l 0
def seqL : List S → S
  | [] => .pas
  | [s] => s
  | s :: r => .seq s (seqL r)
mutual
def cS : Nat → Cn → Stmt → Option S
  | 0, _, _ => none
  | n + 1, c, st => match st with
    | .Pass _ => some .pas
    | .Break _ => some .brk
    | .Continue _ => some .cnt
    | .Expr e _ => if noComp e then (cE n c e).map .exp else none
    | .Return none _ => some .retN
    | .Return (some e) _ => (cE n c e).map .ret
    | .If t a b _ => (match cE n c t, cSs n c a, cSs n c b with
      | some t, some a, some b => some (.ite t a b)
      | _, _, _ => none)
    | .While t a [] _ => (match cE n c t, cSs n c a with
      | some t, some a => some (.whl t a)
      | _, _ => none)
    | .For tg it body [] _ => (match cForTg c tg, cSrcF (cE n c) c it, cSs n c body with
      | some t, some (k, as), some b => some (.for_ t k as b)
      | _, _, _ => none)
    | .Assign [.Name x p] e _ => if noComp e || swLc c x p.line e then (match c.store x, cE n c e with
      | some i, some e => some (.set i e)
      | _, _ => none) else none
    | .Assign [.Tuple ts k1 p1] (.Tuple vs k2 p2) _ => (match swapC c ts vs with
      | some (some ns) => if decide (tgNames ts = some ns) && ns.all (fun x => decide (c.kind x = some .local)) then (match cTg c ts, cAs (cE n c) vs with
        | some is, some as => if decide is.Nodup then some (.par is as) else none
        | _, _ => none) else none
      | some none => (match cTg c ts, cE n c (.Tuple vs k2 p2) with
        | some is, some e => if is.isEmpty then none else some (.setT is e)
        | _, _ => none)
      | none => none)
    | .Assign [.Tuple ts k1 p1] e _ => if noComp e then (match unStar ts with
      | none => (match cTg c ts, cE n c e with
        | some is, some e => if is.isEmpty then none else some (.setT is e)
        | _, _ => none)
      | some (ts2, i) => (match cTg c ts2, cE n c e with
        | some is, some e => some (.setS is i e)
        | _, _ => none)) else none
    | .Assign [.Subscript o i _] e _ => if noSlice i && noComp e then (match cE n c o, cE n c i, cE n c e with
      | some o, some i, some e => some (.setI o i e)
      | _, _, _ => none) else none
    | .AugAssign (.Name x _) o e _ => (match c.store x, bOf o, cE n c e with
      | some i, some o, some e => some (.aug i o e)
      | _, _, _ => none)
    | .Raise (some (.Call (.Name x _) [.Constant (.str _) _ _] [] _)) none _ => if c.glo x then (ixSt c.exc x).map .rai else none
    | .Try body [.ExceptHandler (some (.Name x _)) (some m) [.Assign [.Name k _] (.Name m2 _) _] _] [] [] _ =>
      if c.glo x && decide (m2 = m) && decide (c.kind m = some .local) && decide (c.kind k = some .local) && okName m then
        (match cSs n c body, ixSt c.exc x, c.store m, c.store k with
        | some b, some e, some i, some j => if decide (i ≠ j) then some (.tryAs b e i j) else none
        | _, _, _, _ => none)
      else none
    | _ => none
def cSs : Nat → Cn → List Stmt → Option S
  | 0, _, _ => none
  | n + 1, c, sts => match sts with
    | [] => some .pas
    | [s] => cS n c s
    | s :: r => (match cS n c s, cSs n c r with
      | some x, some y => some (.seq x y)
      | _, _ => none)
end
end Mi

set_option Elab.async false
set_option linter.all false
set_option autoImplicit false
set_option maxRecDepth 100000
set_option maxHeartbeats 2000000
/-! Sf: what compiles keeps its result, expressions. -/
namespace Mi
open PySem L2 PyProof.Rows

/-! ### side conditions from the syntax -/
theorem star_of {e : Expr} {es : List Expr} {env : Env} (h : noStar e = true) : starEach (e :: es) env = (false, eval e env) :: starEach es env := by
  cases e <;> first | rfl | (cases h)
theorem back_cons {p : Pos} {a : Bool × Sem Value} {l : List (Bool × Sem Value)} : (backTo p (a :: l)).any (·.1) = (a.1 || (backTo p l).any (·.1)) := by
  unfold backTo
  rw [List.map_cons, List.any_cons]
theorem stars_of {p : Pos} {env : Env} {f : Expr → Option E} : ∀ {es : List Expr} {x : Es}, cAs f es = some x → (backTo p (starEach es env)).any (·.1) = false
  | [], _, _ => rfl
  | e :: es, x, h => by
    unfold cAs at h
    by_cases c : noStar e = true
    · rw [if_pos c] at h
      cases e1 : f e with
      | none => rw [e1] at h; cases h
      | some y =>
        cases e2 : cAs f es with
        | none => rw [e1, e2] at h; cases h
        | some ys =>
          rw [star_of c, back_cons, stars_of e2]
          rfl
    · rw [if_neg c] at h; cases h
theorem base_of {o : Expr} {m : Str} {env : Env} {w : Sem Value} (h : noSup o = true) : attributeBase o m env w = w := by
  cases o with
  | Call f args kws pos =>
    cases args with
    | nil =>
      cases kws with
      | nil => cases f <;> first | rfl | (cases h)
      | cons _ _ => cases f <;> rfl
    | cons _ _ => cases f <;> rfl
  | _ => rfl
theorem ix_of {b : Expr} (h : noSlice b = true) : PlainIx b := by
  intro o i
  cases b <;> first | rfl | (cases h)
theorem set_of {op : CmpOp} {b : Expr} (h : noSet b = true) : behindInMarks op b = false := by
  cases b <;> first | rfl | (cases h)
theorem sets_of {o1 o2 : CmpOp} {b c : Expr} (h1 : noSet b = true) (h2 : noSet c = true) : lastMarks [o1, o2] [b, c] = false := set_of h2
theorem few_of {p : Pos} {env : Env} {es : List Expr} {f : Expr → Option E} {x : Es} (h : cAs f es = some x) : (backTo p (starEach es env)).all (fun z => !z.1) = true := by
  have h1 := stars_of (p := p) (env := env) h
  rw [List.all_eq_not_any_not]
  simpa using h1
theorem kws_all {p : Pos} {env : Env} : ∀ {kws : List Keyword} {ks : List Str}, kwNames kws = some ks → (backToKw p (keywordEach kws env)).all (·.1.isSome) = true ∧ (backToKw p (keywordEach kws env)).filterMap (·.1) = ks ∧ (backToKw p (keywordEach kws env)).any (·.1.isNone) = false
  | [], ks, h => by cases h; exact ⟨rfl, rfl, rfl⟩
  | ⟨none, v, q⟩ :: r, ks, h => by cases h
  | ⟨some x, v, q⟩ :: r, ks, h => by
    have h : (kwNames r).map (x :: ·) = some ks := h
    cases e : kwNames r with
    | none => rw [e] at h; cases h
    | some ys =>
      rw [e] at h
      cases h
      obtain ⟨h1, h2, h3⟩ := kws_all (p := p) (env := env) e
      have e1 : backToKw p (keywordEach (⟨some x, v, q⟩ :: r) env) = (some x, do let v ← eval v env; standAt p; pure v) :: backToKw p (keywordEach r env) := rfl
      rw [e1]
      refine ⟨by rw [List.all_cons, h1]; rfl, by rw [List.filterMap_cons, h2], by rw [List.any_cons, h3]; rfl⟩

/-! ### what stands around -/
def cV : D → V
  | .int i => .int i
  | .bl b => .bl b
  | .str s => .str (toS s)
  | _ => .non
def scalar : D → Bool
  | .int _ => true
  | .bl _ => true
  | .non => true
  | .str s => okC s
  | _ => false
theorem okC_ok {s : List Nat} (h : okC s = true) : okS s := by
  obtain ⟨h1, h2⟩ := Bool.and_eq_true_iff.mp (show (decide (s.length ≤ 1000) && s.all fun c => decide (c < 128)) = true from h)
  refine ⟨?_, fun c hc => of_decide_eq_true (List.all_eq_true.mp h2 c hc)⟩
  have := of_decide_eq_true h1
  rw [lim_val]
  omega
theorem cV_DR {F : Fx} {p : Rho} {H : Hp} {d : D} (h : scalar d = true) : F.DR p H d (cV d) := by
  cases d with
  | int i => exact .int i
  | bl b => exact .bl b
  | non => exact .non
  | str s => exact .str (okC_ok h)
  | _ => cases h

/-- a def's promise: the result of Mi's def -/
def spI (F : Fx) (pg : Pg) (n i np : Nat) (o : M D) : Sp := fun vs H Q E => ∃ p h ds, F.HR p h H ∧ F.DRs p H ds vs ∧ ds.length = np ∧ PD F p H (callN pg n i ds o h) Q (fun c H1 => E (.ref (F.cA c)) none H1)
def nPar (d : DefI) : Nat := d.pos.length + d.kwo.length
/-- the def i, as it stands behind the top -/
structure DefS (F : Fx) (pg : Pg) (base : Heap) (mg : Str → Option Value) (c : Cn) (i : Nat) (d : DefI) : Prop where
  kwo : ∀ q ∈ d.kwo, scalar q.2 = true
  glo : mg d.name = some (.ref (F.fA i))
  fn : ∃ (oc : Value) (od : Option Addr) (kV doc pm : Value) (an : Option Addr) (cc : Addr) (ct : Value) (osl : Array (Option Value)),
    F.K.lookup (F.fA i) = some ⟨oc, od, .func (PySem.W.fnOf d.name d.qual d.params d.body d.sc .none kV doc pm an (.ref cc) ct), osl⟩ ∧ PySem.W.codeIn F.K (.ref cc) d.qual = true ∧ KwdV F.K kV (d.kwo.map fun q => (q.1, cV q.2)) ∧
    (d.lam = true → ∃ P, LamX.TabB base mg cc P ∧ (P, (d.qual ++ (".<locals>." : Str)) ++ ("<lambda>" : Str)) ∈ F.T ∧ ∀ z ∈ F.T, z.1 = P → z.2 = (d.qual ++ (".<locals>." : Str)) ++ ("<lambda>" : Str))
  kp : PySem.W.keepIn F.K (.ref (F.fA i)) = true
  po : d.params.posonlyargs = []
  va : d.params.vararg = none
  kwa : d.params.kwarg = none
  ps : d.params.args.map (·.arg) = d.pos
  kn : d.params.kwonlyargs.map (·.arg) = d.kwo.map (·.1)
  sc : FnScope d.N d.nams d.sc
  orc : ∀ x, d.orc = some x → ∃ j : Nat, d.N[j]? = some x ∧ d.nams[j]? = some x ∧ Vis d.sc x ∧ (x == ("__debug__" : Str)) = false ∧ (x == ("__classdict__" : Str)) = false
  body : ∃ m s, cSs m (cnOf c d) d.body = some s ∧ pg.fns[i]? = some ⟨nPar d, d.N.length, s⟩
/-- an exception class -/
structure ExcOk (K : PySem.W.Frag) (mg : Str → Option Value) (cA : Nat → Addr) (sub : Nat → Nat → Option Bool) (exc : List Str) : Prop where
  glo : ∀ i x, exc[i]? = some x → mg x = some (.ref (cA i))
  ex : ∀ i x, exc[i]? = some x → PySem.W.excIn K (cA i) He.veBase "ValueError.__new__" = true ∧ PySem.W.keepIn K (.ref (cA i)) = true ∧ PySem.W.subIn K (.ref (cA i)) (.type "BaseException") = some true ∧ PySem.W.typeIn K (.ref (cA i)) = some (.type "type")
  dom : ∀ i j b, sub i j = some b → (∃ x, exc[i]? = some x) ∧ ∃ y, exc[j]? = some y
  exm : ∀ i j b, sub i j = some b → PySem.W.exmOne K (.ref (cA i)) (.ref (cA j)) = some b
  isC : ∀ i x, exc[i]? = some x → ExcC K (cA i)
  kit : ∀ i j b, sub i j = some b → PySem.W.kitOne K (.ref (cA i)) (.ref (cA j)) = some b
  kitV : ∀ i x, exc[i]? = some x → PySem.W.kitOne K (.ref (cA i)) (.type "ValueError") = some true
/-- what stands behind the top -/
structure Stat (F : Fx) (pg : Pg) (base : Heap) (mg : Str → Option Value) (c : Cn) : Prop where
  dfs : ∀ i d, c.defs[i]? = some d → DefS F pg base mg c i d
  con : ∀ x d, c.con.lookup x = some d → scalar d = true ∧ ∃ u, mg x = some u ∧ RelV (cV d) u
  bt : ∀ x ∈ bNames, mg x = none
  exc : ExcOk F.K mg F.cA pg.sub c.exc
/-- the defs keep their promises at m -/
def CallsAt (F : Fx) (pg : Pg) (m : Nat) (c : Cn) (P : Program) (w : World) (mg : Str → Option Value) (base : Heap) : Prop :=
  ∀ i d, c.defs[i]? = some d → ∀ oc od fd osl, F.K.lookup (F.fA i) = some ⟨oc, od, .func fd, osl⟩ → FnOk P w F.K mg base (L2.CX P w) (2 * m) (F.fA i) fd d.nams (spI F pg m i (nPar d) bad)
/-- the context of the text that is compiled -/
structure GoodX (F : Fx) (pg : Pg) (n : Nat) (o : M D) (c : Cn) (X : Cx) : Prop where
  hN : X.N = c.N
  nd : c.N.Nodup
  sc : X.env.scope = c.sc
  hK : F.K = X.K
  calm : X.calm = true
  room : Room (2 * n + 1) X.A
  bk : X.env.blockKind = .function
  st : Stat F pg X.base X.mg c
  calls : ∀ m, m ≤ n → CallsAt F pg m c X.prog X.w X.mg X.base
  fnl : c.blk = false → ∀ x, X.fn x = true
  orc : ∀ x, c.orc = some x → c.blk = false → ∀ (p pos : Pos) (W : WX) (pn : List (Addr × PySem.Obj)) (xe : Value → Shared → Prop), Takes (X.tr pn xe) W → PE (X.tr pn xe) (.Call (.Name x p) [] [] pos) (tE F W fun _ => o)
  pin : ∀ z, F.pin = some z → ∃ x, c.orc = some x ∧ c.N[z.i]? = some x
  own : ∀ x ∈ c.own, X.fn x = true
  lam : c.lam = true → ∃ cc P, X.env.code = .ref cc ∧ LamX.TabB X.base X.mg cc P ∧ (P, X.env.qual ++ ("<lambda>" : Str)) ∈ F.T ∧ ∀ z ∈ F.T, z.1 = P → z.2 = X.env.qual ++ ("<lambda>" : Str)
  po : c.blk = false → PassesOwn (model X.prog X.w) X.A X.env X.xe
  fr : c.blk = false → X.stack = X.env :: X.outer ∧ X.env.frame = some X.env.locals ∧ X.ex = []

section
variable {F : Fx} {pg : Pg} {n : Nat} {o : M D} {c : Cn} {X : Cx}
theorem ixOf_get {x : Str} : ∀ {l : List Str} {i j : Nat}, ixOf x l i = some j → ∃ k, j = i + k ∧ l[k]? = some x
  | [], _, _, h => by cases h
  | y :: l, i, j, h => by
    unfold ixOf at h
    by_cases e : y = x
    · rw [if_pos e] at h
      cases h
      exact ⟨0, rfl, by simp [e]⟩
    · rw [if_neg e] at h
      obtain ⟨k, h1, h2⟩ := ixOf_get h
      exact ⟨k + 1, by omega, by simpa using h2⟩
theorem slot_of (g : GoodX F pg n o c X) {x : Str} {i : Nat} (h : c.slot x = some i) : X.N[i]? = some x ∧ Vis X.env.scope x ∧ (x == ("__debug__" : Str)) = false ∧ (x == ("__classdict__" : Str)) = false := by
  unfold Cn.slot at h
  by_cases e : (isVis (c.kind x) && okName x) = true
  · rw [if_pos e] at h
    obtain ⟨k, e1, e2⟩ := ixOf_get h
    obtain ⟨h1, h2⟩ := Bool.and_eq_true_iff.mp e
    obtain ⟨h3, h4⟩ := Bool.and_eq_true_iff.mp (show (!(x == ("__debug__" : Str)) && !(x == ("__classdict__" : Str))) = true from h2)
    refine ⟨by rw [g.hN, e1]; simpa using e2, ?_, by simpa using h3, by simpa using h4⟩
    unfold Vis
    rw [g.sc]
    unfold Cn.kind at h1
    cases q : c.sc.names.lookup x with
    | none => rw [q] at h1; cases h1
    | some k =>
      rw [q] at h1
      cases k <;> first | exact .inl rfl | exact .inr (.inl rfl) | exact .inr (.inr rfl) | (cases h1)
  · rw [if_neg e] at h; cases h
theorem glo_of (g : GoodX F pg n o c X) {x : Str} (h : c.glo x = true) : Gl X x ∧ (x == ("__debug__" : Str)) = false := by
  unfold Cn.glo at h
  obtain ⟨h1, h2⟩ := Bool.and_eq_true_iff.mp h
  obtain ⟨h3, h4⟩ := Bool.and_eq_true_iff.mp (show (!(x == ("__debug__" : Str)) && !(x == ("__classdict__" : Str))) = true from h2)
  refine ⟨?_, by simpa using h3⟩
  show X.env.scope.names.lookup x = some .globalImplicit
  rw [g.sc]
  unfold Cn.kind at h1
  cases q : c.sc.names.lookup x with
  | none => rw [q] at h1; cases h1
  | some k =>
    rw [q] at h1
    cases k <;> first | rfl | (cases h1)
theorem unit_of (g : GoodX F pg n o c X) : X.A.units + 64 < cLine := g.room.units

/-- the evaluator's surroundings -/
abbrev gE (pg : Pg) (n : Nat) (o : M D) : G := gOf pg n o
/-- what is to be shown of an expression that compiles -/
def OkE (F : Fx) (pg : Pg) (n : Nat) (o : M D) (X : Cx) (e : Expr) (x : E) : Prop := ∀ W, Takes X W → PE X e (tE F W (evE (gE pg n o) x))
def OkT (F : Fx) (pg : Pg) (n : Nat) (o : M D) (X : Cx) (e : Expr) (x : E) : Prop := ∀ W, Takes X W → PT X e (tT F W (evT (gE pg n o) x))
def OkA (F : Fx) (pg : Pg) (n : Nat) (o : M D) (X : Cx) (es : List Expr) (x : Es) : Prop := ∀ W, Takes X W → PA X es (tA F W (evA (gE pg n o) x))

theorem px_ret {a b : Type} {R : Rho → Hp → a → b → Prop} {p : Rho} {H : Hp} {h : Sto} {d : a} {v : b} {Q : b → Hp → Prop} {Z : Nat → Hp → Prop} (x : PX F R p H (ret d h) Q Z) (hr : F.HR p h H) (r : R p H d v) : Q v H := x p H v (Step.rfl' p H) hr r
/-- a list of expressions -/
theorem oka_of {f : Expr → Option E} (ih : ∀ e x, f e = some x → OkE F pg n o X e x) : ∀ {es : List Expr} {x : Es}, cAs f es = some x → OkA F pg n o X es x
  | [], x, h => by
    cases h
    intro W tk
    exact pa_weak pa_nil fun s H Q ⟨p, f, h, fr, hr, pd⟩ => px_ret pd hr .nil
  | e :: es, x, h => by
    unfold cAs at h
    by_cases c : noStar e = true
    · rw [if_pos c] at h
      cases e1 : f e with
      | none => rw [e1] at h; cases h
      | some y =>
        cases e2 : cAs f es with
        | none => rw [e1, e2] at h; cases h
        | some ys =>
          rw [e1, e2] at h
          cases h
          intro W tk
          refine pa_weak (pa_cons (ih e y e1 W tk) (oka_of ih e2 W tk) (star_of c)) fun s H Q ⟨p, f, h, fr, hr, pd⟩ => ?_
          refine ⟨p, f, h, fr, hr, px_bnd pd fun p1 h1 d v H1 st1 hr1 r1 pd1 => ?_⟩
          refine ⟨p1, f, h1, fr.mono st1, hr1, px_bnd pd1 fun p2 h2 ds vs H2 st2 hr2 r2 pd2 => ?_⟩
          exact px_ret pd2 hr2 (.cons (r1.mono st2) r2)
    · rw [if_neg c] at h; cases h

/-! ### one construct after another -/
theorem ok_const {k : Const} {j : Nat} {pos : Pos} {d : D} (h : constD k = some d) : OkE F pg n o X (.Constant k j pos) (.cst d) := by
  intro W tk
  have go : ∀ {v : V}, PE X (.Constant k j pos) (tC v) → (∀ p H, F.DR p H d v) → PE X (.Constant k j pos) (tE F W (evE (gE pg n o) (.cst d))) := fun {v} hp r =>
    pe_weak hp fun s H Q ⟨p, f, h, fr, hr, pd⟩ => px_ret pd hr (r p H)
  cases k with
  | int i => cases h; exact go pe_int fun _ _ => .int i
  | bool b => cases h; exact go pe_bl fun _ _ => .bl b
  | none => cases h; exact go pe_non fun _ _ => .non
  | str x =>
    have h : (if okC x.cps.toList then some (D.str x.cps.toList) else none) = some d := h
    by_cases c : okC x.cps.toList = true
    · rw [if_pos c] at h
      cases h
      exact go pe_str fun _ _ => by
        have := DR.str (K := F.K) (cA := F.cA) (p := ‹Rho›) (H := ‹Hp›) (okC_ok c)
        rw [toS_of] at this
        exact this
    · rw [if_neg c] at h; cases h
  | _ => cases h
theorem ok_var (g : GoodX F pg n o c X) {x : Str} {pos : Pos} {i : Nat} (h : c.slot x = some i) : OkE F pg n o X (.Name x pos) (.var i) := by
  intro W tk
  obtain ⟨h1, h2, h3, h4⟩ := slot_of g h
  refine pe_weak (pe_var h1 h2 h3 h4) fun s H Q ⟨p, f, h, fr, hr, pd⟩ => ?_
  obtain ⟨d, e, pd⟩ := PD.ofO (o := getV f i) pd
  have e2 : f[i]? = some (some d) := by
    unfold getV at e
    split at e
    · rename_i q; rw [q, e]
    · cases e
  obtain ⟨v, h5, h6⟩ := fr.get i d e2
  exact ⟨v, h5, px_ret pd hr h6⟩
theorem ok_con (g : GoodX F pg n o c X) {x : Str} {pos : Pos} {d : D} (hg : c.glo x = true) (h : c.con.lookup x = some d) : OkE F pg n o X (.Name x pos) (.cst d) := by
  intro W tk
  obtain ⟨h1, h2⟩ := glo_of g hg
  obtain ⟨h3, u, h4, h5⟩ := g.st.con x d h
  exact pe_weak (pe_glob h1 h4 h5 h2) fun s H Q ⟨p, f, h, fr, hr, pd⟩ => px_ret pd hr (cV_DR h3)
theorem bOf_opOf {op : Operator} {b : BOp} (h : bOf op = some b) : op = opOf b := by
  cases op <;> cases h <;> rfl
theorem coOf_cOf {op : CmpOp} {b : COp} (h : coOf op = some b) : op = cOf b := by
  cases op <;> cases h <;> rfl
theorem ok_bin (g : GoodX F pg n o c X) {a b : Expr} {x y : E} {op : Operator} {bo : BOp} {pos : Pos} (h : bOf op = some bo) (ha : OkE F pg n o X a x) (hb : OkE F pg n o X b y) : OkE F pg n o X (.BinOp a op b pos) (.bin bo x y) := by
  intro W tk
  rw [bOf_opOf h]
  refine pe_weak (pe_op (or_bin g.hK bo) (ha W tk) (hb W tk)) fun s H Q ⟨p, f, h, fr, hr, pd⟩ => ?_
  refine ⟨p, f, h, fr, hr, px_bnd pd fun p1 h1 d v H1 st1 hr1 r1 pd1 => ?_⟩
  refine ⟨p1, f, h1, fr.mono st1, hr1, px_bnd pd1 fun p2 h2 e w H2 st2 hr2 r2 pd2 => ?_⟩
  exact ⟨p2, h2, d, e, _, hr2, r1.mono st2, r2, pd2⟩
theorem ok_neg {a : Expr} {x : E} {pos : Pos} (ha : OkE F pg n o X a x) : OkE F pg n o X (.UnaryOp .USub a pos) (.neg x) := by
  intro W tk
  refine pe_weak (pe_un un_neg (ha W tk)) fun s H Q ⟨p, f, h, fr, hr, pd⟩ => ?_
  refine ⟨p, f, h, fr, hr, px_bnd pd fun p1 h1 d v H1 st1 hr1 r1 pd1 => ?_⟩
  cases d with
  | int i =>
    cases r1
    exact ⟨i, rfl, px_ret pd1 hr1 (.int _)⟩
  | _ => exact (show False from pd1).elim
theorem ok_not (g : GoodX F pg n o c X) {a : Expr} {x : E} {pos : Pos} (ha : OkE F pg n o X a x) : OkE F pg n o X (.UnaryOp .Not a pos) (.not x) := by
  intro W tk
  refine pe_weak (pe_notT (ha W tk)) fun s H Q ⟨p, f, h, fr, hr, pd⟩ => ?_
  refine ⟨p, f, h, fr, hr, px_bnd pd fun p1 h1 d v H1 st1 hr1 r1 pd1 => ?_⟩
  obtain ⟨e, h2, pd2⟩ := PD.look (f := fun h => (truth h d).map fun b => .bl (!b)) pd1
  have h2 : (truth h1 d).map (fun b => D.bl (!b)) = some e := h2
  cases h3 : truth h1 d with
  | none => rw [h3] at h2; cases h2
  | some b =>
    rw [h3] at h2
    cases h2
    exact ⟨b, by rw [← g.hK]; exact truth_V hr1 r1 h3, px_ret pd2 hr1 (.bl _)⟩
theorem ok_cmp (g : GoodX F pg n o c X) {a b : Expr} {x y : E} {op : CmpOp} {co : COp} {pos : Pos} (h : coOf op = some co) (hs : noSet b = true) (ha : OkE F pg n o X a x) (hb : OkE F pg n o X b y) : OkE F pg n o X (.Compare a [op] [b] pos) (.cmp co x y) := by
  intro W tk
  have hm : behindInMarks op b = false := set_of hs
  rw [coOf_cOf h] at hm ⊢
  refine pe_weak (pe_cmpR (or_cmp g.hK (unit_of g) co) (ha W tk) (hb W tk) hm) fun s H Q ⟨p, f, h, fr, hr, pd⟩ => ?_
  refine ⟨p, f, h, fr, hr, px_bnd pd fun p1 h1 d v H1 st1 hr1 r1 pd1 => ?_⟩
  refine ⟨p1, f, h1, fr.mono st1, hr1, px_bnd pd1 fun p2 h2 e w H2 st2 hr2 r2 pd2 => ?_⟩
  obtain ⟨k, h3, pd3⟩ := PD.look (f := fun h => (cmpD h co d e).map .bl) pd2
  have h3 : (cmpD h2 co d e).map D.bl = some k := h3
  cases h4 : cmpD h2 co d e with
  | none => rw [h4] at h3; cases h3
  | some t =>
    rw [h4] at h3
    cases h3
    exact ⟨p2, h2, d, e, t, hr2, r1.mono st2, r2, h4, px_ret pd3 hr2 (.bl t)⟩
/-- .. as a test -/
theorem okt_cmp (g : GoodX F pg n o c X) {a b : Expr} {x y : E} {op : CmpOp} {co : COp} {pos : Pos} (h : coOf op = some co) (hs : noSet b = true) (ha : OkE F pg n o X a x) (hb : OkE F pg n o X b y) : OkT F pg n o X (.Compare a [op] [b] pos) (.cmp co x y) := by
  intro W tk
  have hm : behindInMarks op b = false := set_of hs
  rw [coOf_cOf h] at hm ⊢
  refine pt_weak (pt_cmpR (or_cmp g.hK (unit_of g) co) (ha W tk) (hb W tk) hm) fun s H Q ⟨p, f, h, fr, hr, pd⟩ => ?_
  -- the test's own bind
  have pd : PX F Rid p H (bnd (bnd (evE (gE pg n o) x f) fun d => bnd (evE (gE pg n o) y f) fun e => lookS fun h => (cmpD h co d e).map .bl) (fun z => lookS fun h => truth h z) h) Q (zE F W s) := pd
  have as : ∀ {a b c : Type} (m : M a) (k : a → M b) (l : b → M c), bnd (bnd m k) l = bnd m fun z => bnd (k z) l := fun m k l => by
    funext h
    unfold bnd
    cases m h <;> rfl
  rw [as] at pd
  refine ⟨p, f, h, fr, hr, px_bnd pd fun p1 h1 d v H1 st1 hr1 r1 pd1 => ?_⟩
  rw [as] at pd1
  refine ⟨p1, f, h1, fr.mono st1, hr1, px_bnd pd1 fun p2 h2 e w H2 st2 hr2 r2 pd2 => ?_⟩
  obtain ⟨k, h3, pd3⟩ := px_look pd2
  have h3 : (cmpD h2 co d e).map D.bl = some k := h3
  cases h4 : cmpD h2 co d e with
  | none => rw [h4] at h3; cases h3
  | some t =>
    rw [h4] at h3
    cases h3
    refine ⟨p2, h2, d, e, t, hr2, r1.mono st2, r2, h4, t, rfl, ?_⟩
    exact pd3 p2 H2 t (Step.rfl' _ _) hr2 rfl
end
end Mi

set_option Elab.async false
set_option linter.all false
set_option autoImplicit false
set_option maxRecDepth 100000
set_option maxHeartbeats 2000000
/-! Sg: what compiles keeps its result, more expressions. -/
namespace Mi
open PySem L2 PyProof.Rows

section
variable {F : Fx} {pg : Pg} {n : Nat} {o : M D} {c : Cn} {X : Cx} {g : G}

theorem bnd_assoc {a b c : Type} (m : M a) (k : a → M b) (l : b → M c) : bnd (bnd m k) l = bnd m fun z => bnd (k z) l := by
  funext h
  unfold bnd
  cases m h <;> rfl
theorem evT_not (a : E) (f : Fr) : evT g (.not a) f = bnd (evT g a f) fun b => ret (!b) := by
  unfold evT
  rw [evE, bnd_assoc, bnd_assoc]
  congr 1
  funext x h
  unfold bnd lookS
  cases e : truth h x with
  | none => simp [e]
  | some b =>
    have t2 : truth h (.bl !b) = some (!b) := rfl
    simp [e, ret, t2]
theorem evT_and (a b : E) (f : Fr) : evT g (.and a b) f = bnd (evT g a f) fun t => if t then evT g b f else ret false := by
  unfold evT
  rw [evE, bnd_assoc, bnd_assoc]
  congr 1
  funext x h
  rw [bnd_assoc]
  unfold bnd lookS
  cases e : truth h x with
  | none => simp [e]
  | some b =>
    cases b with
    | true => simp [e, ret]
    | false => simp [ret, e]
theorem evT_or (a b : E) (f : Fr) : evT g (.or a b) f = bnd (evT g a f) fun t => if t then ret true else evT g b f := by
  unfold evT
  rw [evE, bnd_assoc, bnd_assoc]
  congr 1
  funext x h
  rw [bnd_assoc]
  unfold bnd lookS
  cases e : truth h x with
  | none => simp [e]
  | some b =>
    cases b with
    | false => simp [e, ret]
    | true => simp [ret, e]
theorem evT_ifx (a b d : E) (f : Fr) : evT g (.ifx d a b) f = bnd (evT g d f) fun t => if t then evT g a f else evT g b f := by
  unfold evT
  rw [evE, bnd_assoc, bnd_assoc]
  congr 1
  funext x h
  rw [bnd_assoc]
  unfold bnd lookS
  cases e : truth h x with
  | none => simp [e]
  | some b => cases b <;> simp [e]
theorem pxt_ret {p : Rho} {H : Hp} {h : Sto} {b : Bool} {Q : Bool → Hp → Prop} {Z : Nat → Hp → Prop} (x : PX F Rid p H (ret b h) Q Z) (hr : F.HR p h H) : Q b H := x p H b (Step.rfl' p H) hr rfl
theorem okt_not {a : Expr} {x : E} {pos : Pos} (ha : OkT F pg n o X a x) : OkT F pg n o X (.UnaryOp .Not a pos) (.not x) := by
  intro W tk
  refine pt_weak (pt_not (ha W tk)) fun s H Q ⟨p, f, h, fr, hr, pd⟩ => ?_
  rw [evT_not] at pd
  refine ⟨p, f, h, fr, hr, px_bnd pd fun p1 h1 d v H1 st1 hr1 r1 pd1 => ?_⟩
  cases (show v = d from r1)
  exact pxt_ret pd1 hr1
theorem pt_ifExp {pos : Pos} {t a b : Expr} {tt ta tb : TT} (hc : PT X t tt) (ha : PT X a ta) (hb : PT X b tb) : PT X (.IfExp t a b pos) (fun σ H Q => tt σ H fun c H1 => if c = true then ta σ H1 Q else tb σ H1 Q) := by
  refine ⟨fun pins s σ H Q I h => ?_⟩
  refine isTrue_IfExp (thn (hc.run pins s σ H _ I h) fun d s1 ⟨H1, I1, q1⟩ => ?_)
  cases d with
  | true => exact ha.run pins s1 σ H1 Q I1 q1
  | false => exact hb.run pins s1 σ H1 Q I1 q1
theorem okt_ifx {a b t : Expr} {x y z : E} {pos : Pos} (ht : OkT F pg n o X t x) (ha : OkT F pg n o X a y) (hb : OkT F pg n o X b z) : OkT F pg n o X (.IfExp t a b pos) (.ifx x y z) := by
  intro W tk
  refine pt_weak (pt_ifExp (ht W tk) (ha W tk) (hb W tk)) fun s H Q ⟨p, f, h, fr, hr, pd⟩ => ?_
  rw [evT_ifx] at pd
  refine ⟨p, f, h, fr, hr, px_bnd pd fun p1 h1 d v H1 st1 hr1 r1 pd1 => ?_⟩
  cases (show v = d from r1)
  cases d with
  | true => exact ⟨p1, f, h1, fr.mono st1, hr1, pd1⟩
  | false => exact ⟨p1, f, h1, fr.mono st1, hr1, pd1⟩
theorem ok_ifx {a b t : Expr} {x y z : E} {pos : Pos} (ht : OkT F pg n o X t x) (ha : OkE F pg n o X a y) (hb : OkE F pg n o X b z) : OkE F pg n o X (.IfExp t a b pos) (.ifx x y z) := by
  intro W tk
  refine pe_weak (pe_ifExp (ht W tk) (ha W tk) (hb W tk)) fun s H Q ⟨p, f, h, fr, hr, pd⟩ => ?_
  have e : evE (gE pg n o) (.ifx x y z) f = bnd (evT (gE pg n o) x f) fun t => if t then evE (gE pg n o) y f else evE (gE pg n o) z f := by
    rw [evE]
    unfold evT
    rw [bnd_assoc]
  rw [e] at pd
  refine ⟨p, f, h, fr, hr, px_bnd pd fun p1 h1 d v H1 st1 hr1 r1 pd1 => ?_⟩
  cases (show v = d from r1)
  cases d with
  | true => exact ⟨p1, f, h1, fr.mono st1, hr1, pd1⟩
  | false => exact ⟨p1, f, h1, fr.mono st1, hr1, pd1⟩
/-- and, or as values -/
theorem ok_bool {f : Expr → Option E} {op : PySem.BoolOp} (hK : F.K = X.K) (ih : ∀ e x, f e = some x → OkE F pg n o X e x) : ∀ {es : List Expr} {x : E} {pos : Pos}, cBool f op es = some x → OkE F pg n o X (.BoolOp op es pos) x
  | [], x, _, h => by cases h
  | [e], x, _, h => by
    unfold cBool at h
    by_cases k : noIf e = true
    · rw [if_pos k] at h
      intro W tk
      exact pe_one (ih e x h W tk)
    · rw [if_neg k] at h; cases h
  | e :: e2 :: r, x, pos, h => by
    unfold cBool at h
    by_cases k : noIf e = true
    · rw [if_pos k] at h
      cases e1 : f e with
      | none => rw [e1] at h; cases h
      | some y =>
        cases e3 : cBool f op (e2 :: r) with
        | none => rw [e1, e3] at h; cases h
        | some z =>
          rw [e1, e3] at h
          cases h
          have ha := ih e y e1
          have hb := ok_bool hK ih (pos := pos) e3
          cases op with
          | And =>
            intro W tk
            refine pe_weak (pe_andT (ha W tk) (hb W tk)) fun s H Q ⟨p, f, h, fr, hr, pd⟩ => ?_
            refine ⟨p, f, h, fr, hr, px_bnd pd fun p1 h1 d v H1 st1 hr1 r1 pd1 => ?_⟩
            obtain ⟨b, h2, pd2⟩ := px_look pd1
            refine ⟨b, by rw [← hK]; exact truth_V hr1 r1 h2, ?_⟩
            cases b with
            | true => exact ⟨p1, f, h1, fr.mono st1, hr1, pd2⟩
            | false => exact px_ret pd2 hr1 r1
          | Or =>
            intro W tk
            refine pe_weak (pe_orT (ha W tk) (hb W tk)) fun s H Q ⟨p, f, h, fr, hr, pd⟩ => ?_
            refine ⟨p, f, h, fr, hr, px_bnd pd fun p1 h1 d v H1 st1 hr1 r1 pd1 => ?_⟩
            obtain ⟨b, h2, pd2⟩ := px_look pd1
            refine ⟨b, by rw [← hK]; exact truth_V hr1 r1 h2, ?_⟩
            cases b with
            | true => exact px_ret pd2 hr1 r1
            | false => exact ⟨p1, f, h1, fr.mono st1, hr1, pd2⟩
    · rw [if_neg k] at h; cases h
/-- .. as tests -/
theorem okt_bool {f : Expr → Option E} {op : PySem.BoolOp} (ih : ∀ e x, f e = some x → OkT F pg n o X e x) : ∀ {es : List Expr} {x : E} {pos : Pos}, cBool f op es = some x → ∀ W, Takes X W → PW X (.BoolOp op es pos) (tT F W (evT (gE pg n o) x))
  | [], x, _, h => by cases h
  | [e], x, _, h => by
    unfold cBool at h
    by_cases k : noIf e = true
    · rw [if_pos k] at h
      intro W tk
      cases op with
      | And => exact pw_and1 (ih e x h W tk)
      | Or => exact pw_or1 (ih e x h W tk)
    · rw [if_neg k] at h; cases h
  | e :: e2 :: r, x, pos, h => by
    have pw_weak : ∀ {e : Expr} {t t' : TT}, PW X e t → (∀ s H Q, t' s H Q → t s H Q) → PW X e t' := fun h i => ⟨fun wh pins s σ H Q I x => h.run wh pins s σ H Q I (i _ _ _ x)⟩
    unfold cBool at h
    by_cases k : noIf e = true
    · rw [if_pos k] at h
      cases e1 : f e with
      | none => rw [e1] at h; cases h
      | some y =>
        cases e3 : cBool f op (e2 :: r) with
        | none => rw [e1, e3] at h; cases h
        | some z =>
          rw [e1, e3] at h
          cases h
          have ha := ih e y e1
          have hb := okt_bool ih (pos := pos) e3
          cases op with
          | And =>
            intro W tk
            refine pw_weak (pw_and (ha W tk) (hb W tk)) fun s H Q ⟨p, f, h, fr, hr, pd⟩ => ?_
            dsimp only at pd
            rw [evT_and] at pd
            refine ⟨p, f, h, fr, hr, px_bnd pd fun p1 h1 d v H1 st1 hr1 r1 pd1 => ?_⟩
            cases (show v = d from r1)
            cases d with
            | true => exact ⟨p1, f, h1, fr.mono st1, hr1, pd1⟩
            | false => exact pxt_ret pd1 hr1
          | Or =>
            intro W tk
            refine pw_weak (pw_or (ha W tk) (hb W tk)) fun s H Q ⟨p, f, h, fr, hr, pd⟩ => ?_
            dsimp only at pd
            rw [evT_or] at pd
            refine ⟨p, f, h, fr, hr, px_bnd pd fun p1 h1 d v H1 st1 hr1 r1 pd1 => ?_⟩
            cases (show v = d from r1)
            cases d with
            | true => exact pxt_ret pd1 hr1
            | false => exact ⟨p1, f, h1, fr.mono st1, hr1, pd1⟩
    · rw [if_neg k] at h; cases h
/-- a test whose truth is its value's -/
theorem okt_val {e : Expr} {x : E} (hK : F.K = X.K) (he : ∀ whole, isTrue e X.env whole = (do let v ← whole; standAt e.pos; holding [v] (truthy v))) (h : OkE F pg n o X e x) : OkT F pg n o X e x := by
  intro W tk
  refine pt_weak (pt_truth (h W tk) he) fun s H Q ⟨p, f, h, fr, hr, pd⟩ => ?_
  refine ⟨p, f, h, fr, hr, px_bnd pd fun p1 h1 d v H1 st1 hr1 r1 pd1 => ?_⟩
  obtain ⟨b, h2, h3⟩ : ∃ b, truth h1 d = some b ∧ PX F Rid p1 H1 (.ok b h1) Q (zE F W s) := by
    unfold lookS at pd1
    dsimp only at pd1
    cases e : truth h1 d with
    | none => rw [e] at pd1; exact pd1.elim
    | some b => rw [e] at pd1; exact ⟨b, rfl, pd1⟩
  exact ⟨b, by rw [← hK]; exact truth_V hr1 r1 h2, pxt_ret h3 hr1⟩
/-- two comparisons in a row -/
theorem ok_chn (gd : GoodX F pg n o c X) {a b d : Expr} {x y z : E} {op op2 : CmpOp} {co co2 : COp} {pos : Pos} (h : coOf op = some co) (h' : coOf op2 = some co2) (hs : noSet b = true) (hs' : noSet d = true)
    (ha : OkE F pg n o X a x) (hb : OkE F pg n o X b y) (hd : OkE F pg n o X d z) : OkE F pg n o X (.Compare a [op, op2] [b, d] pos) (.chn co co2 x y z) := by
  intro W tk
  have hm : lastMarks [op, op2] [b, d] = false := sets_of hs hs'
  rw [coOf_cOf h, coOf_cOf h'] at hm ⊢
  refine pe_weak (pe_chain (or_cmp gd.hK (unit_of gd) co) (or_cmp gd.hK (unit_of gd) co2) (ha W tk) (hb W tk) (hd W tk) hm) fun s H Q ⟨p, f, h, fr, hr, pd⟩ => ?_
  refine ⟨p, f, h, fr, hr, px_bnd pd fun p1 h1 d v H1 st1 hr1 r1 pd1 => ?_⟩
  refine ⟨p1, f, h1, fr.mono st1, hr1, px_bnd pd1 fun p2 h2 e w H2 st2 hr2 r2 pd2 => ?_⟩
  obtain ⟨k, h3, pd3⟩ := px_look pd2
  refine ⟨p2, h2, d, e, k, hr2, r1.mono st2, r2, h3, k, rfl, ?_⟩
  cases k with
  | false => exact px_ret pd3 hr2 (.bl false)
  | true =>
    refine ⟨p2, f, h2, (fr.mono st1).mono st2, hr2, px_bnd pd3 fun p3 h4 e3 w3 H3 st3 hr3 r3 pd4 => ?_⟩
    obtain ⟨q, h5, pd5⟩ := PD.look (f := fun h => (cmpD h co2 e e3).map .bl) pd4
    have h5 : (cmpD h4 co2 e e3).map D.bl = some q := h5
    cases h6 : cmpD h4 co2 e e3 with
    | none => rw [h6] at h5; cases h5
    | some t =>
      rw [h6] at h5
      cases h5
      exact ⟨p3, h4, e, e3, t, hr3, r2.mono st3, r3, h6, px_ret pd5 hr3 (.bl t)⟩
theorem okt_chn (gd : GoodX F pg n o c X) {a b d : Expr} {x y z : E} {op op2 : CmpOp} {co co2 : COp} {pos : Pos} (h : coOf op = some co) (h' : coOf op2 = some co2) (hs : noSet b = true) (hs' : noSet d = true)
    (ha : OkE F pg n o X a x) (hb : OkE F pg n o X b y) (hd : OkE F pg n o X d z) : OkT F pg n o X (.Compare a [op, op2] [b, d] pos) (.chn co co2 x y z) := by
  intro W tk
  have hm : lastMarks [op, op2] [b, d] = false := sets_of hs hs'
  rw [coOf_cOf h, coOf_cOf h'] at hm ⊢
  refine pt_weak (pt_chain (or_cmp gd.hK (unit_of gd) co) (or_cmp gd.hK (unit_of gd) co2) (ha W tk) (hb W tk) (hd W tk) hm) fun s H Q ⟨p, f, h, fr, hr, pd⟩ => ?_
  unfold evT at pd
  rw [evE, bnd_assoc] at pd
  refine ⟨p, f, h, fr, hr, px_bnd pd fun p1 h1 d v H1 st1 hr1 r1 pd1 => ?_⟩
  rw [bnd_assoc] at pd1
  refine ⟨p1, f, h1, fr.mono st1, hr1, px_bnd pd1 fun p2 h2 e w H2 st2 hr2 r2 pd2 => ?_⟩
  rw [bnd_assoc] at pd2
  obtain ⟨k, h3, pd3⟩ := px_look pd2
  refine ⟨p2, h2, d, e, k, hr2, r1.mono st2, r2, h3, k, rfl, ?_⟩
  cases k with
  | false => exact ⟨false, rfl, pd3 p2 H2 false (Step.rfl' _ _) hr2 rfl⟩
  | true =>
    have pd3 : PX F Rid p2 H2 (bnd (bnd (evE (gE pg n o) z f) fun z => lookS fun h => (cmpD h co2 e z).map D.bl) (fun x => lookS fun h => truth h x) h2) Q (zE F W s) := pd3
    rw [bnd_assoc] at pd3
    refine ⟨p2, f, h2, (fr.mono st1).mono st2, hr2, px_bnd pd3 fun p3 h4 e3 w3 H3 st3 hr3 r3 pd4 => ?_⟩
    obtain ⟨q, h5, pd5⟩ := px_look pd4
    have h5 : (cmpD h4 co2 e e3).map D.bl = some q := h5
    cases h6 : cmpD h4 co2 e e3 with
    | none => rw [h6] at h5; cases h5
    | some t =>
      rw [h6] at h5
      cases h5
      exact ⟨p3, h4, e, e3, t, hr3, r2.mono st3, r3, h6, t, rfl, pd5 p3 H3 t (Step.rfl' _ _) hr3 rfl⟩
/-- tuples and lists -/
theorem ok_tup {es : List Expr} {x : Es} {pos : Pos} {cx} (ha : OkA F pg n o X es x) : OkE F pg n o X (.Tuple es cx pos) (.tup x) := by
  intro W tk
  refine pe_weak (pe_tup (ha W tk)) fun s H Q ⟨p, f, h, fr, hr, pd⟩ => ?_
  refine ⟨p, f, h, fr, hr, px_bnd pd fun p1 h1 ds vs H1 st1 hr1 r1 pd1 => ?_⟩
  by_cases k : ds.length ≤ lim
  · rw [if_pos k] at pd1
    exact ⟨by rw [← r1.length, lim_eq]; exact k, fun q hq => PD.tup pd1 hr1 hq r1⟩
  · rw [if_neg k] at pd1; exact pd1.elim
theorem ok_lst {es : List Expr} {x : Es} {pos : Pos} (ha : OkA F pg n o X es x) : OkE F pg n o X (.List es pos) (.lst x) := by
  intro W tk
  refine pe_weak (pe_lst (ha W tk)) fun s H Q ⟨p, f, h, fr, hr, pd⟩ => ?_
  refine ⟨p, f, h, fr, hr, px_bnd pd fun p1 h1 ds vs H1 st1 hr1 r1 pd1 => ?_⟩
  by_cases k : ds.length ≤ lim
  · rw [if_pos k] at pd1
    exact ⟨by rw [← r1.length, lim_eq]; exact k, fun q hq => PD.lst pd1 hr1 hq r1⟩
  · rw [if_neg k] at pd1; exact pd1.elim
theorem ok_idx (gd : GoodX F pg n o c X) {a b : Expr} {x y : E} {pos : Pos} (hs : noSlice b = true) (ha : OkE F pg n o X a x) (hb : OkE F pg n o X b y) : OkE F pg n o X (.Subscript a b pos) (.idx x y) := by
  intro W tk
  refine pe_weak (pe_ix (or_idx gd.hK (by have := unit_of gd; omega)) (ha W tk) (hb W tk) (ix_of hs)) fun s H Q ⟨p, f, h, fr, hr, pd⟩ => ?_
  refine ⟨p, f, h, fr, hr, px_bnd pd fun p1 h1 d v H1 st1 hr1 r1 pd1 => ?_⟩
  refine ⟨p1, f, h1, fr.mono st1, hr1, px_bnd pd1 fun p2 h2 e w H2 st2 hr2 r2 pd2 => ?_⟩
  obtain ⟨k, h3, pd3⟩ := PD.look (f := fun h => idxD h d e) pd2
  exact ⟨p2, h2, d, e, k, hr2, r1.mono st2, r2, h3, fun v rv => px_ret pd3 hr2 rv⟩
/-- a slice's part -/
theorem ok_part {f : Expr → Option E} (ih : ∀ e x, f e = some x → OkE F pg n o X e x) {lo : Option Expr} {x : E} (h : cOpt f lo = some x) : ∀ W, Takes X W → ∃ t, PO X lo t ∧ ∀ s H Q, tX F W (fun _ _ => Eq) (fun σ => asB (isNo x) (evE (gE pg n o) x σ)) s H Q → t s H Q := by
  intro W tk
  cases lo with
  | none =>
    cases h
    refine ⟨_, po_none, fun s H Q ⟨p, f, h, fr, hr, pd⟩ => ?_⟩
    exact pd p H none (Step.rfl' _ _) hr rfl
  | some e =>
    have h : (if noStar e = true then (match f e with | some .no => none | r => r) else none) = some x := h
    by_cases k : noStar e = true
    · rw [if_pos k] at h
      have hx : f e = some x ∧ isNo x = false := by
        cases e1 : f e with
        | none => rw [e1] at h; cases h
        | some y =>
          rw [e1] at h
          cases y <;> first | (cases h; exact ⟨rfl, rfl⟩) | cases h
      refine ⟨_, po_some (ih e x hx.1 W tk), fun s H Q ⟨p, f, h, fr, hr, pd⟩ => ?_⟩
      dsimp only at pd
      unfold asB at pd
      rw [hx.2] at pd
      refine ⟨p, f, h, fr, hr, px_bnd pd fun p1 h1 d v H1 st1 hr1 r1 pd1 => ?_⟩
      cases d with
      | int i =>
        cases r1
        exact ⟨i, rfl, pd1 p1 H1 (some i) (Step.rfl' _ _) hr1 rfl⟩
      | _ => exact (show False from pd1).elim
    · rw [if_neg k] at h; cases h
theorem ok_slc (gd : GoodX F pg n o c X) {f : Expr → Option E} (ih : ∀ e x, f e = some x → OkE F pg n o X e x) {a : Expr} {lo hi : Option Expr} {x l u : E} {pos p2 : Pos} (ha : f a = some x) (hl : cOpt f lo = some l) (hu : cOpt f hi = some u) :
    OkE F pg n o X (.Subscript a (.Slice lo hi none p2) pos) (.slc x l u) := by
  intro W tk
  obtain ⟨tl, pl, wl⟩ := ok_part ih hl W tk
  obtain ⟨tu, pu, wu⟩ := ok_part ih hu W tk
  refine pe_weak (pe_slice (or_slc gd.hK) (ih a x ha W tk) pl pu) fun s H Q ⟨p, f, h, fr, hr, pd⟩ => ?_
  refine ⟨p, f, h, fr, hr, px_bnd pd fun p1 h1 d v H1 st1 hr1 r1 pd1 => ?_⟩
  refine wl _ _ _ ⟨p1, f, h1, fr.mono st1, hr1, px_bnd pd1 fun p2 h2 i i' H2 st2 hr2 e2 pd2 => ?_⟩
  refine wu _ _ _ ⟨p2, f, h2, (fr.mono st1).mono st2, hr2, px_bnd pd2 fun p3 h3 j j' H3 st3 hr3 e3 pd3 => ?_⟩
  cases (show i = i' from e2)
  cases (show j = j' from e3)
  exact ⟨p3, h3, d, _, hr3, (r1.mono st2).mono st3, pd3⟩
end
end Mi

set_option Elab.async false
set_option linter.all false
set_option autoImplicit false
set_option maxRecDepth 100000
set_option maxHeartbeats 2000000
/-! Sg2: methods of texts. -/
namespace Mi
open PySem L2 PyProof.Rows PySem.Builtin PySem.Builtin.Str
def rBM (F : Fx) (m : BM) : V → List V → Hp → VK → Prop := fun x xs H Q => ∃ p h o ds Z, F.HR p h H ∧ F.DR p H o x ∧ F.DRs p H ds xs ∧ PD F p H (bmD m o ds h) Q Z
section
variable {F : Fx} {X : Cx}
theorem startsw_eq (x y : List Nat) : Txt.startswith (toS x) (toS y) = y.isPrefixOf x := by
  unfold Txt.startswith subAt
  rw [toS_length, toS_length, Nat.zero_add]
  rw [Bool.eq_iff_iff, Bool.and_eq_true, decide_eq_true_eq, beq_iff_eq, List.isPrefixOf_iff_prefix, List.prefix_iff_eq_take]
  constructor
  · rintro ⟨h1, h2⟩
    have := congrArg Array.toList h2
    simpa using this.symm
  · intro h
    have hl : y.length ≤ x.length := by
      have := congrArg List.length h
      simp at this
      omega
    refine ⟨hl, ?_⟩
    apply Array.ext'
    simpa using h.symm
theorem endsw_eq (x y : List Nat) : Txt.endswith (toS x) (toS y) = y.isSuffixOf x := by
  unfold Txt.endswith subAt
  rw [toS_length, toS_length, Nat.zero_add]
  rw [Bool.eq_iff_iff, Bool.and_eq_true, decide_eq_true_eq, beq_iff_eq, List.isSuffixOf_iff_suffix, List.suffix_iff_eq_drop]
  constructor
  · rintro ⟨h1, h2⟩
    have := congrArg Array.toList h2
    simp at this
    rw [List.take_of_length_le (by simp; omega)] at this
    exact this.symm
  · intro h
    have hl : y.length ≤ x.length := by
      have := congrArg List.length h
      simp at this
      omega
    refine ⟨hl, ?_⟩
    apply Array.ext'
    simp
    rw [List.take_of_length_le (by simp; omega)]
    exact h.symm
theorem zfill_eq (x : List Nat) (i : Int) : Txt.zfill (toS x) i = toS (zfillS x i) := by
  unfold Txt.zfill zfillS
  rw [toS_length]
  by_cases c : i ≤ x.length
  · rw [if_pos c, if_pos c]
  · rw [if_neg c, if_neg c]
    have pad : ∀ (y : List Nat) (k : Nat), padded (toS y) k 0 48 = toS (List.replicate k 48 ++ y) := fun y k => by
      unfold padded
      have : (Array.replicate k 48 ++ (toS y).cps ++ Array.replicate 0 48) = (List.replicate k 48 ++ y).toArray := by
        apply Array.ext'
        simp
      rw [this]
    have sub : ∀ (a : Nat) (r : List Nat), strSub (toS (a :: r)) 0 1 ++ padded (strSub (toS (a :: r)) 1 (a :: r).length) (i.toNat - (a :: r).length) 0 48 = toS (a :: (List.replicate (i.toNat - (a :: r).length) 48 ++ r)) := fun a r => by
      have e1 : strSub (toS (a :: r)) 0 1 = toS [a] := by
        unfold strSub
        have : (toS (a :: r)).cps.extract 0 1 = [a].toArray := by
          apply Array.ext'
          simp
        rw [this]
      have e2 : strSub (toS (a :: r)) 1 (a :: r).length = toS r := by
        unfold strSub
        have : (toS (a :: r)).cps.extract 1 (a :: r).length = r.toArray := by
          apply Array.ext'
          simp
        rw [this]
      rw [e1, e2, pad, toS_app]
      rfl
    unfold zfilled
    rw [toS_length]
    cases x with
    | nil => exact pad _ _
    | cons a r =>
      have hg : (toS (a :: r)).cps[0]? = some a := by simp
      rw [hg]
      by_cases h1 : a = 43
      · subst h1; exact sub _ _
      · by_cases h2 : a = 45
        · subst h2; exact sub _ _
        · split
          · exact absurd (Option.some.inj ‹_›) h1
          · exact absurd (Option.some.inj ‹_›) h2
          · rw [pad]
            split
            · rename_i q; cases q; exact absurd rfl h1
            · rename_i q; cases q; exact absurd rfl h2
            · rfl
theorem joinS_eq (sep : List Nat) : ∀ ss : List (List Nat), Str.join (toS sep) (ss.map toS) = toS (joinS sep ss)
  | [] => rfl
  | [x] => rfl
  | x :: y :: r => by
    have := joinS_eq sep (y :: r)
    show toS x ++ toS sep ++ Str.join (toS sep) ((y :: r).map toS) = _
    rw [this, toS_app, toS_app]
    rfl
theorem splitC_ne (c : Nat) (s : List Nat) : splitC c s ≠ [] := by
  cases s with
  | nil => simp [splitC]
  | cons x r =>
    unfold splitC
    split
    · simp
    · split <;> simp
theorem splitC_free (c : Nat) : ∀ (s : List Nat), ∀ p ∈ splitC c s, c ∉ p
  | [], p, h => by
    simp [splitC] at h
    subst h
    simp
  | x :: r, p, h => by
    unfold splitC at h
    have ih := splitC_free c r
    split at h
    · rcases List.mem_cons.mp h with e | e
      · subst e; simp
      · exact ih p e
    · rename_i hx
      split at h
      · rw [List.mem_singleton.mp h]
        simp
        exact fun e => hx e.symm
      · rename_i q qs e
        rcases List.mem_cons.mp h with e2 | e2
        · rw [e2]
          have := ih q (by rw [e]; exact List.mem_cons_self)
          simp only [List.mem_cons, not_or]
          exact ⟨fun e => hx e.symm, this⟩
        · exact ih p (by rw [e]; exact List.mem_cons_of_mem _ e2)
theorem join_splitC (c : Nat) : ∀ s : List Nat, joinS [c] (splitC c s) = s
  | [] => rfl
  | x :: r => by
    have ih := join_splitC c r
    unfold splitC
    split
    · rename_i hx
      subst hx
      cases e : splitC x r with
      | nil => exact absurd e (splitC_ne x r)
      | cons p ps =>
        rw [e] at ih
        show [] ++ [x] ++ joinS [x] (p :: ps) = _
        rw [ih]
        rfl
    · split
      · rename_i e
        exact absurd e (splitC_ne c r)
      · rename_i p ps e
        rw [e] at ih
        cases ps with
        | nil =>
          show x :: p = x :: r
          rw [show p = r from ih]
        | cons q qs =>
          show (x :: p) ++ [c] ++ joinS [c] (q :: qs) = x :: r
          have : p ++ [c] ++ joinS [c] (q :: qs) = r := ih
          rw [← this]
          rfl
/-- texts without the sign are told by what they join to -/
theorem join_inj (c : Nat) : ∀ (ps qs : List (List Nat)), (∀ p ∈ ps, c ∉ p) → (∀ q ∈ qs, c ∉ q) → ps ≠ [] → qs ≠ [] → joinS [c] ps = joinS [c] qs → ps = qs := by
  have cut : ∀ (p q a b : List Nat), c ∉ p → c ∉ q → p ++ c :: a = q ++ c :: b → p = q ∧ a = b := by
    intro p
    induction p with
    | nil =>
      intro q a b _ hq h
      cases q with
      | nil => simpa using h
      | cons z q =>
        simp at h
        exact absurd (by rw [h.1]; exact List.mem_cons_self) hq
    | cons y p ih =>
      intro q a b hp hq h
      cases q with
      | nil =>
        simp at h
        exact absurd (by rw [← h.1]; exact List.mem_cons_self) hp
      | cons z q =>
        simp at h
        obtain ⟨e1, e2⟩ := ih q a b (fun m => hp (List.mem_cons_of_mem _ m)) (fun m => hq (List.mem_cons_of_mem _ m)) (by simpa using h.2)
        exact ⟨by rw [h.1, e1], e2⟩
  intro ps
  induction ps with
  | nil => intro qs _ _ h; exact absurd rfl h
  | cons p ps ih =>
    intro qs hp hq _ hne h
    cases qs with
    | nil => exact absurd rfl hne
    | cons q qs =>
      have hp0 := hp p List.mem_cons_self
      have hq0 := hq q List.mem_cons_self
      cases ps with
      | nil =>
        cases qs with
        | nil => rw [show p = q from h]
        | cons q2 qs =>
          have h : p = q ++ [c] ++ joinS [c] (q2 :: qs) := h
          exact absurd (by rw [h]; simp) hp0
      | cons p2 ps =>
        cases qs with
        | nil =>
          have h : p ++ [c] ++ joinS [c] (p2 :: ps) = q := h
          exact absurd (by rw [← h]; simp) hq0
        | cons q2 qs =>
          have h : p ++ [c] ++ joinS [c] (p2 :: ps) = q ++ [c] ++ joinS [c] (q2 :: qs) := h
          rw [List.append_assoc, List.append_assoc] at h
          obtain ⟨e1, e2⟩ := cut p q _ _ hp0 hq0 (by simpa using h)
          rw [e1, ih (q2 :: qs) (fun z hz => hp z (List.mem_cons_of_mem _ hz)) (fun z hz => hq z (List.mem_cons_of_mem _ hz)) (by simp) (by simp) e2]
theorem split_eq (c : Nat) (s : List Nat) : Txt.split (toS s) (toS [c]) = (splitC c s).map toS := by
  have h1 := StrLaws.join_split (toS s) (toS [c])
  have h2 := StrLaws.split_free (toS s) c
  have hc : (toS [c]) = ⟨#[c]⟩ := rfl
  generalize hq : Txt.split (toS s) (toS [c]) = qs at h1
  rw [← hc, hq] at h2
  have e1 : qs = (qs.map (fun z => z.cps.toList)).map toS := by
    rw [List.map_map]
    have : (toS ∘ fun z : Str => z.cps.toList) = _root_.id := by funext z; exact toS_of z
    rw [this, List.map_id]
  have hne : qs ≠ [] := by
    intro hz
    have h4 : toS s = toS [] := by
      rw [← h1, hz]
      rfl
    have h5 := toS_inj h4
    subst h5
    rw [hz] at hq
    unfold Txt.split at hq
    rw [if_pos (by simp [Str.length])] at hq
    cases hq
  rw [e1, joinS_eq] at h1
  have h3 := toS_inj h1
  have := join_inj c (qs.map (fun z => z.cps.toList)) (splitC c s) (fun p hp => by
    obtain ⟨z, hz, rfl⟩ := List.mem_map.mp hp
    exact h2 z hz) (splitC_free c s) (by simpa using hne) (splitC_ne c s) (by rw [h3, join_splitC])
  rw [e1, this]
theorem mt_sw : MtR X "str.startswith" (rBM F .startswith) := by
  intro pins s σ H x xs v us Q I rx rs q
  obtain ⟨p, h, d, ds, Z, hr, rd, rds, pd⟩ := q
  match d, ds, rd, rds, pd with
  | .str a, [.str b], rd, rds, pd =>
    obtain ⟨y, rfl, ry⟩ := rds.one
    cases rd
    cases ry
    refine mt_startswith pins s σ H _ _ v us Q I rx rs ⟨_, _, rfl, rfl, ?_⟩
    rw [startsw_eq]
    exact PD.now pd hr (.bl _)
theorem mt_ew : MtR X "str.endswith" (rBM F .endswith) := by
  intro pins s σ H x xs v us Q I rx rs q
  obtain ⟨p, h, d, ds, Z, hr, rd, rds, pd⟩ := q
  match d, ds, rd, rds, pd with
  | .str a, [.str b], rd, rds, pd =>
    obtain ⟨y, rfl, ry⟩ := rds.one
    cases rd
    cases ry
    refine mt_endswith pins s σ H _ _ v us Q I rx rs ⟨_, _, rfl, rfl, ?_⟩
    rw [endsw_eq]
    exact PD.now pd hr (.bl _)
theorem padOk {i : Int} (h1 : -1000000 ≤ i) (h2 : i ≤ 1000000) : PadOk i = true := padOk_of (by omega) (by omega)
theorem mt_zf : MtR X "str.zfill" (rBM F .zfill) := by
  intro pins s σ H x xs v us Q I rx rs q
  obtain ⟨p, h, d, ds, Z, hr, rd, rds, pd⟩ := q
  match d, ds, rd, rds, pd with
  | .str a, [.int i], rd, rds, pd =>
    obtain ⟨y, rfl, ry⟩ := rds.one
    cases rd with
    | str ok =>
    cases ry
    have pd : PD F p H ((if -1000000 ≤ i ∧ i ≤ 1000000 then ret (.str (zfillS a i)) else bad : M D) h) Q Z := pd
    by_cases c : -1000000 ≤ i ∧ i ≤ 1000000
    · rw [if_pos c] at pd
      refine mt_zfill pins s σ H _ _ v us Q I rx rs ⟨_, _, rfl, rfl, padOk c.1 c.2, ?_⟩
      rw [zfill_eq]
      refine PD.now pd hr (.str ⟨?_, fun z hz => ?_⟩)
      · unfold zfillS
        have := ok.1
        have hl := lim_val
        split
        · exact this
        · split <;> simp at * <;> omega
      · have mem : ∀ {k : Nat} {r : List Nat}, (∀ z ∈ r, z < 128) → ∀ z ∈ List.replicate k 48 ++ r, z < 128 := fun hr z hz => by
          rcases List.mem_append.mp hz with e | e
          · rw [(List.mem_replicate.mp e).2]; decide
          · exact hr z e
        unfold zfillS at hz
        split at hz
        · exact ok.2 z hz
        · split at hz
          · rcases List.mem_cons.mp hz with e | e
            · rw [e]; decide
            · exact mem (fun z hz => ok.2 z (List.mem_cons_of_mem _ hz)) z e
          · rcases List.mem_cons.mp hz with e | e
            · rw [e]; decide
            · exact mem (fun z hz => ok.2 z (List.mem_cons_of_mem _ hz)) z e
          · exact mem ok.2 z hz
    · rw [if_neg c] at pd; exact (show False from pd).elim
theorem splitC_len (c : Nat) : ∀ s : List Nat, (splitC c s).length ≤ s.length + 1 ∧ ∀ p ∈ splitC c s, p.length ≤ s.length ∧ ∀ z ∈ p, z ∈ s
  | [] => by simp [splitC]
  | x :: r => by
    obtain ⟨h1, h2⟩ := splitC_len c r
    unfold splitC
    split
    · refine ⟨by simp; omega, fun p hp => ?_⟩
      rcases List.mem_cons.mp hp with e | e
      · subst e; simp
      · obtain ⟨a, b⟩ := h2 p e
        exact ⟨by simp; omega, fun z hz => List.mem_cons_of_mem _ (b z hz)⟩
    · split
      · rename_i e
        exact absurd e (splitC_ne c r)
      · rename_i p ps e
        rw [e] at h1 h2
        refine ⟨by simp at *; omega, fun q hq => ?_⟩
        rcases List.mem_cons.mp hq with e2 | e2
        · obtain ⟨a, b⟩ := h2 p List.mem_cons_self
          subst e2
          refine ⟨by simp; omega, fun z hz => ?_⟩
          rcases List.mem_cons.mp hz with e3 | e3
          · rw [e3]; exact List.mem_cons_self
          · exact List.mem_cons_of_mem _ (b z e3)
        · obtain ⟨a, b⟩ := h2 q (List.mem_cons_of_mem _ e2)
          exact ⟨by simp; omega, fun z hz => List.mem_cons_of_mem _ (b z hz)⟩
theorem strs_DRs {p : Rho} {H : Hp} : ∀ {ss : List (List Nat)}, (∀ s ∈ ss, okS s) → F.DRs p H (ss.map .str) ((ss.map toS).map V.str)
  | [], _ => .nil
  | s :: ss, h => .cons (.str (h s List.mem_cons_self)) (strs_DRs fun z hz => h z (List.mem_cons_of_mem _ hz))
theorem mt_sp : MtR X "str.split" (rBM F .split) := by
  intro pins s σ H x xs v us Q I rx rs q
  obtain ⟨p, h, d, ds, Z, hr, rd, rds, pd⟩ := q
  match d, ds, rd, rds, pd with
  | .str a, [.str [c]], rd, rds, pd =>
    obtain ⟨y, rfl, ry⟩ := rds.one
    cases rd with
    | str ok =>
    cases ry
    have pd : PD F p H ((if a.length + 2 ≤ lim then alloc (.lst ((splitC c a).map .str)) else bad : M D) h) Q Z := pd
    by_cases k : a.length + 2 ≤ lim
    · rw [if_pos k] at pd
      refine mt_split pins s σ H _ _ v us Q I rx rs ⟨_, _, rfl, rfl, rfl, by rw [toS_length, lim_eq]; exact k, fun q hq => ?_⟩
      rw [split_eq]
      refine PD.lst pd hr hq (strs_DRs fun z hz => ?_)
      obtain ⟨h1, h2⟩ := (splitC_len c a).2 z hz
      exact ⟨by have := ok.1; omega, fun w hw => ok.2 w (h2 w hw)⟩
    · rw [if_neg k] at pd; exact (show False from pd).elim
  | .str a, [.str []], rd, rds, pd => exact (show False from pd).elim
  | .str a, [.str (_ :: _ :: _)], rd, rds, pd => exact (show False from pd).elim
theorem joinS_len (sep : List Nat) : ∀ ss : List (List Nat), (joinS sep ss).length ≤ (ss.map (·.length)).sum + ss.length * sep.length ∧ ∀ z ∈ joinS sep ss, z ∈ sep ∨ ∃ s ∈ ss, z ∈ s
  | [] => by simp [joinS]
  | [x] => by
    simp [joinS]
    exact fun z hz => .inr hz
  | x :: y :: r => by
    obtain ⟨h1, h2⟩ := joinS_len sep (y :: r)
    refine ⟨?_, fun z hz => ?_⟩
    · show (x ++ sep ++ joinS sep (y :: r)).length ≤ _
      simp only [List.length_append, List.map_cons, List.sum_cons, List.length_cons, Nat.succ_mul] at h1 ⊢
      omega
    · have hz : z ∈ x ++ sep ++ joinS sep (y :: r) := hz
      rcases List.mem_append.mp hz with e | e
      · rcases List.mem_append.mp e with e | e
        · exact .inr ⟨x, List.mem_cons_self, e⟩
        · exact .inl e
      · rcases h2 z e with e | ⟨s, hs, e⟩
        · exact .inl e
        · exact .inr ⟨s, List.mem_cons_of_mem _ hs, e⟩
theorem mt_jn (hK : F.K = X.K) : MtR X "str.join" (rBM F .join) := by
  intro pins s σ H x xs v us Q I rx rs q
  obtain ⟨p, h, d, ds, Z, hr, rd, rds, pd⟩ := q
  match d, ds, rd, rds, pd with
  | .str a, [.ref l], rd, rds, pd =>
    obtain ⟨y, rfl, ry⟩ := rds.one
    cases rd with
    | str ok =>
    obtain ⟨e, e0, pd⟩ := PD.look (f := fun h => match h[l]? with
      | some (.lst ds) => (match strsD ds with
        | some ss => if (ss.map (·.length)).sum + ss.length * a.length ≤ lim then some (D.str (joinS a ss)) else none
        | none => none)
      | _ => none) pd
    cases e1 : h[l]? with
    | none => rw [e1] at e0; cases e0
    | some ob =>
      obtain ⟨ad, e3, e4, or_⟩ := DR.ref_at hr ry e1
      subst e3
      rw [e1] at e0
      cases ob with
      | lst ds =>
        dsimp only at e0
        cases e5 : strsD ds with
        | none => rw [e5] at e0; cases e0
        | some ss =>
          rw [e5] at e0
          dsimp only at e0
          by_cases k : (ss.map (·.length)).sum + ss.length * a.length ≤ lim
          · rw [if_pos k] at e0
            cases e0
            obtain ⟨vs, q1, q2⟩ := or_
            obtain ⟨h1, h2⟩ := q2.toStrs e5
            have hm : vs = (ss.map toS).map V.str := by rw [h1, List.map_map]; rfl
            have hs : ((ss.map toS).map (·.length)) = ss.map (·.length) := by
              rw [List.map_map]
              exact List.map_congr_left fun z _ => toS_length z
            refine mt_join pins s σ H _ _ v us Q I rx rs ⟨_, _, ss.map toS, rfl, rfl, .inl (SqL.of (by rw [← hm]; exact q1)), ?_, ?_⟩
            · rw [hs, List.length_map, toS_length]
              have := lim_val
              omega
            · have : Txt.join (toS a) (ss.map toS) = toS (joinS a ss) := by
                show glued _ _ = _
                rw [StrLaws.glued_eq_join, joinS_eq]
              rw [this]
              obtain ⟨j1, j2⟩ := joinS_len a ss
              refine PD.now pd hr (.str ⟨by omega, fun z hz => ?_⟩)
              rcases j2 z hz with e | ⟨t, ht, e⟩
              · exact ok.2 z e
              · exact (h2 t ht).2 z e
          · rw [if_neg k] at e0; cases e0
      | _ => cases e0
end
end Mi

set_option Elab.async false
set_option linter.all false
set_option autoImplicit false
set_option maxRecDepth 100000
set_option maxHeartbeats 2000000
/-! Sh: what compiles keeps its result: built-ins, methods of built-in types, dicts, isinstance. -/
namespace Mi
open PySem L2 PyProof.Rows

theorem px_guard {F : Fx} {p : Rho} {H : Hp} {h : Sto} {c d : Type} {R' : Rho → Hp → c → d → Prop} {f : Sto → Bool} {g : Unit → M c} {Q : d → Hp → Prop} {Z : Nat → Hp → Prop} (x : PX F R' p H (bnd (guardS f) g h) Q Z) : f h = true ∧ PX F R' p H (g () h) Q Z := by
  unfold bnd guardS at x
  cases e : f h with
  | false => simp only [e] at x; exact x.elim
  | true => simp only [e] at x; exact ⟨rfl, x⟩
/-! ### methods by values -/
section
variable {X : Cx} {F : Fx} {p : Rho} {h : Sto} {H : Hp}
theorem mt_append' (hK : F.K = X.K) : MtR X "list.append" (rBM F .append) := by
  intro pins s σ H x xs v us Q I rx rxs q
  obtain ⟨p, h, o, ds, Z, hr, ro, rs, pd⟩ := q
  match o, ds, ro, rs, pd with
  | .ref l, [d], ro, rs, pd =>
    obtain ⟨y, rfl, ry⟩ := rs.one
    unfold bmD at pd
    dsimp only at pd
    cases e1 : h[l]? with
    | none => rw [e1] at pd; exact (show False from pd).elim
    | some ob =>
      rw [e1] at pd
      obtain ⟨a, e3, e4, or_⟩ := DR.ref_at hr ro e1
      subst e3
      cases ob with
      | lst ys =>
        obtain ⟨vs, q1, q2⟩ := or_
        by_cases c : ys.length < lim
        · have pd : PD F p H (setO l (.lst (ys ++ [d])) h) Q Z := by
            dsimp only at pd
            rw [if_pos c] at pd
            exact pd
          refine mt_append pins s σ H _ _ v us Q I rx rxs ⟨a, vs, y, rfl, rfl, q1, by rw [← q2.length, lim_eq]; exact c, ?_⟩
          have st : Step p H p (upd H a (.lst (vs ++ [y]))) := step_write hr e1 e4 trivial trivial
          exact pd p _ _ st (hr.write e1 e4 trivial trivial trivial ⟨_, upd_same, (q2.append (.cons ry .nil)).mono st⟩) .non
        · dsimp only at pd
          rw [if_neg c] at pd
          exact (show False from pd).elim
      | _ => exact (show False from pd).elim
theorem mt_get' (hK : F.K = X.K) (hu : X.A.units + 1 < cLine) : MtR X "dict.get" (rBM F .get) := by
  intro pins s σ H x xs v us Q I rx rxs q
  obtain ⟨p, h, o, ds, Z, hr, ro, rs, pd⟩ := q
  match o, ds, ro, rs, pd with
  | .ref l, [k, d], ro, rs, pd =>
    obtain ⟨y, z, rfl, ry, rz⟩ := rs.two
    unfold bmD at pd
    dsimp only at pd
    obtain ⟨e, h1, pd⟩ := PD.look pd
    cases e1 : h[l]? with
    | none => rw [e1] at h1; cases h1
    | some ob =>
      rw [e1] at h1
      obtain ⟨a, e3, e4, or_⟩ := DR.ref_at hr ro e1
      subst e3
      cases rx
      cases ob with
      | dct kvs =>
        cases e2 : keyOf k with
        | none => rw [e2] at h1; cases h1
        | some q =>
          rw [e2] at h1
          obtain ⟨ws, q1, q2⟩ := or_
          obtain ⟨u1, u2, rfl, r1, r2⟩ := rxs.two
          rw [kq_kV ry e2] at r1
          have g : DGet H a (kV (kq q)) (valV ws (kq q)) := DGet.k q1
          have h1 : some (match kget kvs q with | some x => x | none => d) = some e := h1
          refine d_get2 hu I g r1 r2 fun w' s' I' rw' => ⟨_, H, I', rw', ?_⟩
          rcases q2.get q with ⟨z1, z2⟩ | ⟨d', w, z1, z2, z3⟩
          · rw [z1] at h1
            cases h1
            rw [z2]
            exact PD.now pd hr rz
          · rw [z1] at h1
            cases h1
            rw [z2]
            exact PD.now pd hr z3
      | _ => cases h1
theorem filter_countP {ys : List V} {us : List Value} {x : V} (r : Vals ys us) (f : ys.all flatV = true) : us.countP (eqU x) = (ys.filter fun z => eqV z x).length := by
  induction r with
  | nil => rfl
  | @cons y w ys us ry rt ih =>
    rw [List.all_cons, Bool.and_eq_true_iff] at f
    rw [List.countP_cons, List.filter_cons, ih f.2, eqU_of ry f.1]
    by_cases e : eqV y x = true
    · rw [if_pos e, if_pos e, List.length_cons]
    · rw [if_neg e, if_neg e, Nat.add_zero]
theorem eqv_filter {a : D} {x : V} (ra : F.DR p H a x) (fa : flat a = true) : ∀ {ds : List D} {vs : List V}, F.DRs p H ds vs → ds.all flat = true → (vs.filter fun z => eqV z x).length = (ds.filter fun z => eqv z a).length
  | _, _, .nil, _ => rfl
  | _, _, .cons r1 r2, f => by
    rw [List.all_cons, Bool.and_eq_true_iff] at f
    rw [List.filter_cons, List.filter_cons, eqv_V r1 ra f.1 fa]
    have ih := eqv_filter ra fa r2 f.2
    split
    · rw [List.length_cons, List.length_cons, ih]
    · exact ih
theorem mt_count' (hK : F.K = X.K) : MtR X "list.count" (rBM F .count) := by
  intro pins s σ H x xs v us Q I rx rxs q
  obtain ⟨p, h, o, ds, Z, hr, ro, rs, pd⟩ := q
  match o, ds, ro, rs, pd with
  | .ref l, [d], ro, rs, pd =>
    obtain ⟨y, rfl, ry⟩ := rs.one
    unfold bmD at pd
    dsimp only at pd
    obtain ⟨e, h1, pd⟩ := PD.look pd
    cases e1 : h[l]? with
    | none => rw [e1] at h1; cases h1
    | some ob =>
      rw [e1] at h1
      obtain ⟨a, e3, e4, or_⟩ := DR.ref_at hr ro e1
      subst e3
      cases rx
      cases ob with
      | lst ys =>
        obtain ⟨vs, q1, q2⟩ := or_
        by_cases c : (flat d && ys.all flat) = true
        · have h1 : (if (flat d && ys.all flat) = true then some (D.int ((ys.filter fun z => eqv z d).length : Nat)) else none) = some e := h1
          rw [if_pos c] at h1
          cases h1
          obtain ⟨c1, c2⟩ := Bool.and_eq_true_iff.mp c
          obtain ⟨u, rfl, ru⟩ := rxs.one
          obtain ⟨its, rv, ⟨⟨cls, dd, data, sl⟩, n, ho, hc, hdn, hd⟩, hlen⟩ := I.list (SqL.of (K := X.K) q1)
          simp only at hc hd
          subst hc hd
          have fy := flat_V ry c1
          have fys := flats_V q2 c2
          refine call_meets PySem.F.slot_list_count ⟨_, ho, rfl⟩ PySem.F.entry_list_count (PySem.F.args_list_count_2 _ _)
            (SeqAt.list_countAt a its.toArray n dd sl u (eqU y)) ⟨ho, fun u' hu' => mem_eqAt ru fy rv fys u' (by simpa using hu'), ?_⟩
          have ec : its.toArray.toList.countP (eqU y) = (ys.filter fun z => eqv z d).length := by
            rw [← eqv_filter ry c1 q2 c2, ← filter_countP rv fys]
          refine ⟨.int ((ys.filter fun z => eqv z d).length : Nat), H, I.tok _, ⟨s.toks, ?_⟩, PD.now pd hr (.int _)⟩
          show Value.int ((its.toArray.toList.countP (eqU y) : Nat) : Int) s.toks = _
          rw [ec]
        · have h1 : (if (flat d && ys.all flat) = true then some (D.int ((ys.filter fun z => eqv z d).length : Nat)) else none) = some e := h1
          rw [if_neg c] at h1
          cases h1
      | _ => cases h1
theorem firstEq_spec {a : D} {x : V} (ra : F.DR p H a x) (fa : flat a = true) : ∀ {ds : List D} {vs : List V} {n j : Nat}, F.DRs p H ds vs → ds.all flat = true → firstEq a ds n = some j →
    ∃ i, j = n + i ∧ ∃ z, vs[i]? = some z ∧ eqV z x = true ∧ ∀ (m : Nat) (z' : V), m < i → vs[m]? = some z' → eqV z' x = false
  | _, _, _, _, .nil, _, e => by cases e
  | _, _, n, j, .cons (d := d) (v := v) r1 r2, f, e => by
    rw [List.all_cons, Bool.and_eq_true_iff] at f
    unfold firstEq at e
    by_cases c : eqv d a = true
    · rw [if_pos c] at e
      cases e
      exact ⟨0, rfl, v, rfl, by rw [eqv_V r1 ra f.1 fa]; exact c, fun m _ hm => absurd hm (Nat.not_lt_zero _)⟩
    · rw [if_neg c] at e
      obtain ⟨i, h1, z, h2, h3, h4⟩ := firstEq_spec ra fa r2 f.2 e
      refine ⟨i + 1, by omega, z, by simpa using h2, h3, fun m z' hm hz => ?_⟩
      cases m with
      | zero =>
        simp at hz
        subst hz
        rw [eqv_V r1 ra f.1 fa]
        simpa using c
      | succ m => exact h4 m z' (by omega) (by simpa using hz)
theorem mt_index' (hK : F.K = X.K) : MtR X "list.index" (rBM F .index) := by
  intro pins s σ H x xs v us Q I rx rxs q
  obtain ⟨p, h, o, ds, Z, hr, ro, rs, pd⟩ := q
  match o, ds, ro, rs, pd with
  | .ref l, [d], ro, rs, pd =>
    obtain ⟨y, rfl, ry⟩ := rs.one
    unfold bmD at pd
    dsimp only at pd
    obtain ⟨e, h1, pd⟩ := PD.look pd
    cases e1 : h[l]? with
    | none => rw [e1] at h1; cases h1
    | some ob =>
      rw [e1] at h1
      obtain ⟨a, e3, e4, or_⟩ := DR.ref_at hr ro e1
      subst e3
      cases ob with
      | lst ys =>
        obtain ⟨vs, q1, q2⟩ := or_
        have h1 : (if (flat d && ys.all flat) = true then (firstEq d ys 0).map (fun n => D.int (n : Nat)) else none) = some e := h1
        by_cases c : (flat d && ys.all flat) = true
        · rw [if_pos c] at h1
          obtain ⟨c1, c2⟩ := Bool.and_eq_true_iff.mp c
          cases e5 : firstEq d ys 0 with
          | none => rw [e5] at h1; cases h1
          | some j =>
            rw [e5] at h1
            cases h1
            obtain ⟨i, h2, z, h3, h4, h5⟩ := firstEq_spec ry c1 q2 c2 e5
            have h2 : j = i := by omega
            subst h2
            exact mt_index pins s σ H _ _ v us Q I rx rxs ⟨a, vs, y, j, z, rfl, rfl, SqL.of q1, flat_V ry c1, flats_V q2 c2, h3, h4, h5, PD.now pd hr (.int _)⟩
        · rw [if_neg c] at h1; cases h1
      | _ => cases h1
end

def bmName : BM → Str
  | .append => "append"
  | .get => "get"
  | .count => "count"
  | .index => "index"
  | .pop => "pop"
  | .extend => "extend"
  | .insert => "insert"
  | .startswith => "startswith"
  | .endswith => "endswith"
  | .zfill => "zfill"
  | .split => "split"
  | .join => "join"
/-- a method that is one of the object's: its type and the built-in -/
theorem bm_of {X : Cx} {F : Fx} {p : Rho} {h : Sto} {H : Hp} (hK : F.K = X.K) (hu : X.A.units + 64 < cLine) {m : BM} {o : D} {x : V} (hr : F.HR p h H) (ro : F.DR p H o x) (e : bmOk h m o = true) :
    ∃ T id, PlainAttrs T ∧ Slot T (bmName m) id ∧ typeOf (.builtin id) = pure (.type "method_descriptor") ∧ tyV X.K T x H ∧ MtR X id (rBM F m) := by
  unfold bmOk at e
  cases o with
  | str z =>
    cases ro with
    | str ok =>
      cases m with
      | startswith => exact ⟨_, _, PySem.F.plainAttrs_str, PySem.F.slot_str_startswith, PySem.F.type_str_startswith, rfl, mt_sw⟩
      | endswith => exact ⟨_, _, PySem.F.plainAttrs_str, PySem.F.slot_str_endswith, PySem.F.type_str_endswith, rfl, mt_ew⟩
      | zfill => exact ⟨_, _, PySem.F.plainAttrs_str, PySem.F.slot_str_zfill, PySem.F.type_str_zfill, rfl, mt_zf⟩
      | split => exact ⟨_, _, PySem.F.plainAttrs_str, PySem.F.slot_str_split, PySem.F.type_str_split, rfl, mt_sp⟩
      | join => exact ⟨_, _, PySem.F.plainAttrs_str, PySem.F.slot_str_join, PySem.F.type_str_join, rfl, mt_jn hK⟩
      | _ => cases e
  | ref l =>
    dsimp only at e
    cases e1 : h[l]? with
    | none => rw [e1] at e; cases e
    | some ob =>
      rw [e1] at e
      obtain ⟨a, e3, e4, or_⟩ := DR.ref_at hr ro e1
      subst e3
      cases ob with
      | lst ys =>
        obtain ⟨vs, q1, q2⟩ := or_
        have ty : tyV X.K "list" (.ref a) H := .inl ⟨rfl, vs, SqL.of q1⟩
        cases m with
        | append => exact ⟨_, _, PySem.F.plainAttrs_list, PySem.F.slot_list_append, PySem.F.type_list_append, ty, mt_append' hK⟩
        | count => exact ⟨_, _, PySem.F.plainAttrs_list, PySem.F.slot_list_count, PySem.F.type_list_count, ty, mt_count' hK⟩
        | index => exact ⟨_, _, PySem.F.plainAttrs_list, PySem.F.slot_list_index, PySem.F.type_list_index, ty, mt_index' hK⟩
        | _ => cases e
      | dct kvs =>
        obtain ⟨ws, q1, q2⟩ := or_
        have ty : tyV X.K "dict" (.ref a) H := .inr (.inr (.inl ⟨rfl, .inl ⟨ws, q1⟩⟩))
        cases m with
        | get => exact ⟨_, _, PySem.F.plainAttrs_dict, PySem.F.slot_dict_get, PySem.F.type_dict_get, ty, mt_get' hK (by omega)⟩
        | _ => cases e
      | _ => cases e
  | _ => cases e
section
variable {F : Fx} {pg : Pg} {n : Nat} {o : M D} {c : Cn} {X : Cx}
theorem bmOf_name {m : Str} {b : BM} (h : bmOf.lookup m = some b) : m = bmName b := by
  unfold bmOf at h
  simp only [List.lookup] at h
  repeat' split at h
  all_goals first
    | (rename_i e; cases h; exact eq_of_beq e)
    | cases h
theorem ok_bmt (gd : GoodX F pg n o c X) {f : Expr → Option E} (ih : ∀ e x, f e = some x → OkE F pg n o X e x) {e : Expr} {es : List Expr} {x : E} {xs : Es} {m : Str} {b : BM} {ap cp : Pos}
    (hl : (ap.endLine == cp.line) = true) (hs : noSup e = true) (hm : bmOf.lookup m = some b) (hlen : decide (es.length < 20) = true) (h1 : f e = some x) (h2 : cAs f es = some xs) (hne : es ≠ []) :
    OkE F pg n o X (.Call (.Attribute e m ap) es [] cp) (.bmt b x xs) := by
  intro W tk
  have hm := bmOf_name hm
  subst hm
  cases es with
  | nil => exact absurd rfl hne
  | cons e0 es =>
  refine ⟨fun pins s σ H Q I q => ?_⟩
  obtain ⟨p, fr0, h, fr, hr, pd⟩ := q
  have hstar : noStar e0 = true := by
    unfold cAs at h2
    by_cases k : noStar e0 = true
    · exact k
    · rw [if_neg k] at h2; cases h2
  have few : ((backTo cp (starEach (e0 :: es) X.env)).all (fun x => !x.1) && (backToKw cp (keywordEach [] X.env)).all (fun x => x.1.isSome) && decide ((e0 :: es).length + ([] : List Keyword).length + (if ([] : List Keyword).isEmpty then 0 else 1) < 30)) = true := by
    rw [few_of h2]
    have h3 := of_decide_eq_true hlen
    have h4 : decide ((e0 :: es).length + ([] : List Keyword).length + (if ([] : List Keyword).isEmpty then 0 else 1) < 30) = true := decide_eq_true (by simp at h3 ⊢; omega)
    rw [h4]
    rfl
  refine wpAny_Call_method_late (base_of hs) few hl rfl (thn ((ih e x h1 W tk).run pins s σ H (fun v H1 => ∃ p1 h1 d, FR F p1 H1 fr0 σ ∧ F.HR p1 h1 H1 ∧ F.DR p1 H1 d v ∧ PD F p1 H1 (bnd (guardS fun h => bmOk h b d) (fun _ => bnd (evA (gE pg n o) xs fr0) fun ds => bmD b d ds) h1) Q (zE F W σ)) I
    ⟨p, fr0, h, fr, hr, px_bnd pd fun p1 h1 d v H1 st1 hr1 r1 pd1 => ⟨p1, h1, d, fr.mono st1, hr1, r1, pd1⟩⟩) fun v s1 hh => ?_)
  obtain ⟨x1, H1, I1, rx1, p1, h1', d, fr1, hr1, r1, pd1⟩ := hh
  obtain ⟨e1, pd1⟩ := px_guard (f := fun h => bmOk h b d) pd1
  · replace e1 : bmOk h1' b d = true := e1
    obtain ⟨T, id, pa, sl, hty, ty, mt⟩ := bm_of gd.hK (unit_of gd) hr1 r1 e1
    obtain ⟨g1, g2⟩ := tyV_is I1 rx1 ty
    refine ⟨T, id, pa, sl, hty, g1, g2, ?_⟩
    have hA := (oka_of ih h2 W tk).run cp pins s1 σ H1 (fun vs H2 => rBM F b x1 vs H2 Q) I1 ⟨p1, fr0, h1', fr1, hr1, px_bnd pd1 fun p2 h2 ds vs H2 st2 hr2 r2 pd2 => ⟨p2, h2, d, ds, _, hr2, r1.mono st2, r2, pd2⟩⟩
    have hst := star_of (es := es) (env := X.env) hstar
    rw [hst] at hA ⊢
    refine Calls.callWith_builtin (by
      have := stars_of (p := cp) (env := X.env) h2
      rw [hst] at this
      exact this) (Calls.evalArgs_plain ?_)
    exact thn hA fun us s2 ⟨vs, H2, I2, r2, q2⟩ => mt pins s2 σ H2 x1 vs v us Q I2 rx1 r2 q2
end
end Mi

set_option Elab.async false
set_option linter.all false
set_option autoImplicit false
set_option maxRecDepth 100000
set_option maxHeartbeats 2000000
/-! Si: what compiles keeps its result: dict displays, built-in functions, isinstance. -/
namespace Mi
open PySem L2 PyProof.Rows
section
variable {F : Fx} {pg : Pg} {n : Nat} {o : M D} {c : Cn} {X : Cx}
theorem px_bnd0 {a b c d : Type} {R : Rho → Hp → a → b → Prop} {R' : Rho → Hp → c → d → Prop} {m : M a} {g : a → M c} {Q : d → Hp → Prop} {T : b → Hp → Prop} {Z : Nat → Hp → Prop} {p p0 : Rho} {H H0 : Hp} {h : Sto} (x : PX F R' p H (bnd m g h) Q Z) (s0 : Step p H p0 H0)
    (k : ∀ p1 h1 e v H1, Step p0 H0 p1 H1 → F.HR p1 h1 H1 → R p1 H1 e v → PX F R' p H (g e h1) Q Z → T v H1) : PX F R p0 H0 (m h) T Z := by
  unfold bnd at x
  cases e : m h with
  | ok d h1 =>
    rw [e] at x
    exact fun p1 H1 v t y1 y2 => k p1 h1 d v H1 t y1 y2 x
  | exn c h1 => rw [e] at x; exact fun p1 H1 t y1 => x p1 H1 (s0.trans t) y1
  | bad => rw [e] at x; exact x.elim
theorem mergeK_dct {p : Rho} {H : Hp} : ∀ {ks : List Ky} {ds : List D} {vs : List V} {acc : List (Ky × D)} {ws : List (L2.Key × V)}, F.DRs p H ds vs → KRs F.K F.cA p H acc ws →
    KRs F.K F.cA p H (dctOf ks ds acc) (mergeK ws ((ks.map kq).zip vs))
  | [], ds, vs, acc, ws, _, r => by
    unfold dctOf
    exact r
  | k :: ks, [], _, acc, ws, .nil, r => by
    unfold dctOf
    exact r
  | k :: ks, d :: ds, _, acc, ws, .cons a b, r => by
    unfold dctOf
    exact mergeK_dct b (r.put k a)
theorem trs_of {f : Expr → Option E} (ih : ∀ e x, f e = some x → OkE F pg n o X e x) {W : WX} (tk : Takes X W) (pos : Pos) : ∀ {ks : List (Option Expr)} {es : List Expr} {q : List Ky} {xs : Es}, strKeys ks = some q → cAs f es = some xs → ks.length = es.length →
    ∃ trs, PPs X pos ks es trs ∧ ∀ (σ : L2.St) (H : Hp) (p : Rho) (fr : Fr) (h : Sto) (Q : List (V × V) → Hp → Prop), FR F p H fr σ → F.HR p h H →
      PX F F.DRs p H (evA (gE pg n o) xs fr h) (fun vs H1 => Q (((q.map kq).zip vs).map fun kv => (kV kv.1, kv.2)) H1) (zE F W σ) → tPairs trs σ H Q
  | [], [], q, xs, h1, h2, _ => by
    cases h1
    cases h2
    exact ⟨[], pps_nil, fun σ H p fr h Q f1 h1 pd => px_ret (R := F.DRs) (v := []) pd h1 .nil⟩
  | [], _ :: _, _, _, _, _, hl => by simp at hl
  | _ :: _, [], _, _, _, _, hl => by simp at hl
  | k :: ks, e :: es, q, xs, h1, h2, hl => by
    cases k with
    | none => cases h1
    | some k =>
      match k, h1 with
      | .Constant (.str x) j kp, h1 =>
        have h1 : (if okC x.cps.toList = true then (strKeys ks).map (Ky.s x.cps.toList :: ·) else none) = some q := h1
        by_cases c1 : okC x.cps.toList = true
        · rw [if_pos c1] at h1
          cases e1 : strKeys ks with
          | none => rw [e1] at h1; cases h1
          | some q' =>
            rw [e1] at h1
            cases h1
            unfold cAs at h2
            by_cases c2 : noStar e = true
            · rw [if_pos c2] at h2
              cases e2 : f e with
              | none => rw [e2] at h2; cases h2
              | some y =>
                cases e3 : cAs f es with
                | none => rw [e2, e3] at h2; cases h2
                | some ys =>
                  rw [e2, e3] at h2
                  cases h2
                  obtain ⟨trs, p1, p2⟩ := trs_of ih tk pos e1 e3 (by simpa using hl)
                  refine ⟨_, pps_cons (pe_str (x := x) (j := j) (pos := kp)) (ih e y e2 W tk) p1, fun σ H p fr h Q f1 h1 pd => ?_⟩
                  show tE F W (evE (gE pg n o) y) σ H fun z H2 => tPairs trs σ H2 fun ps H3 => Q ((V.str x, z) :: ps) H3
                  refine ⟨p, fr, h, f1, h1, px_bnd pd fun p3 h3 d v H3 st3 hr3 r3 pd3 => ?_⟩
                  refine p2 σ H3 p3 fr h3 _ (f1.mono st3) hr3 (px_bnd pd3 fun p4 h4 ds vs H4 st4 hr4 r4 pd4 => ?_)
                  have := px_ret pd4 hr4 (DRs.cons (r3.mono st4) r4)
                  rw [List.map_cons, List.zip_cons_cons, List.map_cons] at this
                  have ek : kV (kq (Ky.s x.cps.toList)) = V.str x := by
                    show V.str (toS x.cps.toList) = _
                    rw [toS_of]
                  rw [ek] at this
                  exact this
            · rw [if_neg c2] at h2; cases h2
        · rw [if_neg c1] at h1; cases h1
theorem keys_some : ∀ {ks : List (Option Expr)} {q : List Ky}, strKeys ks = some q → ks.all (·.isSome) = true ∧ q.length = ks.length
  | [], q, h => by cases h; exact ⟨rfl, rfl⟩
  | k :: ks, q, h => by
    cases k with
    | none => cases h
    | some k =>
      match k, h with
      | .Constant (.str x) j kp, h =>
        have h1 : (if okC x.cps.toList = true then (strKeys ks).map (Ky.s x.cps.toList :: ·) else none) = some q := h
        by_cases c1 : okC x.cps.toList = true
        · rw [if_pos c1] at h1
          cases e1 : strKeys ks with
          | none => rw [e1] at h1; cases h1
          | some q' =>
            rw [e1] at h1
            cases h1
            obtain ⟨a, b⟩ := keys_some e1
            exact ⟨by rw [List.all_cons, a]; rfl, by simp [b]⟩
        · rw [if_neg c1] at h1; cases h1
theorem ok_dct {f : Expr → Option E} (ih : ∀ e x, f e = some x → OkE F pg n o X e x) {ks : List (Option Expr)} {es : List Expr} {q : List Ky} {xs : Es} {pos : Pos} (h1 : strKeys ks = some q) (h2 : cAs f es = some xs) (hl : ks.length = es.length) (h15 : es.length ≤ 15) :
    OkE F pg n o X (.Dict ks es pos) (.dct q xs) := by
  intro W tk
  cases ks with
  | nil =>
    cases es with
    | cons _ _ => simp at hl
    | nil =>
      cases h1
      cases h2
      refine pe_weak pe_dnewK fun s H Q ⟨p, f, h, fr, hr, pd⟩ => fun q hq => ?_
      have pd : PD F p H (alloc (.dct []) h) Q (zE F W s) := pd
      exact PD.dct pd hr hq .nil
  | cons k ks =>
    obtain ⟨trs, p1, p2⟩ := trs_of ih tk pos h1 h2 hl
    obtain ⟨g1, g2⟩ := keys_some h1
    refine pe_weak (pe_disp p1 g1 hl (List.cons_ne_nil _ _) (by rw [hl]; exact h15)) fun s H Q ⟨p, f, h, fr, hr, pd⟩ => fun a ha => ?_
    have st0 : Step p H p (upd H a (.dK [])) := step_new ha
    refine p2 s _ p f h _ (fr.mono st0) (hr.fresh ha) (px_bnd0 pd st0 fun p3 h3 ds vs H3 st3 hr3 r3 pd3 => ?_)
    have na := hr.notin ha
    have na3 : a ∉ p3 := fun hm => by
      obtain ⟨m, e, f⟩ := st3.ext
      rw [e] at hm
      rcases List.mem_append.mp hm with z | z
      · exact na z
      · exact f a z _ upd_same trivial
    have ha3 : H3 a = some (.dK []) := st3.keep a _ upd_same (.inr na) trivial
    have pd3 : PX F F.DR p H ((if ds.length ≤ 15 ∧ q.length = ds.length then alloc (.dct (dctOf q ds [])) else bad : M D) h3) Q (zE F W s) := pd3
    by_cases k1 : ds.length ≤ 15 ∧ q.length = ds.length
    · rw [if_pos k1] at pd3
      have lv := r3.length
      refine ⟨ha3, (q.map kq).zip vs, rfl, by rw [List.length_zip, List.length_map]; omega, ?_⟩
      have hm : ∀ u, H3 a = some u → ¬ immut u ∧ noTbl u ∧ ∀ c n, u ≠ LamX.CodeO c n := fun u e => by
        rw [ha3] at e
        cases e
        exact ⟨id, trivial, fun _ _ z => by unfold LamX.CodeO at z; cases z⟩
      have hr4 := hr3.claim (o := .dK (mergeK [] ((q.map kq).zip vs))) (ob := .dct (dctOf q ds [])) na3 hm trivial ⟨_, upd_same, mergeK_dct (r3.monoE (Ste.upd fun u e => (hm u e).1)) .nil⟩
      refine pd3 (p3 ++ [a]) _ _ ((st0.trans st3).claim ha) hr4 (.ref ?_)
      rw [← hr3.len]
      simp
    · rw [if_neg k1] at pd3; exact pd3.elim

/-! ### built-in functions by name -/
theorem blt_boot {x : Str} {b : BF} (h : bfOf.lookup x = some b) : x ∈ bNames ∧ x ≠ "__name__" ∧ (x == ("__debug__" : Str)) = false ∧
    ((bootBuiltins x = some (.builtin "len") ∧ b = .len) ∨ (bootBuiltins x = some (.builtin "abs") ∧ b = .abs) ∨ (bootBuiltins x = some (.builtin "max") ∧ b = .max) ∨ (bootBuiltins x = some (.builtin "min") ∧ b = .min) ∨
     (bootBuiltins x = some (.type "int") ∧ b = .int) ∨ (bootBuiltins x = some (.type "str") ∧ b = .str) ∨ (bootBuiltins x = some (.builtin "sum") ∧ b = .sum) ∨ (bootBuiltins x = some (.builtin "all") ∧ b = .all) ∨ (bootBuiltins x = some (.builtin "any") ∧ b = .any)) := by
  unfold bfOf at h
  simp only [List.lookup] at h
  repeat' split at h
  all_goals first
    | (rename_i e; cases h; cases eq_of_beq e; exact ⟨by decide +kernel, by decide +kernel, by decide +kernel, by simp [PyProof.Rows.boot_abs, boot_len, boot_max, boot_min, PyProof.Rows.boot_int, PyProof.Rows.boot_str, boot_sum, boot_all, boot_any]⟩)
    | cases h
theorem ok_blt (gd : GoodX F pg n o c X) {f : Expr → Option E} (ih : ∀ e x, f e = some x → OkE F pg n o X e x) {x : Str} {es : List Expr} {xs : Es} {b : BF} {p pos : Pos} (hg : c.glo x = true) (hb : bfOf.lookup x = some b) (h2 : cAs f es = some xs) (hne : es ≠ []) :
    OkE F pg n o X (.Call (.Name x p) es [] pos) (.blt b xs) := by
  intro W tk
  obtain ⟨g1, g2⟩ := glo_of gd hg
  obtain ⟨b1, b2, b3, b4⟩ := blt_boot hb
  have hm := gd.st.bt x b1
  cases es with
  | nil => exact absurd rfl hne
  | cons e0 es =>
  have hstar : noStar e0 = true := by
    unfold cAs at h2
    by_cases k : noStar e0 = true
    · exact k
    · rw [if_neg k] at h2; cases h2
  have hst := star_of (es := es) (env := X.env) hstar
  have hpl : (backTo pos (starEach es X.env)).any (·.1) = false := by
    have := stars_of (p := pos) (env := X.env) h2
    rw [hst] at this
    rw [back_cons] at this
    exact (Bool.or_eq_false_iff.mp this).2
  have ha := oka_of ih h2 W tk
  have wk : ∀ {r : List V → Hp → VK → Prop}, (∀ vs H Q, rBF F b vs H Q → r vs H Q) → ∀ s H Q, tE F W (evE (gE pg n o) (.blt b xs)) s H Q → tCB r (tA F W (evA (gE pg n o) xs)) s H Q := fun {r} hr0 s H Q ⟨p, f, h, fr, hr, pd⟩ =>
    ⟨p, f, h, fr, hr, px_bnd pd fun p1 h1 ds vs H1 st1 hr1 r1 pd1 => hr0 _ _ _ ⟨p1, h1, ds, _, hr1, r1, pd1⟩⟩
  rcases b4 with ⟨q, rfl⟩ | ⟨q, rfl⟩ | ⟨q, rfl⟩ | ⟨q, rfl⟩ | ⟨q, rfl⟩ | ⟨q, rfl⟩ | ⟨q, rfl⟩ | ⟨q, rfl⟩ | ⟨q, rfl⟩
  · exact pe_weak (pe_callB (cr_len gd.hK) g1 hm q ha b2 b3 hst hpl) (wk fun _ _ _ z => z)
  · exact pe_weak (pe_callB cr_abs g1 hm q ha b2 b3 hst hpl) (wk fun _ _ _ z => z)
  · exact pe_weak (pe_callB (cr_max gd.calm) g1 hm q ha b2 b3 hst hpl) (wk fun _ _ _ z => z)
  · exact pe_weak (pe_callB (cr_min gd.calm) g1 hm q ha b2 b3 hst hpl) (wk fun _ _ _ z => z)
  · exact pe_weak (pe_callTy cr_int g1 hm q ha b2 b3 hst hpl) (wk fun _ _ _ z => z)
  · exact pe_weak (pe_callTy cr_str g1 hm q ha b2 b3 hst hpl) (wk fun _ _ _ z => z)
  · exact pe_weak (pe_callB (Mi.cr_sum gd.hK gd.calm) g1 hm q ha b2 b3 hst hpl) (wk fun _ _ _ z => z)
  · exact pe_weak (pe_callB (Mi.cr_all gd.hK gd.calm) g1 hm q ha b2 b3 hst hpl) (wk fun _ _ _ z => z)
  · exact pe_weak (pe_callB (Mi.cr_any gd.hK gd.calm) g1 hm q ha b2 b3 hst hpl) (wk fun _ _ _ z => z)

/-! ### isinstance -/
/-- a class as a value -/
def tyV_ (F : Fx) : Ty → V
  | .int => .ty "int"
  | .str => .ty "str"
  | .bool => .ty "bool"
  | .tuple => .ty "tuple"
  | .valueError => .ty "ValueError"
  | .exc i => .ref (F.cA i)
theorem isi_flat {K : PySem.W.Frag} {p : Rho} {H : Hp} {d : D} {v : V} (hK : F.K = K) (r : F.DR p H d v) {t : Ty} {b : Bool} {sub : Nat → Nat → Option Bool} (e : isiD sub d t = some b) (ht : t = .int ∨ t = .str ∨ t = .bool ∨ t = .tuple) :
    ∃ ty cl, TyX K H v (.type ty) ∧ ClsV (tyV_ F t) (.type cl) ∧ kitB ty cl = some b := by
  subst hK
  have tup : ∀ {a : Addr} {vs : List V}, SqT F.K H a vs → TyX F.K H (.ref a) (.type "tuple") := fun h => by
    rcases h with (h | ⟨o, h⟩) | ⟨o, _, _, h, hc, _⟩
    · exact .base (.tup h)
    · exact .fTuple h
    · exact .kTuple h hc
  rcases ht with rfl | rfl | rfl | rfl <;> cases d <;> first
    | (cases e; done)
    | (cases e; cases r with
       | tup h _ => exact ⟨_, _, tup h, .ty _, by decide +kernel⟩)
    | (cases e; cases r; first
       | exact ⟨_, _, .base .non, .ty _, by decide +kernel⟩
       | exact ⟨_, _, .base (.bl _), .ty _, by decide +kernel⟩
       | exact ⟨_, _, .base (.int _), .ty _, by decide +kernel⟩
       | exact ⟨_, _, .base (.str _), .ty _, by decide +kernel⟩)
def rIsD (F : Fx) (sub : Nat → Nat → Option Bool) (t : Ty) : List V → Hp → VK → Prop := fun xs H Q => ∃ p h d v b, F.HR p h H ∧ xs = [v, tyV_ F t] ∧ F.DR p H d v ∧ isiD sub d t = some b ∧ Q (.bl b) H
theorem cr_isi (hK : F.K = X.K) {mg : Str → Option Value} {exc : List Str} {sub : Nat → Nat → Option Bool} (ex : ExcOk F.K mg F.cA sub exc) {t : Ty} : CallR X (.builtin "isinstance") (rIsD F sub t) := by
  intro pins s σ H xs us Q I r q
  obtain ⟨p, h, d, v, b, hr, rfl, rd, e, q⟩ := q
  have flatCase : (t = .int ∨ t = .str ∨ t = .bool ∨ t = .tuple) → wpAny (model X.prog X.w) X.A (call (.builtin "isinstance") us) (EP X pins σ Q) X.xe s := fun ht => by
    obtain ⟨ty, cl, h1, h2, h3⟩ := isi_flat (K := X.K) hK rd e ht
    exact call_isi pins s σ H _ us Q I r ⟨v, _, _, _, b, rfl, h2, h1, kit_ty h3, q⟩
  have excCase : ∀ {k : Nat} {cv : Value}, d = .exc k → (∀ u, RelV (tyV_ F t) u → u = cv) → (∃ x, exc[k]? = some x) → PySem.W.kitOne F.K (.ref (F.cA k)) cv = some b → wpAny (model X.prog X.w) X.A (call (.builtin "isinstance") us) (EP X pins σ Q) X.xe s := fun {k cv} hd hcv hk e2 => by
    subst hd
    cases rd with
    | exc ha =>
      rename_i a
      cases r with
      | cons rx rr =>
        cases rr with
        | cons rt rr =>
          cases rr
          cases rx
          have ec := hcv _ rt
          subst ec
          obtain ⟨⟨oe, vs, hget, hz, hv⟩, _, _⟩ := I.hok a _ ha
          have J : PySem.W.InstAt s.heap a oe (F.cA k) none := by
            obtain ⟨oc, od, oda, osl⟩ := oe
            obtain ⟨h1, h2⟩ := hz
            dsimp only at h1 h2 hv
            subst h1 h2 hv
            exact ⟨hget, rfl, rfl, trivial⟩
          obtain ⟨x, hk⟩ := hk
          have C := ex.isC k x hk
          rw [hK] at C e2
          exact PySem.W.kia_one (PySem.W.handS_kitx_exc C.hg C.hk C.hs C.hd C.ha C.hn C.ht C.hm) I.kIn J e2 (fun z => nomatch z) fun tk => ⟨.bl b, H, I.kept (t' := tk) fun _ _ z => z, rfl, q⟩
  cases t with
  | int => exact flatCase (.inl rfl)
  | str => exact flatCase (.inr (.inl rfl))
  | bool => exact flatCase (.inr (.inr (.inl rfl)))
  | tuple => exact flatCase (.inr (.inr (.inr rfl)))
  | exc i =>
    cases d with
    | exc k => exact excCase rfl (fun u hu => hu) (ex.dom k i b e).1 (ex.kit k i b e)
    | _ => cases e
  | valueError =>
    cases d with
    | exc k =>
      have e : (sub k k).map (fun _ => true) = some b := e
      cases e2 : sub k k with
      | none => rw [e2] at e; cases e
      | some z =>
        rw [e2] at e
        cases e
        obtain ⟨x, hx⟩ := (ex.dom k k z e2).1
        exact excCase rfl (fun u hu => hu) ⟨x, hx⟩ (ex.kitV k x hx)
    | _ => cases e
end
end Mi

set_option Elab.async false
set_option linter.all false
set_option autoImplicit false
set_option maxRecDepth 100000
set_option maxHeartbeats 2000000
/-! Sj: what compiles keeps its result: isinstance, calls of defs. -/
namespace Mi
open PySem L2 PyProof.Rows
section
variable {F : Fx} {pg : Pg} {n : Nat} {o : M D} {c : Cn} {X : Cx}
theorem pe_cls (gd : GoodX F pg n o c X) {t : Str} {ty : Ty} {p : Pos} (hg : c.glo t = true) (h : tyOf c t = some ty) : PE X (.Name t p) (tC (tyV_ F ty)) := by
  obtain ⟨g1, g2⟩ := glo_of gd hg
  unfold tyOf at h
  by_cases h1 : t = "int"
  · rw [if_pos h1] at h; cases h; subst h1
    exact pe_bltn g1 (gd.st.bt _ (by decide +kernel)) PyProof.Rows.boot_int rfl (by decide +kernel) g2
  rw [if_neg h1] at h
  by_cases h1 : t = "str"
  · rw [if_pos h1] at h; cases h; subst h1
    exact pe_bltn g1 (gd.st.bt _ (by decide +kernel)) PyProof.Rows.boot_str rfl (by decide +kernel) g2
  rw [if_neg h1] at h
  by_cases h1 : t = "bool"
  · rw [if_pos h1] at h; cases h; subst h1
    exact pe_bltn (u := .type "bool") g1 (gd.st.bt _ (by decide +kernel)) (by decide +kernel) rfl (by decide +kernel) g2
  rw [if_neg h1] at h
  by_cases h1 : t = "tuple"
  · rw [if_pos h1] at h; cases h; subst h1
    exact pe_bltn g1 (gd.st.bt _ (by decide +kernel)) PyProof.Rows.boot_tuple rfl (by decide +kernel) g2
  rw [if_neg h1] at h
  by_cases h1 : t = "ValueError"
  · rw [if_pos h1] at h; cases h; subst h1
    exact pe_bltn (u := .type "ValueError") g1 (gd.st.bt _ (by decide +kernel)) (by decide +kernel) rfl (by decide +kernel) g2
  rw [if_neg h1] at h
  cases e : ixOf t c.exc 0 with
  | none => rw [e] at h; cases h
  | some i =>
    rw [e] at h
    cases h
    obtain ⟨k, e1, e2⟩ := ixOf_get e
    have e3 : c.exc[i]? = some t := by rw [e1]; simpa using e2
    exact pe_glob g1 (gd.st.exc.glo i t e3) rfl g2
theorem ok_isi (gd : GoodX F pg n o c X) {f : Expr → Option E} (ih : ∀ e x, f e = some x → OkE F pg n o X e x) {a : Expr} {t : Str} {y : E} {ty : Ty} {p pos pt : Pos} (hg0 : c.glo "isinstance" = true) (hg : c.glo t = true) (h1 : f a = some y) (h2 : tyOf c t = some ty) (hs : noStar a = true) :
    OkE F pg n o X (.Call (.Name "isinstance" p) [a, .Name t pt] [] pos) (.isi y ty) := by
  intro W tk
  obtain ⟨g1, g2⟩ := glo_of gd hg0
  have ha := pa_cons (ih a y h1 W tk) (pa_cons (pe_cls gd (p := pt) hg h2) pa_nil) (star_of (es := [.Name t pt]) (env := X.env) hs)
  refine pe_weak (pe_callB (cr_isi gd.hK gd.st.exc (t := ty)) g1 (gd.st.bt _ (by decide +kernel)) boot_isinstance ha (by decide +kernel) g2 (star_of hs) rfl) fun s H Q ⟨p, f, h, fr, hr, pd⟩ => ?_
  show tE F W (evE (gE pg n o) y) s H fun z H1 => _
  refine ⟨p, f, h, fr, hr, px_bnd pd fun p1 h1 d v H1 st1 hr1 r1 pd1 => ?_⟩
  obtain ⟨b, e, pd1⟩ := PD.ofO (o := (isiD (gE pg n o).sub d ty).map .bl) pd1
  cases e1 : isiD (gE pg n o).sub d ty with
  | none => rw [e1] at e; cases e
  | some k =>
    rw [e1] at e
    cases e
    exact ⟨p1, h1, d, v, k, hr1, rfl, r1, e1, px_ret pd1 hr1 (.bl k)⟩

/-! ### the call of a def -/
theorem bindI_ok {d : DefI} {N : Nat} {ks : List Str} {ord : List Nat} {cs : List D} (h : bindI d N ks = some (ord, cs)) (po : d.params.posonlyargs = []) (va : d.params.vararg = none) (kwa : d.params.kwarg = none) (ps : d.params.args.map (·.arg) = d.pos) (kn : d.params.kwonlyargs.map (·.arg) = d.kwo.map (·.1)) :
    ∃ ms, BindC d.params d.pos (d.kwo.map (·.1)) N ks ms ord ∧ kwDflt d.kwo ms = some cs := by
  unfold bindI at h
  dsimp only at h
  split at h
  · rename_i h0
    simp only [Bool.and_eq_true, List.all_eq_true, decide_eq_true_eq, Bool.or_eq_true] at h0
    obtain ⟨⟨⟨h1, h2⟩, h3⟩, h4⟩ := h0
    cases e1 : ordOf (d.pos ++ d.kwo.map (·.1)) (d.pos.take N ++ ks ++ lackN (d.pos.take N ++ ks) (d.kwo.map (·.1))) with
    | none => rw [e1] at h; cases h
    | some ord' =>
      cases e2 : kwDflt d.kwo (lackN (d.pos.take N ++ ks) (d.kwo.map (·.1))) with
      | none => rw [e1, e2] at h; cases h
      | some cs' =>
        rw [e1, e2] at h
        cases h
        exact ⟨_, ⟨po, va, kwa, ps, kn, h1, h2, h3, h4, rfl, e1⟩, e2⟩
  · cases h
theorem lookup_mem {α : Type} {x : Str} {v : α} : ∀ {l : List (Str × α)}, l.lookup x = some v → (x, v) ∈ l
  | [], h => by cases h
  | (k, w) :: r, h => by
    rw [List.lookup_cons] at h
    cases e : x == k with
    | true => rw [e] at h; cases h; rw [eq_of_beq e]; exact List.mem_cons_self
    | false => rw [e] at h; exact List.mem_cons_of_mem _ (lookup_mem h)
theorem kw_vals {K : PySem.W.Frag} {D0 : Addr} {kwo : List (Str × D)} (hq : ∀ q ∈ kwo.map (fun q => (q.1, cV q.2)), ∃ u, PySem.W.nsIn K D0 q.1 = some (some u) ∧ L2.RelV q.2 u) (hs : ∀ q ∈ kwo, scalar q.2 = true) {p : Rho} {H : Hp} :
    ∀ {ms : List Str} {cs : List D}, kwDflt kwo ms = some cs → ∃ mv : List Value, mv.length = ms.length ∧ Vals (cs.map cV) mv ∧ F.DRs p H cs (cs.map cV) ∧ ∀ z ∈ ms.zip mv, PySem.W.nsIn K D0 z.1 = some (some z.2)
  | [], cs, h => by
    have h : some [] = some cs := h
    cases h
    exact ⟨[], rfl, .nil, .nil, fun z hz => by cases hz⟩
  | m :: ms, cs, h => by
    unfold kwDflt at h
    rw [List.mapM_cons] at h
    cases e1 : kwo.lookup m with
    | none => rw [e1] at h; cases h
    | some d =>
      cases e2 : ms.mapM (fun m => kwo.lookup m) with
      | none => rw [e1, e2] at h; cases h
      | some ds =>
        rw [e1, e2] at h
        cases h
        obtain ⟨mv, a1, a2, a3, a4⟩ := kw_vals hq hs (p := p) (H := H) e2
        have hm := lookup_mem e1
        obtain ⟨u, b1, b2⟩ := hq (m, cV d) (List.mem_map.mpr ⟨(m, d), hm, rfl⟩)
        refine ⟨u :: mv, by simp [a1], .cons b2 a2, .cons (cV_DR (hs _ hm)) a3, fun z hz => ?_⟩
        rcases List.mem_cons.mp (show z ∈ (m, u) :: ms.zip mv from hz) with e | e
        · rw [e]; exact b1
        · exact a4 z e
/-- the callee runs -/
theorem call_def (gd : GoodX F pg n o c X) {W : WX} (tk : Takes X W) {i : Nat} {d : DefI} (hd : c.defs[i]? = some d) {pins : List (Addr × PySem.Obj)} {σ : L2.St} {H : Hp} {s : Shared} {Q : VK} {us ws : List Value} {vs zs : List V} {ds es cs : List D} {ks : List Str} {ord : List Nat} {p : Rho} {h : Sto}
    (hb : bindI d vs.length ks = some (ord, cs)) (I : L2.Inv X pins σ H s) (r : Vals vs us) (rz : Vals zs ws) (hz : zs.length = ks.length) (hr : F.HR p h H) (rd : F.DRs p H ds vs) (re : F.DRs p H es zs)
    (pd : PD F p H (callN pg n i (pickN ord (ds ++ es ++ cs)) bad h) Q (zE F W σ)) : wpAny (model X.prog X.w) X.A (call (.ref (F.fA i)) us (ks.zip ws)) (EP X pins σ Q) X.xe s := by
  have S := gd.st.dfs i d hd
  obtain ⟨ms, bc, hcs⟩ := bindI_ok hb S.po S.va S.kwa S.ps S.kn
  obtain ⟨oc, od, kV, doc, pm, an, cc, ct, osl, lk, hcd, hkw, _⟩ := S.fn
  have hmv : ∃ mv : List Value, mv.length = ms.length ∧ Vals (cs.map cV) mv ∧ F.DRs p H cs (cs.map cV) ∧ (ms = [] ∨ ∃ D0 : Addr, kV = .ref D0 ∧ ∀ z ∈ ms.zip mv, PySem.W.nsIn X.K D0 z.1 = some (some z.2)) := by
    rcases hkw with e | ⟨D0, e1, e2⟩
    · have : ms = [] := by
        have z := bc.lack
        have e : d.kwo = [] := by simpa using e
        rw [e] at z
        simp [lackN] at z
        exact z
      subst this
      have hcs : some [] = some cs := hcs
      cases hcs
      exact ⟨[], rfl, .nil, .nil, .inl rfl⟩
    · obtain ⟨mv, a1, a2, a3, a4⟩ := kw_vals (F := F) (K := F.K) e2 S.kwo (p := p) (H := H) hcs
      rw [gd.hK] at a4
      exact ⟨mv, a1, a2, a3, .inr ⟨D0, e1, a4⟩⟩
  obtain ⟨mv, m1, m2, m3, m4⟩ := hmv
  have bt := bind_gen (K := X.K) (x := d.name) (q := d.qual) (params := d.params) (body := d.body) (scope := d.sc) (kV := kV) (doc := doc) (pm := pm) (an := an) (cdv := .ref cc) (ct := ct) bc (s := s) (us := us) (ws := ws) (mv := mv) I.kIn (by rw [r.length]) (by rw [← rz.length]; exact hz) m1 m4
  have FO := gd.calls n (Nat.le_refl _) i d hd _ _ _ _ lk
  rw [gd.hK] at FO
  have pv := pick_Vals ((r.append rz).append m2) ord
  have rall := pick_DRs ((rd.append re).append m3) ord
  have sp : spI F pg n i (nPar d) bad (pickN ord (vs ++ zs ++ cs.map cV)) H Q (WE W σ) := by
    refine ⟨p, h, _, hr, rall, ?_, pd⟩
    rw [rall.length]
    have hl : (d.pos.take vs.length ++ ks ++ ms).length ≤ (vs ++ zs ++ cs.map cV).length := by
      have l1 := m2.length
      have l2 := bc.le
      simp only [List.length_append, List.length_take]
      omega
    have := (ord_pick (d.pos.take vs.length ++ ks ++ ms) (vs ++ zs ++ cs.map cV) hl _ ord bc.ord).2.1
    rw [this]
    simp [nPar]
  refine wpAny_call (codeAny_mono (FO.run X.A X.stack s H ⟨us, ks.zip ws⟩ _ _ Q (WE W σ) (gd.room.mono (by omega)) I.env0 bt pv sp) fun r' s' hq => ?_)
  cases r' with
  | error e => exact passAt tk σ pins H s e s' I hq
  | ok fl =>
    cases fl with
    | ret u => exact I.after hq
    | next => exact False.elim hq
    | brk => exact False.elim hq
    | cont => exact False.elim hq
/-- keywords' values -/
theorem okk_of {f : Expr → Option E} (ih : ∀ e x, f e = some x → OkE F pg n o X e x) {W : WX} (tk : Takes X W) : ∀ {kws : List Keyword} {ks : List Str} {x : Es}, kwNames kws = some ks → cAs f (kwVals kws) = some x → PK X kws (tA F W (evA (gE pg n o) x))
  | [], ks, x, _, h => by
    cases h
    exact ⟨fun pos pins s σ H Q I ⟨p, f, h, fr, hr, pd⟩ => pk_nil.run pos pins s σ H Q I (px_ret (R := F.DRs) (v := []) pd hr .nil)⟩
  | ⟨none, v, q⟩ :: r, _, _, h, _ => by cases h
  | ⟨some x, v, q⟩ :: r, ks, y, h, h2 => by
    have h : (kwNames r).map (x :: ·) = some ks := h
    cases e : kwNames r with
    | none => rw [e] at h; cases h
    | some ks' =>
      have h2 : (if noStar v = true then (match f v, cAs f (kwVals r) with | some x, some xs => some (Es.cons x xs) | _, _ => none) else none) = some y := h2
      by_cases c1 : noStar v = true
      · rw [if_pos c1] at h2
        cases e1 : f v with
        | none => rw [e1] at h2; cases h2
        | some y1 =>
          cases e2 : cAs f (kwVals r) with
          | none => rw [e1, e2] at h2; cases h2
          | some ys =>
            rw [e1, e2] at h2
            cases h2
            refine ⟨fun pos pins s σ H Q I hh => (pk_cons (ih v y1 e1 W tk) (okk_of ih tk e e2)).run pos pins s σ H Q I ?_⟩
            obtain ⟨p, f, h, fr, hr, pd⟩ := hh
            refine ⟨p, f, h, fr, hr, px_bnd pd fun p1 h1 d v H1 st1 hr1 r1 pd1 => ?_⟩
            refine ⟨p1, f, h1, fr.mono st1, hr1, px_bnd pd1 fun p2 h2 ds vs H2 st2 hr2 r2 pd2 => ?_⟩
            exact px_ret (R := F.DRs) pd2 hr2 (.cons (r1.mono st2) r2)
      · rw [if_neg c1] at h2; cases h2
theorem cAs_len {f : Expr → Option E} {σ : Fr} {g : G} : ∀ {es : List Expr} {x : Es} {h h1 : Sto} {ds : List D}, cAs f es = some x → evA g x σ h = .ok ds h1 → ds.length = es.length
  | [], x, h, h1, ds, e, q => by
    cases e
    have q : Res.ok ([] : List D) h = .ok ds h1 := q
    cases q
    rfl
  | e0 :: es, x, h, h1, ds, e, q => by
    unfold cAs at e
    by_cases c1 : noStar e0 = true
    · rw [if_pos c1] at e
      cases e1 : f e0 with
      | none => rw [e1] at e; cases e
      | some y =>
        cases e2 : cAs f es with
        | none => rw [e1, e2] at e; cases e
        | some ys =>
          rw [e1, e2] at e
          cases e
          rw [evA] at q
          unfold bnd at q
          cases q1 : evE g y σ h with
          | ok d h2 =>
            rw [q1] at q
            dsimp only at q
            cases q2 : evA g ys σ h2 with
            | ok ds2 h3 =>
              rw [q2] at q
              have q : Res.ok (d :: ds2) h3 = .ok ds h1 := q
              cases q
              rw [List.length_cons, List.length_cons, cAs_len e2 q2]
            | exn _ _ => rw [q2] at q; cases q
            | bad => rw [q2] at q; cases q
          | exn _ _ => rw [q1] at q; cases q
          | bad => rw [q1] at q; cases q
    · rw [if_neg c1] at e; cases e
theorem evA_app {g : G} {σ : Fr} : ∀ (a b : Es), evA g (appEs a b) σ = bnd (evA g a σ) fun ds => bnd (evA g b σ) fun es => ret (ds ++ es)
  | .nil, b => by
    funext h
    show evA g b σ h = bnd (ret ([] : List D)) (fun ds => bnd (evA g b σ) fun es => ret (ds ++ es)) h
    unfold bnd ret
    dsimp only [List.nil_append]
    cases evA g b σ h <;> rfl
  | .cons e a, b => by
    have ih := evA_app (g := g) (σ := σ) a b
    funext h
    show bnd (evE g e σ) (fun d => bnd (evA g (appEs a b) σ) fun ds => ret (d :: ds)) h = bnd (bnd (evE g e σ) fun d => bnd (evA g a σ) fun ds => ret (d :: ds)) (fun ds => bnd (evA g b σ) fun es => ret (ds ++ es)) h
    rw [ih, bnd_assoc]
    unfold bnd
    cases evE g e σ h with
    | ok d h1 =>
      dsimp only
      cases evA g a σ h1 with
      | ok ds h2 =>
        unfold ret
        dsimp only
        cases evA g b σ h2 <;> rfl
      | exn _ _ => rfl
      | bad => rfl
    | exn _ _ => rfl
    | bad => rfl
theorem evA_cst {g : G} {σ : Fr} : ∀ (cs : List D) (h : Sto), evA g (cstEs cs) σ h = .ok cs h
  | [], _ => rfl
  | d :: cs, h => by
    have e1 : evE g (.cst d) σ = ret d := by rw [evE]
    have e2 : evA g (cstEs (d :: cs)) σ = bnd (evE g (.cst d) σ) fun d => bnd (evA g (cstEs cs) σ) fun ds => ret (d :: ds) := by
      show evA g (.cons (.cst d) (cstEs cs)) σ = _
      rw [evA]
    rw [e2, e1]
    show bnd (evA g (cstEs cs) σ) (fun ds => ret (d :: ds)) h = _
    unfold bnd
    rw [evA_cst cs h]
    rfl
/-- f(..) of a def of the text: once the arguments stand -/
theorem ok_defcall (gd : GoodX F pg n o c X) {f : Expr → Option E} (ih : ∀ e x, f e = some x → OkE F pg n o X e x) {x : Str} {args : List Expr} {kws : List Keyword} {as bs : Es} {i : Nat} {d : DefI} {ks : List Str} {ord : List Nat} {cs : List D} {p pos : Pos}
    (hg : c.glo x = true) (hd : c.defs[i]? = some d) (hx : d.name = x) (hk : kwNames kws = some ks) (hb : bindI d args.length ks = some (ord, cs)) (h1 : cAs f args = some as) (h2 : cAs f (kwVals kws) = some bs) {W : WX} (tk : Takes X W) {Fr0 : Fr}
    : ∀ (pins : List (Addr × PySem.Obj)) (s : Shared) (σ : L2.St) (H : Hp) (Q : VK), L2.Inv X pins σ H s → (∃ p fr h, FR F p H fr σ ∧ F.HR p h H ∧ PD F p H (bnd (evA (gE pg n o) as fr) (fun ds => bnd (evA (gE pg n o) bs fr) fun es => callN pg n i (pickN ord (ds ++ es ++ cs)) bad) h) Q (zE F W σ)) →
      wpAny (model X.prog X.w) X.A (eval (.Call (.Name x p) args kws pos) X.env) (EP X pins σ Q) X.xe s := by
  intro pins s σ H Q I q
  obtain ⟨g1, g2⟩ := glo_of gd hg
  have S := gd.st.dfs i d hd
  have hm : X.mg x = some (.ref (F.fA i)) := by rw [← hx]; exact S.glo
  have kp : PySem.W.keepIn X.K (.ref (F.fA i)) = true := by rw [← gd.hK]; exact S.kp
  obtain ⟨k1, k2, k3⟩ := kws_all (p := pos) (env := X.env) hk
  have hplain : ((backTo pos (starEach args X.env)).any (·.1) || (backToKw pos (keywordEach kws X.env)).any (·.1.isNone)) = false := by
    rw [stars_of h1, k3]
    rfl
  obtain ⟨p0, fr0, h0, f0, hr0, pd0⟩ := q
  refine wpAny_Call_Name_kw (ld_glob I g1 hm ?_ g2)
  have step2 : ∀ (s1 : Shared) (us : List Value) (vs : List V) (H1 : Hp) (p1 : Rho) (h1 : Sto) (ds : List D), L2.Inv X pins σ H1 s1 → Vals vs us → vs.length = args.length → FR F p1 H1 fr0 σ → F.HR p1 h1 H1 → F.DRs p1 H1 ds vs →
      PD F p1 H1 (bnd (evA (gE pg n o) bs fr0) (fun es => callN pg n i (pickN ord (ds ++ es ++ cs)) bad) h1) Q (zE F W σ) →
      wpAny (model X.prog X.w) X.A (evalAll ((backToKw pos (keywordEach kws X.env)).map (·.2))) (fun ws s2 => X.K.In s2.heap ∧ wpAny (model X.prog X.w) X.A (call (.ref (F.fA i)) ([] ++ us) (((backToKw pos (keywordEach kws X.env)).filterMap (·.1)).zip ws)) (EP X pins σ Q) X.xe s2) X.xe s1 := by
    intro s1 us vs H1 p1 h1' ds I1 r1 hl f1 hr1 rd1 pd1
    refine thn ((okk_of ih tk hk h2).run pos pins s1 σ H1 (fun zs H2 => ∃ p2 h2 es, F.HR p2 h2 H2 ∧ F.DRs p2 H2 ds vs ∧ F.DRs p2 H2 es zs ∧ zs.length = ks.length ∧ PD F p2 H2 (callN pg n i (pickN ord (ds ++ es ++ cs)) bad h2) Q (zE F W σ)) I1 ⟨p1, fr0, h1', f1, hr1, ?_⟩) fun ws s2 hh => ?_
    · have nm : ∀ {ds : List D} {h h1 : Sto}, evA (gE pg n o) bs fr0 h = .ok ds h1 → ds.length = ks.length := fun e => by
        rw [cAs_len h2 e]
        have : ∀ {kws : List Keyword} {ks : List Str}, kwNames kws = some ks → (kwVals kws).length = ks.length := by
          intro kws
          induction kws with
          | nil => intro ks h; cases h; rfl
          | cons k r ih =>
            intro ks h
            obtain ⟨nm, v, q⟩ := k
            cases nm with
            | none => cases h
            | some x =>
              have h : (kwNames r).map (x :: ·) = some ks := h
              cases e : kwNames r with
              | none => rw [e] at h; cases h
              | some y => rw [e] at h; cases h; simp [kwVals, ih e]
        exact this hk
      unfold bnd at pd1
      cases e : evA (gE pg n o) bs fr0 h1' with
      | ok es h2' =>
        rw [e] at pd1
        exact fun p2 H2 zs st2 hr2 r2 => ⟨p2, h2', es, hr2, rd1.mono st2, r2, by rw [← r2.length]; exact nm e, pd1.mono st2⟩
      | exn k h2' => rw [e] at pd1; exact pd1
      | bad => rw [e] at pd1; exact pd1.elim
    · obtain ⟨zs, H2, I2, rz, p2, h2', es, hr2, rd2, re2, hz, pd2⟩ := hh
      refine ⟨I2.kIn, ?_⟩
      rw [k2]
      exact call_def gd tk hd (by rw [hl]; exact hb) I2 r1 rz hz hr2 rd2 re2 pd2
  have lenA : ∀ {ds : List D} {h h' : Sto}, evA (gE pg n o) as fr0 h = .ok ds h' → ds.length = args.length := fun e => cAs_len h1 e
  cases args with
  | nil =>
    cases h1
    refine PySem.W.callWith_KW0 (h₀ := X.base) I.ok.mod.kin kp k1 ?_ hplain
    exact step2 s [] [] H p0 h0 [] I .nil rfl f0 hr0 .nil pd0
  | cons e0 es =>
    have hstar : noStar e0 = true := by
      unfold cAs at h1
      by_cases k : noStar e0 = true
      · exact k
      · rw [if_neg k] at h1; cases h1
    refine PySem.W.callWith_KW (h₀ := X.base) I.ok.mod.kin kp k1 (thn ((oka_of ih h1 W tk).run pos pins s σ H (fun vs H1 => ∃ p1 h1 ds, vs.length = (e0 :: es).length ∧ FR F p1 H1 fr0 σ ∧ F.HR p1 h1 H1 ∧ F.DRs p1 H1 ds vs ∧ PD F p1 H1 (bnd (evA (gE pg n o) bs fr0) (fun es => callN pg n i (pickN ord (ds ++ es ++ cs)) bad) h1) Q (zE F W σ)) I ⟨p0, fr0, h0, f0, hr0, ?_⟩) fun us s1 hh => ?_) hplain (star_of hstar)
    · unfold bnd at pd0
      cases e : evA (gE pg n o) as fr0 h0 with
      | ok ds h1' =>
        rw [e] at pd0
        exact fun p1 H1 vs st1 hr1 r1 => ⟨p1, h1', ds, by rw [← r1.length]; exact lenA e, f0.mono st1, hr1, r1, PX.mono st1 pd0⟩
      | exn k h1' => rw [e] at pd0; exact pd0
      | bad => rw [e] at pd0; exact pd0.elim
    · obtain ⟨vs, H1, I1, r1, p1, h1', ds, hl, f1, hr1, rd1, pd1⟩ := hh
      exact step2 s1 us vs H1 p1 h1' ds I1 r1 hl f1 hr1 rd1 pd1
end
end Mi

set_option Elab.async false
set_option linter.all false
set_option autoImplicit false
set_option maxRecDepth 100000
set_option maxHeartbeats 2000000
/-! Sk: what compiles keeps its result: a lambda handed to a def. -/
namespace Mi
open PySem L2 LamX PyProof.Rows PySem.Spec
def SoundE (pg : Pg) (n : Nat) : Prop := ∀ F o c X, GoodX F pg n o c X → ∀ k e x, cE k c e = some x → OkE F pg n o X e x ∧ OkT F pg n o X e x
def SoundS (pg : Pg) (n : Nat) : Prop := ∀ F o c X, c.blk = false → GoodX F pg n o c X → ∀ k sts s, cSs k c sts = some s → ∀ W, Takes X W → PSs X sts (tS F W (exS (gOf pg n o) s))
/-- another slot pinned -/
abbrev Fx.rp (F : Fx) (z : Option Pin) : Fx := { F with pin := z }
section
variable {F : Fx} {pg : Pg} {n : Nat} {o : M D} {c : Cn} {X : Cx}
theorem DefS.rp {base : Heap} {mg : Str → Option Value} {i : Nat} {d d0 : DefI} (z : Option Pin) (x : DefS F pg base mg c i d) : DefS (F.rp z) pg base mg (cnOf c d0) i d :=
  ⟨x.kwo, x.glo, x.fn, x.kp, x.po, x.va, x.kwa, x.ps, x.kn, x.sc, x.orc, x.body⟩
theorem Stat.rp {base : Heap} {mg : Str → Option Value} {d0 : DefI} (z : Option Pin) (x : Stat F pg base mg c) : Stat (F.rp z) pg base mg (cnOf c d0) :=
  ⟨fun i d h => (x.dfs i d h).rp z, x.con, x.bt, x.exc⟩
theorem DefS.rpL {base : Heap} {mg : Str → Option Value} {i : Nat} {d : DefI} {sc : Scope} (z : Option Pin) (x : DefS F pg base mg c i d) : DefS (F.rp z) pg base mg (cnLam c sc) i d :=
  ⟨x.kwo, x.glo, x.fn, x.kp, x.po, x.va, x.kwa, x.ps, x.kn, x.sc, x.orc, x.body⟩
theorem Stat.rpL {base : Heap} {mg : Str → Option Value} {sc : Scope} (z : Option Pin) (x : Stat F pg base mg c) : Stat (F.rp z) pg base mg (cnLam c sc) :=
  ⟨fun i d h => (x.dfs i d h).rpL z, x.con, x.bt, x.exc⟩
theorem CallsAt.rp {m : Nat} {P : Program} {w : World} {mg : Str → Option Value} {base : Heap} {c' : Cn} (hd : c'.defs = c.defs) (z : Option Pin) (x : CallsAt F pg m c P w mg base) : CallsAt (F.rp z) pg m c' P w mg base := by
  intro i d h
  rw [hd] at h
  exact x i d h
theorem FR.rp {p : Rho} {H : Hp} {f : Fr} {s : L2.St} (x : FR F p H f s) {z : Option Pin} (hz : ∀ y, z = some y → s[y.i]? = some (some (.ref y.f)) ∧ H y.c = some (LamX.CodeO y.c y.q) ∧ Step y.p y.H p H) : FR (F.rp z) p H f s := ⟨x.len, x.get, hz⟩

/-! ### a def's run as a statement's -/
theorem fn_ps {z : Option Pin} {g : G} {fn : Fn} {ds : List D} {p : Rho} {H : Hp} {h : Sto} {Q : VK} {E : XK} (pd : PD F p H (runFn g fn ds h) Q (fun c H1 => E (.ref (F.cA c)) none H1)) :
    ds.length = fn.par ∧ PS_ (F.rp z) (fun cls d _ H1 => E cls d H1) p H (exS g fn.body (start fn.slots ds) h) { nx := fun _ H' => Q .non H', rt := Q } := by
  unfold runFn at pd
  by_cases c : ds.length = fn.par
  · rw [if_pos c] at pd
    refine ⟨c, ?_⟩
    cases e : exS g fn.body (start fn.slots ds) h with
    | ok fl f1 h1 =>
      rw [e] at pd
      cases fl with
      | next => exact fun p1 H1 s1 st hr _ => pd p1 H1 .non st hr .non
      | ret d => exact fun p1 H1 s1 st hr _ v rv => pd p1 H1 v st hr rv
      | brk => exact pd.elim
      | cnt => exact pd.elim
    | exn k f1 h1 =>
      rw [e] at pd
      exact fun p1 H1 s1 st hr _ => pd p1 H1 st hr
    | bad => rw [e] at pd; exact pd.elim
  · rw [if_neg c] at pd; exact pd.elim
theorem start_FR {ds : List D} {vs : List V} {p : Rho} {H : Hp} (r : F.DRs p H ds vs) (N : List Str) (hl : ds.length ≤ N.length) (hp : F.pin = none) : FR F p H (Mi.start N.length ds) (L2.start N vs) := by
  have lv := r.length
  refine ⟨?_, fun i d e => ?_, fun z hz => by rw [hp] at hz; cases hz⟩
  · unfold Mi.start L2.start
    simp [lv]
  · unfold Mi.start at e
    unfold L2.start
    by_cases c : i < ds.length
    · rw [List.getElem?_append_left (by simpa using c), List.getElem?_map] at e
      have e : (ds[i]?).map some = some (some d) := e
      cases q : ds[i]? with
      | none => rw [q] at e; cases e
      | some d' =>
        rw [q] at e
        cases e
        obtain ⟨v, h1, h2⟩ := r.get q
        refine ⟨v, ?_, h2⟩
        rw [List.getElem?_append_left (by rw [List.length_map]; omega), List.getElem?_map, h1]
        rfl
    · rw [List.getElem?_append_right (by simp; omega)] at e
      rw [List.getElem?_replicate] at e
      split at e <;> cases e

/-! ### the lambda called: what is raised is wished for at the caller's slots -/
theorem pe_actS {pins : List (Addr × PySem.Obj)} {σ : L2.St} {H : Hp} {s : Shared} {CXg : CXT} {Eg : XK} {Ng : List Str} {qg : Str} {sg : Scope} {g f c' : Addr} {cdg pm ctv : Value} {params : Arguments} {body : Expr} {scope : Scope} {k i : Nat} {a : Str} {pn : List (Addr × PySem.Obj)} {xe : Value → Shared → Prop} {W : WX} {tb : XK → TE} {p1 p2 : Pos}
    (I : L2.Inv X pins σ H s) (L : LamS X.env.scope scope) (hf : s.heap.get? f = some (PySem.W.kla_obj "<lambda>" (X.env.qual ++ "<lambda>") params body scope (cloFrom X.env.cells scope.names []) pm c' ctv)) (hfn : H f = none) (hfr : f ∉ frs X.stack)
    (hbind : bindArgs (PySem.W.kla_fn "<lambda>" (X.env.qual ++ "<lambda>") params body scope (cloFrom X.env.cells scope.names []) pm (.ref c') ctv) ⟨[], []⟩ = pure [])
    (tk : Takes ((cxOf CXg X.prog X.w X.K X.mg X.base Ng qg sg g cdg X.A X.stack s H Eg).tr pn xe) W) (hr : Room (k + 1) (X.A.deeper (envOfC qg sg s.heap.objs.size g cdg)))
    (hbody : ∀ (E : XK) (A : Around) (outer : List Env) (s : Shared) (H : Hp), Room k (A.deeper (lamEnv X scope s.heap.objs.size f c')) → PE (lamCx X A outer s H E scope f c') body (tb E))
    (hN : Ng[i]? = some a) (hv : Vis sg a) (hd : (a == ("__debug__" : Str)) = false) (hcd : (a == ("__classdict__" : Str)) = false) :
    PE ((cxOf CXg X.prog X.w X.K X.mg X.base Ng qg sg g cdg X.A X.stack s H Eg).tr pn xe) (.Call (.Name a p1) [] [] p2)
      (fun σZ HZ Q => σZ[i]? = some (some (.ref f)) ∧ HZ c' = some (CodeO c' (X.env.qual ++ "<lambda>")) ∧ tb (WE W σZ) σ HZ Q) := by
  refine ⟨fun pinsZ sZ σZ HZ Q IZ h => ?_⟩
  obtain ⟨hs, hc, ht⟩ := h
  refine wpAny_Call_Name_kw (thn ((pe_var (pos := p1) (i := i) hN hv hd hcd).run pinsZ sZ σZ HZ (fun v H1 => v = .ref f ∧ H1 = HZ) IZ ⟨.ref f, hs, rfl, rfl⟩) fun u s1 ⟨v, H1, I1, r1, q1⟩ => ?_)
  obtain ⟨ev, eH⟩ := q1
  subst ev
  rw [eH] at I1
  obtain rfl : u = Value.ref f := r1
  have of1 : s1.heap.get? f = some (PySem.W.kla_obj "<lambda>" (X.env.qual ++ "<lambda>") params body scope (cloFrom X.env.cells scope.names []) pm c' ctv) := I1.base.keep f _ hf hfn hfr (fun z => nomatch (show f ∈ ([] : List Addr) from z))
  refine PySem.W.callWith_F0 ⟨_, _, _, _, of1⟩ ?_
  have un : Un (frs X.stack) [] H HZ s.heap s1.heap := I1.base
  obtain ⟨⟨oc, vs, t, hoc, hdc, hvc⟩, _, _⟩ := I1.hok c' _ hc
  have rc : codeAny (model X.prog X.w) (X.A.deeper (envOfC qg sg s.heap.objs.size g cdg)) (.call (.ref f) ⟨[], []⟩) (CR (L2.CX X.prog X.w) (envOfC qg sg s.heap.objs.size g cdg :: X.stack) X.prog X.w HZ s1 Q (WE W σZ)) s1 := by
    refine PySem.W.kla_callFunE hr.depth of1 rfl L.co L.gen rfl ⟨c', oc, vs, t, rfl, hoc, hdc, hvc⟩ ?_
    rw [hbind]
    refine wpAny_pure (wpAny_newFunctionEnv (fun y hy => (L.own y hy).2) (fun y hy => absurd hy (by simp)) (fun h₁ hns hsb => ⟨I1.nolimit.fresh _ hsb, ?_⟩) L.kind)
    show codeAny _ _ (.expr body (lamEnv X scope s1.heap.objs.size f c')) _ _
    have kp : ∀ b o, s1.heap.get? b = some o → h₁.get? b = some o := fun b o e => hsb.extBut b o (Nat.ne_of_lt (Heap.lt_size e)) (Heap.get?_push_of_some _ e)
    have J : L2.Inv (lamCx X (X.A.deeper (envOfC qg sg s.heap.objs.size g cdg)) (envOfC qg sg s.heap.objs.size g cdg :: X.stack) s1 HZ (WE W σZ) scope f c') [] σ HZ { s1 with heap := h₁, toks := s1.toks + ([] : List (Str × Value)).length } :=
      lam_start2 I L I1.env0 hr.hd un hns kp
    refine PySem.W.kla_codeExpr (wpAny_mono ((hbody (WE W σZ) _ _ s1 HZ (hr.deeper _)).run [] _ _ HZ Q J ht) (fun v s' hq => ?_) fun e s' hq => hq)
    obtain ⟨w', H', J', rv, q⟩ := hq
    exact ⟨w', H', J'.os, J'.bare, J'.base, J'.hok, rv, q⟩
  refine wpAny_call (codeAny_mono rc fun r s' hq => ?_)
  cases r with
  | error e => exact passAt tk σZ pinsZ HZ s1 e s' I1 hq
  | ok fl =>
    cases fl with
    | ret u => exact I1.after hq
    | next => exact False.elim hq
    | brk => exact False.elim hq
    | cont => exact False.elim hq

/-! ### the arguments ahead of it -/
theorem lamOf_ok {e : Expr} {z : Arguments × Expr × Scope} (h : lamOf e = some z) : ∃ lp, e = .Lambda z.1 z.2.1 z.2.2 lp := by
  unfold lamOf at h
  split at h
  · cases h; exact ⟨_, rfl⟩
  · cases h
theorem lamLast_ok : ∀ {args es : List Expr} {pr : Arguments} {b : Expr} {sc : Scope}, lamLast args = some (es, pr, b, sc) → ∃ lp, args = es ++ [.Lambda pr b sc lp]
  | [], _, _, _, _, h => by cases h
  | [e], es, pr, b, sc, h => by
    have h : (lamOf e).map (fun z => (([] : List Expr), z)) = some (es, pr, b, sc) := h
    cases e1 : lamOf e with
    | none => rw [e1] at h; cases h
    | some z =>
      rw [e1] at h
      cases h
      obtain ⟨lp, e2⟩ := lamOf_ok e1
      exact ⟨lp, by rw [e2]; rfl⟩
  | e :: e2 :: r, es, pr, b, sc, h => by
    have h : (lamLast (e2 :: r)).map (fun (es, z) => (e :: es, z)) = some (es, pr, b, sc) := h
    cases e1 : lamLast (e2 :: r) with
    | none => rw [e1] at h; cases h
    | some z =>
      obtain ⟨es', pr', b', sc'⟩ := z
      rw [e1] at h
      cases h
      obtain ⟨lp, e3⟩ := lamLast_ok e1
      exact ⟨lp, by rw [e3]; rfl⟩
theorem back_false {p : Pos} {t : Sem Value} {l : List (Bool × Sem Value)} : backTo p ((false, t) :: l) = (false, t) :: backTo p l := rfl
theorem spl_lam {f : Expr → Option E} (ih : ∀ e x, f e = some x → OkE F pg n o X e x) {W : WX} (tk : Takes X W) {pr : Arguments} {b : Expr} {sc : Scope} {lp pos : Pos} : ∀ {es : List Expr} {as : Es}, cAs f es = some as →
    ∀ (G0 : List Value → Shared → Prop) (pins : List (Addr × PySem.Obj)) (s : Shared) (σ : L2.St) (H : Hp) (Qv : List V → Hp → Prop), L2.Inv X pins σ H s → tA F W (evA (gE pg n o) as) σ H Qv →
      (∀ s1 us vs H1, L2.Inv X pins σ H1 s1 → Vals vs us → Qv vs H1 → wpAny (model X.prog X.w) X.A (eval (.Lambda pr b sc lp) X.env) (fun u s2 => G0 (us ++ [u]) s2) X.xe s1) →
      wpAny (model X.prog X.w) X.A (spliced (backTo pos (starEach (es ++ [.Lambda pr b sc lp]) X.env))) G0 X.xe s
  | [], as, h, G0, pins, s, σ, H, Qv, I, q, k => by
    cases h
    obtain ⟨p, fr, h, f0, hr, pd⟩ := q
    have q0 : Qv [] H := px_ret (R := F.DRs) (v := []) pd hr .nil
    have e3 : ([] : List Expr) ++ [Expr.Lambda pr b sc lp] = [.Lambda pr b sc lp] := rfl
    have hst : starEach [.Lambda pr b sc lp] X.env = (false, eval (.Lambda pr b sc lp) X.env) :: starEach [] X.env := rfl
    rw [e3, hst, back_false]
    exact Calls.spliced_cons (thn (k s [] [] H I .nil q0) fun u s1 hu => Calls.spliced_nil hu)
  | e :: es, as, h, G0, pins, s, σ, H, Qv, I, q, k => by
    unfold cAs at h
    by_cases c1 : noStar e = true
    · rw [if_pos c1] at h
      cases e1 : f e with
      | none => rw [e1] at h; cases h
      | some y =>
        cases e2 : cAs f es with
        | none => rw [e1, e2] at h; cases h
        | some ys =>
          rw [e1, e2] at h
          cases h
          obtain ⟨p, fr, h, f0, hr, pd⟩ := q
          have hst := star_of (es := es ++ [.Lambda pr b sc lp]) (env := X.env) c1
          have e3 : (e :: es) ++ [Expr.Lambda pr b sc lp] = e :: (es ++ [.Lambda pr b sc lp]) := rfl
          rw [e3, hst, back_false]
          refine Calls.spliced_cons (thn ((ih e y e1 W tk).run pins s σ H (fun v H1 => tA F W (evA (gE pg n o) ys) σ H1 fun vs H2 => Qv (v :: vs) H2) I ⟨p, fr, h, f0, hr, px_bnd pd fun p1 h1 d v H1 st1 hr1 r1 pd1 => ?_⟩) fun u s1 ⟨v, H1, I1, r1, q1⟩ => ?_)
          · exact ⟨p1, fr, h1, f0.mono st1, hr1, px_bnd pd1 fun p2 h2 ds vs H2 st2 hr2 r2 pd2 => px_ret (R := F.DRs) pd2 hr2 (.cons (r1.mono st2) r2)⟩
          · refine spl_lam ih tk e2 (fun us s2 => G0 (u :: us) s2) pins s1 σ H1 _ I1 q1 fun s2 us vs H2 I2 r2 q2 => ?_
            exact k s2 (u :: us) (v :: vs) H2 I2 (.cons r1 r2) q2
    · rw [if_neg c1] at h; cases h
end
end Mi

set_option Elab.async false
set_option linter.all false
set_option autoImplicit false
set_option maxRecDepth 100000
set_option maxHeartbeats 2000000
/-! Sk1: a, *b, c = a list or a tuple: printed by mkSk1.py. -/
namespace Mi
open PySem L2 LamX PyProof.Rows PySem.Spec
section
variable {prog : Program} {w : World} {A : Around} {E : Value → Shared → Prop}
theorem draw_lst {it l : Addr} {items : Array Value} (hne : l ≠ it) : ∀ (n i : Nat) (s : Shared) (Q : List Value → Shared → Prop), s.heap.IsListIter it l i → s.heap.IsList l items → i + n ≤ items.size →
    (∀ h', h'.IsListIter it l (i + n) → Heap.SameBut it s.heap h' → Q ((items.toList.drop i).take n) { s with heap := h' }) → wpAny (model prog w) A (draw (.ref it) n) Q E s
  | 0, i, s, Q, hit, _, _, hQ => by
    show wpAny _ _ (pure []) Q E s
    exact wpAny_pure (by simpa using hQ s.heap hit (Heap.SameBut.refl ..))
  | n + 1, i, s, Q, hit, ht, hle, hQ => by
    have hlt : i < items.size := by omega
    show wpAny _ _ (pyNext (.ref it) >>= _) Q E s
    refine wpAny_bind (wpAny_pyNext_list_item hit ht (x := items[i]) (by simp [hlt]) fun h₁ hit₁ hs₁ => ?_)
    refine wpAny_bind (wpAny_holding (draw_lst hne n (i + 1) _ _ hit₁ (ht.extBut hs₁.extBut hne) (by omega) fun h₂ hit₂ hs₂ => wpAny_pure ?_))
    have hd : items.toList.drop i = items[i] :: items.toList.drop (i + 1) := by simp [List.drop_eq_getElem_cons, hlt]
    have := hQ h₂ (by rw [show i + (n + 1) = i + 1 + n by omega]; exact hit₂) (hs₁.trans hs₂)
    rw [hd, List.take_succ_cons] at this
    exact this
theorem walk_lst (hh : A.handled = none) (it l : Addr) (hne : l ≠ it) (items : Array Value) (k : Nat) : WalksS prog w A it [it, l] [it] (fun a b => b = a) (items.size - k) (fun j v => items[k + j]? = some v) (fun j s => s.heap.IsListIter it l (k + j) ∧ s.heap.IsList l items) where
  sub := fun b hb => by simp at hb; simp [hb]
  grefl := fun _ => rfl
  gtrans := fun _ _ _ x y => y.trans x
  frame := fun i s h' tk ⟨⟨o1, a1, b1⟩, ⟨o2, a2, b2⟩⟩ _ k => ⟨⟨o1, k it (by simp) o1 a1, b1⟩, ⟨o2, k l (by simp) o2 a2, b2⟩⟩
  item := fun i s Q E hi st hQ => by
    refine wpAny_pyNext_list_item st.1 st.2 (x := items[k + i]'(by omega)) (by simp) fun h' hit' hs' => ?_
    exact hQ _ _ (by simp) ⟨hit', st.2.extBut hs'.extBut hne⟩ ⟨fun b o hb e => hs'.extBut b o (fun z => hb (by simp [z])) e, rfl, rfl, rfl, Nat.le_refl _⟩
  done := fun s Q E st hQ => wpAny_pyNext_list_end hh st.1 st.2 (by simp; omega) fun h' he' => hQ _ ⟨fun b o hb e => he' b o (fun z => hb (by simp [z])) e, rfl, rfl, rfl, Nat.le_refl _⟩
  self := fun _ _ _ _ st hQ => wpAny_pyIter_listiter st.1 hQ
theorem star_lst {s : Shared} {l : Addr} {items : Array Value} {n i : Nat} {Q : List Value → Shared → Prop} (hh : A.handled = none) (hl : s.heap.IsList l items) (hi : i < n) (hn : n ≤ items.size + 1) (hz : items.size ≤ sizeLine)
    (hQ : ∀ (h' : Heap) (tk : Nat), (∀ b o, s.heap.get? b = some o → h'.get? b = some o) → Q (items.toList.take i ++ [.ref h'.objs.size] ++ (items.toList.drop i).drop (items.size - (n - 1)))
      { s with heap := h'.push { cls := .type "list", data := .seq ((items.toList.drop i).take (items.size - (n - 1))).toArray }, toks := tk }) :
    wpAny (model prog w) A (unpackItems (.ref l) n (some i)) Q E s := by
  have hne : l ≠ s.heap.objs.size := by obtain ⟨o, ho, _⟩ := hl; exact Nat.ne_of_lt (Heap.lt_size ho)
  unfold unpackItems
  refine wpAny_bind ?_
  unfold notIterableAtAll
  refine wpAny_bind (wpAny_specialOf hl.typeIs slot_list_iter.lookup ?_)
  refine wpAny_pure ?_
  simp only [Bool.false_eq_true, if_false]
  refine wpAny_bind (wpAny_holding (wpAny_pyIter_list hl ?_))
  have pk : ∀ b o, s.heap.get? b = some o → (s.heap.push { cls := .type "list_iterator", data := .fields #[.ref l, .int 0 0] }).get? b = some o := fun b o e => Heap.get?_push_of_some _ e
  have hl1 : (s.heap.push { cls := .type "list_iterator", data := .fields #[.ref l, .int 0 0] }).IsList l items := let ⟨o, ho, r⟩ := hl; ⟨o, pk _ _ ho, r⟩
  refine wpAny_bind (wpAny_holding (draw_lst hne i 0 _ _ ⟨_, Heap.get?_push_size _ rfl, rfl, rfl⟩ hl1 (by omega) fun h1 hit1 hs1 => ?_))
  rw [List.drop_zero, Nat.zero_add] at *
  have hlen : (items.toList.take i).length = i := by simp; omega
  rw [hlen, if_neg (Nat.lt_irrefl _)]
  have hl2 : h1.IsList l items := hl1.extBut hs1.extBut hne
  have lt1 : ∀ b o, h1.get? b = some o → b < h1.objs.size := fun b o e => Heap.lt_size e
  refine wpAny_bind (wpAny_holding (wpAny_collect_iter (A := A) (T := "list_iterator") (by simp) (walk_lst (A := A.in1) hh s.heap.objs.size l hne items i) (fun j s2 st => st.1.typeIs) ⟨by simpa using hit1, hl2⟩ (fun b hb => ?_) (by simp) (fun s2 acc mv hacc => ?_) (by omega)))
  · simp at hb
    rcases hb with e | e
    · rw [e]; obtain ⟨o, ho, _⟩ := hit1; exact lt1 _ _ ho
    · rw [e]; obtain ⟨o, ho, _⟩ := hl2; exact lt1 _ _ ho
  · have hacc2 : acc.toList = items.toList.drop i := by
      refine List.ext_getElem? fun j => ?_
      by_cases hj : j < acc.size
      · have := hacc.2 j acc[j] (by simp [hj])
        rw [List.getElem?_drop]
        simp at this ⊢
        rw [this]
        simp [hj]
      · have h3 := hacc.1
        rw [List.getElem?_eq_none (by simp; omega), List.getElem?_eq_none (by simp; omega)]
    rw [hacc2]
    have hl3 : (items.toList.drop i).length = items.size - i := by simp
    have hmid : (items.toList.drop i).length - (n - 1 - i) = items.size - (n - 1) := by rw [hl3]; omega
    rw [if_neg (by rw [hl3]; omega), hmid]
    refine wpAny_bind (wpAny_newList ?_ (by simp; omega))
    have kp : ∀ b o, s.heap.get? b = some o → s2.heap.get? b = some o := fun b o e => mv.heap b o (by simp; exact Nat.ne_of_lt (Heap.lt_size e)) (hs1.extBut b o (Nat.ne_of_lt (Heap.lt_size e)) (pk b o e))
    have q := hQ s2.heap s2.toks kp
    have es : s2 = { s with heap := s2.heap, toks := s2.toks } := by
      obtain ⟨h2, g2, d2, t2, o2⟩ := s2
      obtain ⟨_, m2, m3, m4, _⟩ := mv
      simp at m2 m3 m4 ⊢
      exact ⟨m2, m3, m4⟩
    rw [es]
    exact wpAny_pure q
theorem draw_tup {it l : Addr} {items : Array Value} (hne : l ≠ it) : ∀ (n i : Nat) (s : Shared) (Q : List Value → Shared → Prop), s.heap.IsTupleIter it l i → s.heap.IsTuple l items → i + n ≤ items.size →
    (∀ h', h'.IsTupleIter it l (i + n) → Heap.SameBut it s.heap h' → Q ((items.toList.drop i).take n) { s with heap := h' }) → wpAny (model prog w) A (draw (.ref it) n) Q E s
  | 0, i, s, Q, hit, _, _, hQ => by
    show wpAny _ _ (pure []) Q E s
    exact wpAny_pure (by simpa using hQ s.heap hit (Heap.SameBut.refl ..))
  | n + 1, i, s, Q, hit, ht, hle, hQ => by
    have hlt : i < items.size := by omega
    show wpAny _ _ (pyNext (.ref it) >>= _) Q E s
    refine wpAny_bind (wpAny_pyNext_tuple_item hit ht (x := items[i]) (by simp [hlt]) fun h₁ hit₁ hs₁ => ?_)
    refine wpAny_bind (wpAny_holding (draw_tup hne n (i + 1) _ _ hit₁ (ht.extBut hs₁.extBut hne) (by omega) fun h₂ hit₂ hs₂ => wpAny_pure ?_))
    have hd : items.toList.drop i = items[i] :: items.toList.drop (i + 1) := by simp [List.drop_eq_getElem_cons, hlt]
    have := hQ h₂ (by rw [show i + (n + 1) = i + 1 + n by omega]; exact hit₂) (hs₁.trans hs₂)
    rw [hd, List.take_succ_cons] at this
    exact this
theorem walk_tup (hh : A.handled = none) (it l : Addr) (hne : l ≠ it) (items : Array Value) (k : Nat) : WalksS prog w A it [it, l] [it] (fun a b => b = a) (items.size - k) (fun j v => items[k + j]? = some v) (fun j s => s.heap.IsTupleIter it l (k + j) ∧ s.heap.IsTuple l items) where
  sub := fun b hb => by simp at hb; simp [hb]
  grefl := fun _ => rfl
  gtrans := fun _ _ _ x y => y.trans x
  frame := fun i s h' tk ⟨⟨o1, a1, b1⟩, ⟨o2, a2, b2⟩⟩ _ k => ⟨⟨o1, k it (by simp) o1 a1, b1⟩, ⟨o2, k l (by simp) o2 a2, b2⟩⟩
  item := fun i s Q E hi st hQ => by
    refine wpAny_pyNext_tuple_item st.1 st.2 (x := items[k + i]'(by omega)) (by simp) fun h' hit' hs' => ?_
    exact hQ _ _ (by simp) ⟨hit', st.2.extBut hs'.extBut hne⟩ ⟨fun b o hb e => hs'.extBut b o (fun z => hb (by simp [z])) e, rfl, rfl, rfl, Nat.le_refl _⟩
  done := fun s Q E st hQ => wpAny_pyNext_tuple_end hh st.1 st.2 (by simp; omega) fun h' he' => hQ _ ⟨fun b o hb e => he' b o (fun z => hb (by simp [z])) e, rfl, rfl, rfl, Nat.le_refl _⟩
  self := fun _ _ _ _ st hQ => wpAny_pyIter_tupleiter st.1 hQ
theorem star_tup {s : Shared} {l : Addr} {items : Array Value} {n i : Nat} {Q : List Value → Shared → Prop} (hh : A.handled = none) (hl : s.heap.IsTuple l items) (hi : i < n) (hn : n ≤ items.size + 1) (hz : items.size ≤ sizeLine)
    (hQ : ∀ (h' : Heap) (tk : Nat), (∀ b o, s.heap.get? b = some o → h'.get? b = some o) → Q (items.toList.take i ++ [.ref h'.objs.size] ++ (items.toList.drop i).drop (items.size - (n - 1)))
      { s with heap := h'.push { cls := .type "list", data := .seq ((items.toList.drop i).take (items.size - (n - 1))).toArray }, toks := tk }) :
    wpAny (model prog w) A (unpackItems (.ref l) n (some i)) Q E s := by
  have hne : l ≠ s.heap.objs.size := by obtain ⟨o, ho, _⟩ := hl; exact Nat.ne_of_lt (Heap.lt_size ho)
  unfold unpackItems
  refine wpAny_bind ?_
  unfold notIterableAtAll
  refine wpAny_bind (wpAny_specialOf hl.typeIs PySem.F.slot_tuple_iter.lookup ?_)
  refine wpAny_pure ?_
  simp only [Bool.false_eq_true, if_false]
  refine wpAny_bind (wpAny_holding (wpAny_pyIter_tuple hl ?_))
  have pk : ∀ b o, s.heap.get? b = some o → (s.heap.push { cls := .type "tuple_iterator", data := .fields #[.ref l, .int 0 0] }).get? b = some o := fun b o e => Heap.get?_push_of_some _ e
  have hl1 : (s.heap.push { cls := .type "tuple_iterator", data := .fields #[.ref l, .int 0 0] }).IsTuple l items := let ⟨o, ho, r⟩ := hl; ⟨o, pk _ _ ho, r⟩
  refine wpAny_bind (wpAny_holding (draw_tup hne i 0 _ _ ⟨_, Heap.get?_push_size _ rfl, rfl, rfl⟩ hl1 (by omega) fun h1 hit1 hs1 => ?_))
  rw [List.drop_zero, Nat.zero_add] at *
  have hlen : (items.toList.take i).length = i := by simp; omega
  rw [hlen, if_neg (Nat.lt_irrefl _)]
  have hl2 : h1.IsTuple l items := hl1.extBut hs1.extBut hne
  have lt1 : ∀ b o, h1.get? b = some o → b < h1.objs.size := fun b o e => Heap.lt_size e
  refine wpAny_bind (wpAny_holding (wpAny_collect_iter (A := A) (T := "tuple_iterator") (by simp) (walk_tup (A := A.in1) hh s.heap.objs.size l hne items i) (fun j s2 st => st.1.typeIs) ⟨by simpa using hit1, hl2⟩ (fun b hb => ?_) (by simp) (fun s2 acc mv hacc => ?_) (by omega)))
  · simp at hb
    rcases hb with e | e
    · rw [e]; obtain ⟨o, ho, _⟩ := hit1; exact lt1 _ _ ho
    · rw [e]; obtain ⟨o, ho, _⟩ := hl2; exact lt1 _ _ ho
  · have hacc2 : acc.toList = items.toList.drop i := by
      refine List.ext_getElem? fun j => ?_
      by_cases hj : j < acc.size
      · have := hacc.2 j acc[j] (by simp [hj])
        rw [List.getElem?_drop]
        simp at this ⊢
        rw [this]
        simp [hj]
      · have h3 := hacc.1
        rw [List.getElem?_eq_none (by simp; omega), List.getElem?_eq_none (by simp; omega)]
    rw [hacc2]
    have hl3 : (items.toList.drop i).length = items.size - i := by simp
    have hmid : (items.toList.drop i).length - (n - 1 - i) = items.size - (n - 1) := by rw [hl3]; omega
    rw [if_neg (by rw [hl3]; omega), hmid]
    refine wpAny_bind (wpAny_newList ?_ (by simp; omega))
    have kp : ∀ b o, s.heap.get? b = some o → s2.heap.get? b = some o := fun b o e => mv.heap b o (by simp; exact Nat.ne_of_lt (Heap.lt_size e)) (hs1.extBut b o (Nat.ne_of_lt (Heap.lt_size e)) (pk b o e))
    have q := hQ s2.heap s2.toks kp
    have es : s2 = { s with heap := s2.heap, toks := s2.toks } := by
      obtain ⟨h2, g2, d2, t2, o2⟩ := s2
      obtain ⟨_, m2, m3, m4, _⟩ := mv
      simp at m2 m3 m4 ⊢
      exact ⟨m2, m3, m4⟩
    rw [es]
    exact wpAny_pure q
end
end Mi

set_option Elab.async false
set_option linter.all false
set_option autoImplicit false
set_option maxRecDepth 100000
set_option maxHeartbeats 2000000
/-! Sk2: stores, targets, what loops walk. -/
namespace Mi
open PySem L2 LamX PyProof.Rows PySem.Spec
section
variable {F : Fx} {pg : Pg} {n : Nat} {o : M D} {c : Cn} {X : Cx}
/-! ### stores -/
theorem store_of (g : GoodX F pg n o c X) {x : Str} {i : Nat} (h : c.store x = some i) : X.N[i]? = some x ∧ Loc X.env.scope x ∧ offPin F i ∧ (X.fn x = true ∨ X.env.scope.names.lookup x = some .local) := by
  unfold Cn.store at h
  by_cases k : decide (c.orc = some x) = true
  · rw [if_pos k] at h; cases h
  · rw [if_neg k] at h
    have k2 := of_decide_eq_false (by simpa using k : decide (c.orc = some x) = false)
    have go : ixOf x c.N 0 = some i → X.N[i]? = some x ∧ offPin F i := fun e => by
      obtain ⟨q, e1, e2⟩ := ixOf_get e
      have hi : c.N[i]? = some x := by rw [e1]; simpa using e2
      refine ⟨by rw [g.hN]; exact hi, fun z hz ez => ?_⟩
      obtain ⟨y, h1, h2⟩ := g.pin z hz
      rw [← ez, hi] at h2
      cases h2
      exact k2 h1
    have gk : c.kind x = X.env.scope.names.lookup x := by rw [g.sc]; rfl
    cases q : c.kind x with
    | none => rw [q] at h; cases h
    | some kk =>
      rw [q] at h
      cases kk with
      | «local» =>
        obtain ⟨a, b⟩ := go h
        exact ⟨a, .inl (by rw [← gk]; exact q), b, .inr (by rw [← gk]; exact q)⟩
      | cell =>
        have h : (if (c.blk && !decide (x ∈ c.own)) = true then none else ixOf x c.N 0) = some i := h
        by_cases kb : (c.blk && !decide (x ∈ c.own)) = true
        · rw [if_pos kb] at h; cases h
        · rw [if_neg kb] at h
          obtain ⟨a, b⟩ := go h
          refine ⟨a, .inr (by rw [← gk]; exact q), b, .inl ?_⟩
          by_cases ko : x ∈ c.own
          · exact g.own x ko
          · exact g.fnl (by simpa [ko] using kb) x
      | _ => cases h

/-- what storing at slots does -/
def gsOf : List Nat → TGs
  | [] => gNil
  | i :: is => gCons (gName i) (gsOf is)
def tgOf (K : PySem.W.Frag) : Tg → TG
  | .one i => gName i
  | .many is => gTup K is.length (gsOf is)
/-- only some slots were stored -/
def OnlyAt (is : List Nat) (s s1 : L2.St) : Prop := s1.length = s.length ∧ ∀ j, j ∉ is → s1[j]? = s[j]?
def slotsOf : Tg → List Nat
  | .one i => [i]
  | .many is => is
theorem OnlyAt.rfl' (is : List Nat) (s : L2.St) : OnlyAt is s s := ⟨rfl, fun _ _ => rfl⟩
theorem tgs_pg (g : GoodX F pg n o c X) : ∀ {ts : List Expr} {is : List Nat}, cTg c ts = some is → PGs X ts (gsOf is) ∧ (assignEach ts X.env).length = is.length ∧ (assignEach ts X.env).findIdx? (·.1) = none
  | [], is, h => by
    cases h
    exact ⟨pgs_nil, rfl, rfl⟩
  | .Name x p :: ts, is, h => by
    have h : (match c.store x, cTg c ts with | some i, some is => some (i :: is) | _, _ => none) = some is := h
    cases e1 : c.store x with
    | none => rw [e1] at h; cases h
    | some i =>
      cases e2 : cTg c ts with
      | none => rw [e1, e2] at h; cases h
      | some js =>
        rw [e1, e2] at h
        cases h
        obtain ⟨h2, h3, h4, h5⟩ := store_of g e1
        obtain ⟨g1, g2, g3⟩ := tgs_pg g e2
        have he : assignEach (.Name x p :: ts) X.env = (false, assign (.Name x p) X.env) :: assignEach ts X.env := rfl
        refine ⟨pgs_cons (pg_name (by rw [g.hN]; exact g.nd) h2 h3 h5) g1 (by rw [he]; rfl), by rw [he]; simp [g2], ?_⟩
        rw [he, List.findIdx?_cons, g3]
        rfl
theorem tgs_off (g : GoodX F pg n o c X) : ∀ {ts : List Expr} {is : List Nat}, cTg c ts = some is → ∀ i ∈ is, offPin F i
  | [], is, h => by
    cases h
    intro i hi
    cases hi
  | .Name x p :: ts, is, h => by
    have h : (match c.store x, cTg c ts with | some i, some is => some (i :: is) | _, _ => none) = some is := h
    cases e1 : c.store x with
    | none => rw [e1] at h; cases h
    | some i =>
      cases e2 : cTg c ts with
      | none => rw [e1, e2] at h; cases h
      | some js =>
        rw [e1, e2] at h
        cases h
        intro j hj
        rcases List.mem_cons.mp hj with e | e
        · rw [e]; exact (store_of g e1).2.2.1
        · exact tgs_off g e2 j e
theorem gs_run : ∀ {is : List Nat} {p : Rho} {H : Hp} {f f1 : Fr} {s : L2.St} {ds : List D} {vs : List V} {Q : L2.St → Hp → Prop}, (∀ i ∈ is, offPin F i) →
    F.DRs p H ds vs → FR F p H f s → setMany is ds f = some f1 → (∀ s1, FR F p H f1 s1 → OnlyAt is s s1 → Q s1 H) → gsOf is vs s H Q
  | [], p, H, f, f1, s, ds, vs, Q, ho, rs, fr, hs, k => by
    cases rs with
    | nil => cases hs; exact ⟨rfl, k _ fr (OnlyAt.rfl' _ _)⟩
    | cons _ _ => cases hs
  | i :: is, p, H, f, f1, s, ds, vs, Q, ho, rs, fr, hs, k => by
    cases rs with
    | nil => cases hs
    | cons a b =>
      refine ⟨_, _, rfl, gs_run (fun j hj => ho j (List.mem_cons_of_mem _ hj)) b (fr.set i (ho i List.mem_cons_self) a) hs fun s1 fr1 oa => k s1 fr1 ⟨by rw [oa.1, List.length_set], fun j hj => ?_⟩⟩
      rw [oa.2 j (fun z => hj (List.mem_cons_of_mem _ z)), List.getElem?_set_ne (fun z => hj (by rw [z]; exact List.mem_cons_self))]
theorem many_len : ∀ {is : List Nat} {ds : List D} {f f2 : Fr}, setMany is ds f = some f2 → ds.length = is.length
  | [], ds, f, f2, h => by cases ds with | nil => rfl | cons _ _ => cases h
  | i :: is, ds, f, f2, h => by
    cases ds with
    | nil => cases h
    | cons d ds =>
      have h : setMany is ds (f.set i (some d)) = some f2 := h
      rw [List.length_cons, List.length_cons, many_len h]
/-- a loop's target -/
theorem tg_pg (g : GoodX F pg n o c X) {tg : Expr} {t : Tg} (h : cForTg c tg = some t) : PG X tg (tgOf X.K t) ∧ ∀ i ∈ slotsOf t, offPin F i := by
  cases tg with
  | Name x pos =>
    have h : (c.store x).map Tg.one = some t := h
    cases e : c.store x with
    | none => rw [e] at h; cases h
    | some i =>
      rw [e] at h
      cases h
      obtain ⟨h2, h3, h4, h5⟩ := store_of g e
      refine ⟨pg_name (by rw [g.hN]; exact g.nd) h2 h3 h5, fun j hj => ?_⟩
      rw [List.mem_singleton.mp hj]
      exact h4
  | Tuple ts k1 pos =>
    have h : (cTg c ts).map Tg.many = some t := h
    cases e : cTg c ts with
    | none => rw [e] at h; cases h
    | some is =>
      rw [e] at h
      cases h
      obtain ⟨g1, g2, g3⟩ := tgs_pg g e
      exact ⟨pg_tup g.calm g1 g2 g3, tgs_off g e⟩
  | _ => cases h
theorem tg_run {K : PySem.W.Frag} (hK : F.K = K) {t : Tg} {p : Rho} {H : Hp} {f f1 : Fr} {s : L2.St} {d : D} {v : V} {Q : L2.St → Hp → Prop} (ho : ∀ i ∈ slotsOf t, offPin F i) (r : F.DR p H d v) (fr : FR F p H f s) (hs : setTg t d f = some f1) (k : ∀ s1, FR F p H f1 s1 → OnlyAt (slotsOf t) s s1 → Q s1 H) : tgOf K t v s H Q := by
  cases t with
  | one i =>
    cases hs
    refine k _ (fr.set i (ho i List.mem_cons_self) r) ⟨by simp, fun j hj => ?_⟩
    rw [List.getElem?_set_ne (fun z => hj (by rw [z]; exact List.mem_cons_self))]
  | many is =>
    cases d with
    | tup ds =>
      cases r with
      | tup hq rs =>
        have hs : setMany is ds f = some f1 := hs
        exact ⟨_, _, rfl, by rw [← hK]; exact hq, by rw [← rs.length, many_len hs], gs_run ho rs fr hs k⟩
    | _ => cases hs
/-- the walk of J is that of cur, from p0, H0 on -/
def Walks (F : Fx) (p0 : Rho) (H0 : Hp) (J : It) (cur : Cur) : Prop := ∀ p h H i, Step p0 H0 p H → F.HR p h H → match cur h i with
  | none => True
  | some none => J.stop i H
  | some (some d) => J.go i H ∧ ∀ x H', J.yld i H x H' → Step p H p H' ∧ F.HR p h H' ∧ F.DR p H' d x
theorem walk_same {p : Rho} {h : Sto} {H H' : Hp} {d : D} {x : V} (e : H' = H) (hr : F.HR p h H) (r : F.DR p H d x) : Step p H p H' ∧ F.HR p h H' ∧ F.DR p H' d x := by
  subst e
  exact ⟨Step.rfl' _ _, hr, r⟩
theorem walks_seqL {p0 : Rho} {H0 : Hp} {a : Addr} {cur : Cur} (h : ∀ p h H i, Step p0 H0 p H → F.HR p h H → match cur h i with
    | none => True
    | some r => ∃ ds vs, SqL F.K H a vs ∧ F.DRs p H ds vs ∧ r = ds[i]? ∧ ∀ xs, SqL F.K H a xs → xs = vs) : Walks F p0 H0 (Itl F.K a) cur := by
  intro p h0 H i st hr
  have := h p h0 H i st hr
  cases e : cur h0 i with
  | none => trivial
  | some r =>
    rw [e] at this
    obtain ⟨ds, vs, q1, q2, q3, q4⟩ := this
    cases e2 : ds[i]? with
    | none =>
      rw [e2] at q3
      subst q3
      exact ⟨vs, q1, by rw [← q2.length]; exact List.getElem?_eq_none_iff.mp e2⟩
    | some d =>
      rw [e2] at q3
      subst q3
      obtain ⟨v, h1, h2⟩ := q2.get e2
      refine ⟨⟨vs, v, q1, h1⟩, fun x H' ⟨hH, hx⟩ => walk_same hH hr ?_⟩
      have := hx vs q1
      rw [h1] at this
      cases this
      exact h2
theorem walks_tup {p0 : Rho} {H0 : Hp} {a : Addr} {ds : List D} {vs : List V} (hq : SqT F.K H0 a vs) (rs : F.DRs p0 H0 ds vs) : Walks F p0 H0 (Itt F.K a) (fun _ i => some ds[i]?) := by
  intro p h0 H i st hr
  have q1 := st.tup hq
  have q2 := rs.mono st
  dsimp only
  cases e2 : ds[i]? with
  | none => exact ⟨vs, q1, by rw [← q2.length]; exact List.getElem?_eq_none_iff.mp e2⟩
  | some d =>
    obtain ⟨v, h1, h2⟩ := q2.get e2
    refine ⟨⟨vs, v, q1, h1⟩, fun x H' ⟨hH, hx⟩ => walk_same hH hr ?_⟩
    have := hx vs q1
    rw [h1] at this
    cases this
    exact h2
theorem walks_fl {p0 : Rho} {H0 : Hp} {a : Addr} {ds : List D} {vs : List V} (hq : SqF F.K H0 a vs) (rs : F.DRs p0 H0 ds vs) : Walks F p0 H0 (Itl F.K a) (fun _ i => some ds[i]?) := by
  intro p h0 H i st hr
  have q1 := (st.fl hq).seq
  have q2 := rs.mono st
  dsimp only
  cases e2 : ds[i]? with
  | none => exact ⟨vs, q1, by rw [← q2.length]; exact List.getElem?_eq_none_iff.mp e2⟩
  | some d =>
    obtain ⟨v, h1, h2⟩ := q2.get e2
    refine ⟨⟨vs, v, q1, h1⟩, fun x H' ⟨hH, hx⟩ => walk_same hH hr ?_⟩
    have := hx vs q1
    rw [h1] at this
    cases this
    exact h2
theorem walks_lst {p0 : Rho} {H0 : Hp} {l : Nat} {a : Addr} (ha : p0[l]? = some a) : Walks F p0 H0 (Itl F.K a) (fun h i => match h[l]? with
    | some (.lst ds) => some ds[i]?
    | _ => none) := by
  intro p h0 H i st hr
  dsimp only
  cases e : h0[l]? with
  | none => trivial
  | some ob =>
    cases ob with
    | lst ds =>
      obtain ⟨vs, q1, q2⟩ := hr.obj l _ a e (st.get ha)
      dsimp only
      cases e2 : ds[i]? with
      | none => exact ⟨vs, SqL.of q1, by rw [← q2.length]; exact List.getElem?_eq_none_iff.mp e2⟩
      | some d =>
        obtain ⟨v, h1, h2⟩ := q2.get e2
        refine ⟨⟨vs, v, SqL.of q1, h1⟩, fun x H' ⟨hH, hx⟩ => walk_same hH hr ?_⟩
        have := hx vs (SqL.of q1)
        rw [h1] at this
        cases this
        exact h2
    | dct _ => trivial
    | ins _ _ => trivial
theorem walks_str {p0 : Rho} {H0 : Hp} {s : List Nat} (ok : okS s) : Walks F p0 H0 (Its (toS s)) (fun _ i => some (s[i]?.map fun c => .str [c])) := by
  intro p h0 H i st hr
  dsimp only
  cases e : s[i]? with
  | none =>
    show (toS s).cps.size ≤ i
    have := List.getElem?_eq_none_iff.mp e
    simpa using this
  | some ch =>
    have hi := (List.getElem?_eq_some_iff.mp e).1
    refine ⟨by show i < (toS s).cps.size; simpa using hi, fun x H' ⟨hH, cc, h1, h2⟩ => walk_same hH hr ?_⟩
    have h1 : s[i]? = some cc := by simpa using h1
    rw [e] at h1
    cases h1
    rw [h2]
    exact .str (okS.one (ok.2 ch (List.mem_of_getElem? e)))
theorem walks_rng {p0 : Rho} {H0 : Hp} {a b : Int} : Walks F p0 H0 (Itr a (b - a).toNat) (fun _ i => some (if a + (i : Int) < b then some (.int (a + i)) else none)) := by
  intro p h0 H i st hr
  dsimp only
  by_cases k : a + (i : Int) < b
  · rw [if_pos k]
    refine ⟨by show i < (b - a).toNat; omega, fun x H' ⟨hH, hx⟩ => walk_same hH hr ?_⟩
    rw [hx]
    exact .int _
  · rw [if_neg k]
    show (b - a).toNat ≤ i
    omega
/-- what a source gives -/
def tI (F : Fx) (W : WX) (k : SrcK) (m : Fr → M (List D)) : TI := fun s H R => tX F W F.DRs m s H fun vs H1 => ∃ p h ds cur, F.HR p h H1 ∧ F.DRs p H1 ds vs ∧ curOf h k ds = some cur ∧ ∀ J, Walks F p H1 J cur → R J H1
theorem pi_val (hK : F.K = X.K) {e : Expr} {x : E} {tg : Expr} {W : WX} (he : PE X e (tE F W (evE (gE pg n o) x))) : PI X tg e (tI F W .val (evA (gE pg n o) (.cons x .nil))) := by
  refine ⟨fun pins s σ H R I q => ?_⟩
  obtain ⟨p, f, h, fr, hr, pd⟩ := q
  rw [evA] at pd
  refine thn (he.run pins s σ H (fun v H1 => ∃ p1 h1 d cur, F.HR p1 h1 H1 ∧ F.DR p1 H1 d v ∧ curOf h1 .val [d] = some cur ∧ ∀ J, Walks F p1 H1 J cur → R J H1) I ⟨p, f, h, fr, hr, px_bnd pd fun p1 h1 d v H1 st1 hr1 r1 pd1 => ?_⟩) fun u s1 ⟨v, H1, I1, r1, q1⟩ => ?_
  · rw [evA] at pd1
    have pd1 : PX F F.DRs p1 H1 (ret [d] h1) (fun vs H1 => ∃ p h ds cur, F.HR p h H1 ∧ F.DRs p H1 ds vs ∧ curOf h .val ds = some cur ∧ ∀ J, Walks F p H1 J cur → R J H1) (zE F W σ) := pd1
    obtain ⟨p2, h2, ds, cur, hr2, rs, hc, k⟩ := px_ret (R := F.DRs) (v := [v]) pd1 hr1 (.cons r1 .nil)
    match ds, rs, hc with
    | [d2], rs, hc =>
      obtain ⟨w, e, r2⟩ := rs.one
      cases e
      exact ⟨p2, h2, d2, cur, hr2, r2, hc, k⟩
  · obtain ⟨p1, h1, d, cur, hr1, rd, hc, k⟩ := q1
    have lsts : ∀ {a : Addr} {xs : List V}, v = .ref a → SqL X.K H1 a xs → R (Itl X.K a) H1 → wpAny (model X.prog X.w) X.A (pyIter u) (PIE X pins σ tg R) X.xe s1 := fun {a xs} ev hq q => by
      subst ev
      cases r1
      obtain ⟨its, rv, p, hz⟩ := I1.list hq
      refine wpAny_pyIter_list p.isList ?_
      refine ⟨s1.heap.objs.size, [s1.heap.objs.size], _, _, H1, rfl, I1.kept (t' := s1.toks) fun b o e => Heap.get?_push_of_some _ e, turn_list a _, ⟨_, Heap.get?_push_size _ rfl, rfl, rfl⟩, fun b hb => ?_, q⟩
      have e : b = s1.heap.objs.size := by simpa using hb
      subst e
      exact I1.fpOk (Nat.le_refl _) (I1.hok.fresh (Nat.le_refl _))
    cases d with
    | tup ds =>
      cases hc
      cases rd with
      | tup hq rs =>
        rename_i vs a
        have q := k _ (walks_tup hq rs)
        rw [hK] at hq q
        cases r1
        obtain ⟨its, rv, p, hz⟩ := I1.tuple hq
        refine wpAny_pyIter_tuple (show s1.heap.IsTuple a its.toArray from p) ?_
        refine ⟨s1.heap.objs.size, [s1.heap.objs.size], _, _, H1, rfl, I1.kept (t' := s1.toks) fun b o e => Heap.get?_push_of_some _ e, turn_tuple a _, ⟨_, Heap.get?_push_size _ rfl, rfl, rfl⟩, fun b hb => ?_, q⟩
        have e : b = s1.heap.objs.size := by simpa using hb
        subst e
        exact I1.fpOk (Nat.le_refl _) (I1.hok.fresh (Nat.le_refl _))
    | fl ds =>
      cases hc
      cases rd with
      | fl hq rs =>
        have q := k _ (walks_fl hq rs)
        have hq := hq.seq
        rw [hK] at hq q
        exact lsts rfl hq q
    | ref l =>
      have hc : (match h1[l]? with
        | some (.lst _) => some (fun (h : Sto) (i : Nat) => match h[l]? with
          | some (.lst ds) => some ds[i]?
          | _ => none)
        | _ => none) = some cur := hc
      cases e1 : h1[l]? with
      | none => rw [e1] at hc; cases hc
      | some ob =>
        obtain ⟨a, e3, e4, or_⟩ := DR.ref_at hr1 rd e1
        subst e3
        rw [e1] at hc
        cases ob with
        | lst ds =>
          cases hc
          obtain ⟨vs, q1, q2⟩ := or_
          have q := k _ (walks_lst e4)
          rw [hK] at q
          exact lsts rfl (SqL.of q1) q
        | _ => cases hc
    | str z =>
      cases hc
      cases rd with
      | str ok =>
        have q := k _ (walks_str ok)
        obtain ⟨t, rfl⟩ := r1
        cases ha : (toS z).cps.all (· < 128)
        · exact wpAny_pyIter_wide ha (pi_one (tk := s1.toks) I1 _ (turn_str _ (toS z) t "str_iterator" (.inr rfl)) ⟨_, Heap.get?_push_size _ rfl, rfl, rfl⟩ q)
        · exact wpAny_pyIter_ascii ha (pi_one (tk := s1.toks) I1 _ (turn_str _ (toS z) t "str_ascii_iterator" (.inl rfl)) ⟨_, Heap.get?_push_size _ rfl, rfl, rfl⟩ q)
    | _ => cases hc

theorem pi_rng (g : GoodX F pg n o c X) {f : Expr → Option E} (ih : ∀ e x, f e = some x → OkE F pg n o X e x) {args : List Expr} {as : Es} {k : SrcK} {p pos : Pos} {tg : Expr} {W : WX} (tk : L2.Takes X W) (hg : c.glo "range" = true)
    (h : (k = .rng1 ∧ args.length = 1) ∨ (k = .rng2 ∧ args.length = 2)) (h2 : cAs f args = some as) : PI X tg (.Call (.Name "range" p) args [] pos) (tI F W k (evA (gE pg n o) as)) := by
  obtain ⟨g1, g2⟩ := glo_of g hg
  have hm := g.st.bt "range" (by decide +kernel)
  have ha := oka_of ih h2 W tk
  have weak : ∀ {wi wi' : TI} {it : Expr}, PI X tg it wi → (∀ s H R, wi' s H R → wi s H R) → PI X tg it wi' := fun h i => ⟨fun pins s σ H R I x => h.run pins s σ H R I (i _ _ _ x)⟩
  have stars : ∀ {e : Expr} {es : List Expr} {y : Es}, cAs f (e :: es) = some y → noStar e = true := fun {e es y} h => by
    unfold cAs at h
    by_cases k : noStar e = true
    · exact k
    · rw [if_neg k] at h; cases h
  rcases h with ⟨rfl, hl⟩ | ⟨rfl, hl⟩
  · obtain ⟨a, rfl⟩ : ∃ a, args = [a] := by
      match args, hl with
      | [a], _ => exact ⟨a, rfl⟩
    refine weak (pi_range1 g1 hm ha (star_of (stars h2))) fun s H R ⟨p, f, h, fr, hr, pd⟩ => ⟨p, f, h, fr, hr, ?_⟩
    cases e : evA (gE pg n o) as f h with
    | bad => rw [e] at pd; exact pd
    | exn k h1 => rw [e] at pd; exact pd
    | ok ds h1 =>
      rw [e] at pd
      intro p1 H1 vs st hr1 r1
      obtain ⟨p2, h2, es, cur, hr2, rs, hc, k⟩ := pd p1 H1 vs st hr1 r1
      match es, rs, hc with
      | [.int j], rs, hc =>
        obtain ⟨v, rfl, rv⟩ := rs.one
        cases rv
        have hc : (if -(2 ^ 62) ≤ j ∧ j < 2 ^ 62 then some (fun (_ : Sto) (i : Nat) => some (if (i : Int) < j then some (D.int i) else none)) else none) = some cur := hc
        by_cases q : -(2 ^ 62) ≤ j ∧ j < 2 ^ 62
        · rw [if_pos q] at hc
          cases hc
          refine ⟨j, rfl, q.1, q.2, k _ ?_⟩
          have w := walks_rng (F := F) (p0 := p2) (H0 := H1) (a := 0) (b := j)
          simpa using w
        · rw [if_neg q] at hc; cases hc
  · obtain ⟨a, b, rfl⟩ : ∃ a b, args = [a, b] := by
      match args, hl with
      | [a, b], _ => exact ⟨a, b, rfl⟩
    have hb2 : noStar b = true := by
      unfold cAs at h2
      rw [if_pos (stars (es := [b]) (y := as) (by unfold cAs; exact h2))] at h2
      cases e1 : f a with
      | none => rw [e1] at h2; cases h2
      | some y =>
        cases e2 : cAs f [b] with
        | none => rw [e1, e2] at h2; cases h2
        | some z => exact stars e2
    have s1 : starEach [b] X.env = [(false, eval b X.env)] := star_of hb2
    have s2 : starEach [a, b] X.env = [(false, eval a X.env), (false, eval b X.env)] := by rw [star_of (stars h2), s1]
    refine weak (pi_range2 g1 hm ha s2 s1) fun s H R ⟨p, f, h, fr, hr, pd⟩ => ⟨p, f, h, fr, hr, ?_⟩
    cases e : evA (gE pg n o) as f h with
    | bad => rw [e] at pd; exact pd
    | exn k h1 => rw [e] at pd; exact pd
    | ok ds h1 =>
      rw [e] at pd
      intro p1 H1 vs st hr1 r1
      obtain ⟨p2, h2, es, cur, hr2, rs, hc, k⟩ := pd p1 H1 vs st hr1 r1
      match es, rs, hc with
      | [.int i, .int j], rs, hc =>
        obtain ⟨v, w, rfl, rv, rw'⟩ := rs.two
        cases rv
        cases rw'
        have hc : (if -(2 ^ 62) ≤ i ∧ i < 2 ^ 62 ∧ -(2 ^ 62) ≤ j ∧ j < 2 ^ 62 then some (fun (_ : Sto) (q : Nat) => some (if i + (q : Int) < j then some (D.int (i + q)) else none)) else none) = some cur := hc
        by_cases q : -(2 ^ 62) ≤ i ∧ i < 2 ^ 62 ∧ -(2 ^ 62) ≤ j ∧ j < 2 ^ 62
        · rw [if_pos q] at hc
          cases hc
          exact ⟨i, j, rfl, q, k _ walks_rng⟩
        · rw [if_neg q] at hc; cases hc

end
end Mi

set_option Elab.async false
set_option linter.all false
set_option autoImplicit false
set_option maxRecDepth 100000
set_option maxHeartbeats 2000000
/-! Sk3: list comprehensions keep their result. -/
namespace Mi
open PySem L2 LamX PyProof.Rows PySem.Spec
section
variable {F : Fx} {pg : Pg} {n : Nat} {o : M D} {c : Cn} {X : Cx}
/-! ### the block's slots -/
theorem wipe_at {s : L2.St} {j : Nat} : ∀ {vs : List Nat}, j ∈ vs → j < s.length → (wipe s vs)[j]? = some none
  | [], h, _ => by cases h
  | v :: vs, h, hl => by
    unfold wipe
    by_cases e : v = j
    · rw [e, List.getElem?_set_self (by rw [wipe_length]; exact hl)]
    · rw [List.getElem?_set_ne e]
      rcases List.mem_cons.mp h with q | q
      · exact absurd q.symm e
      · exact wipe_at q hl
theorem wipe_only {s s1 : L2.St} {is vs : List Nat} (h : OnlyAt is (wipe s vs) s1) (hs : ∀ i ∈ is, i ∈ vs) : wipe s1 vs = wipe s vs := by
  refine List.ext_getElem? fun j => ?_
  have hl : s1.length = s.length := by rw [h.1, wipe_length]
  by_cases e : j ∈ vs
  · by_cases l : j < s.length
    · rw [wipe_at e l, wipe_at e (by rw [hl]; exact l)]
    · rw [List.getElem?_eq_none (by rw [wipe_length, hl]; omega), List.getElem?_eq_none (by rw [wipe_length]; omega)]
  · rw [wipe_out e, h.2 j (fun z => e (hs j z))]
theorem FR.wipes {p : Rho} {H : Hp} {f : Fr} {s : L2.St} (x : FR F p H f s) : ∀ {vs : List Nat}, (∀ i ∈ vs, offPin F i) → FR F p H (wipeF f vs) (L2.wipe s vs)
  | [], _ => x
  | v :: vs, h => (FR.wipes x fun i hi => h i (List.mem_cons_of_mem _ hi)).wipe v (h v List.mem_cons_self) none
/-- within a comprehension's block -/
theorem Stat.blk {base : Heap} {mg : Str → Option Value} {sc : Scope} (x : Stat F pg base mg c) : Stat F pg base mg (cnBlk c sc) :=
  ⟨fun i d h => let y := x.dfs i d h; ⟨y.kwo, y.glo, y.fn, y.kp, y.po, y.va, y.kwa, y.ps, y.kn, y.sc, y.orc, y.body⟩, x.con, x.bt, x.exc⟩
theorem GoodX.blk (g : GoodX F pg n o c X) {scope : Scope} {own : List (Str × Nat)} (ok : BlkOk X.N X.env.scope scope own) (s : Shared) (H : Hp) (C : Addr) (cl : List (Str × Addr)) (fp : List Addr) :
    GoodX F pg n o (cnBlk c scope) (X.blk s H scope (compEnvC scope cl C X.env) fp) := by
  have no : ∀ {P : Prop}, (cnBlk c scope).blk = false → P := fun z => absurd (show true = false from z) (by decide)
  refine { hN := g.hN, nd := g.nd, sc := ?_, hK := g.hK, calm := g.calm, room := g.room, bk := ?_, st := g.st.blk, calls := fun m hm i d h => g.calls m hm i d h, fnl := fun z => no z, orc := fun x _ z => no z, pin := g.pin, own := fun x hx => (List.mem_filter.mp hx).2, lam := fun z => g.lam z, po := fun z => no z, fr := fun z => no z }
  · show relS scope X.env.scope = relS scope c.sc
    rw [g.sc]
  · have hk : (compEnvC scope cl C X.env).scope.kind = .function := ok.kind
    show (compEnvC scope cl C X.env).blockKind = .function
    unfold Env.blockKind
    rw [hk]
    rfl
/-- no exception leaves the block -/
abbrev noW : WX := fun _ _ _ _ => False
theorem takes_blk {scope : Scope} {s : Shared} {H : Hp} {C : Addr} {cl : List (Str × Addr)} {fp : List Addr} : Takes (X.blk s H scope (compEnvC scope cl C X.env) fp) noW := fun u s' x => by
  obtain ⟨_, _, _, _, _, _, _, _, _, _, _, _, _, _, _, _, w⟩ := x
  exact w.elim
theorem setIt_of {e : Expr} {env : Env} (h : noSetIt e = true) (x : Value) : foldedSetIterable e env x = pure x := by
  cases e <;> first | rfl | (cases h)
theorem src_of (g : GoodX F pg n o c X) {k : Nat} (ih : ∀ e x, cE k c e = some x → OkE F pg n o X e x) {it : Expr} {sk : SrcK} {as : Es} (h : cSrcF (cE k c) c it = some (sk, as)) {tg : Expr} : (∀ W, Takes X W → PI X tg it (tI F W sk (evA (gE pg n o) as))) ∧ ∀ x, foldedSetIterable it X.env x = pure x := by
  have val : ∀ {e : Expr}, noSetIt e = true → (cE k c e).map (fun e => (SrcK.val, Es.cons e .nil)) = some (sk, as) → (∀ W, Takes X W → PI X tg e (tI F W sk (evA (gE pg n o) as))) ∧ ∀ x, foldedSetIterable e X.env x = pure x := fun {e} hs h => by
    cases e1 : cE k c e with
    | none => rw [e1] at h; cases h
    | some y =>
      rw [e1] at h
      cases h
      exact ⟨fun W tk => pi_val g.hK (ih e y e1 W tk), setIt_of hs⟩
  unfold cSrcF at h
  split at h
  · rename_i x p args kws q
    split at h
    · rename_i hx
      have hx := of_decide_eq_true hx
      subst hx
      split at h
      · rename_i k0
        obtain ⟨k1, k2⟩ := Bool.and_eq_true_iff.mp k0
        have hk : kws = [] := by cases kws with | nil => rfl | cons _ _ => cases k1
        subst hk
        split at h
        · rename_i a
          cases e1 : cAs (cE k c) [a] with
          | none => rw [e1] at h; cases h
          | some ys =>
            rw [e1] at h
            cases h
            exact ⟨fun W tk => pi_rng g ih tk k2 (.inl ⟨rfl, rfl⟩) e1, setIt_of rfl⟩
        · rename_i a b
          cases e1 : cAs (cE k c) [a, b] with
          | none => rw [e1] at h; cases h
          | some ys =>
            rw [e1] at h
            cases h
            exact ⟨fun W tk => pi_rng g ih tk k2 (.inr ⟨rfl, rfl⟩) e1, setIt_of rfl⟩
        · cases h
      · cases h
    · exact val rfl h
  · split at h
    · rename_i k0
      exact val k0 h
    · cases h
theorem lc_on {own : List Nat} {t : Tg} {k : SrcK} {as : Es} {x y : E} {W : WX} {s : L2.St} {H : Hp} {Q : VK} (hK : F.K = X.K) (ht : ∀ i ∈ slotsOf t, i ∈ own) (ho : ∀ i ∈ own, offPin F i)
    (q : tE F W (evE (gE pg n o) (.lc t k as x y own)) s H Q) : tLc (tI F W k (evA (gE pg n o) as)) (tgOf X.K t) (tT F noW (evT (gE pg n o) x)) (tE F noW (evE (gE pg n o) y)) own s H Q := by
  obtain ⟨p, f, h, fr, hr, pd⟩ := q
  refine ⟨p, f, h, fr, hr, px_bnd pd fun p1 h1 ds vs H1 st1 hr1 r1 pd1 => ?_⟩
  have pd1 : PD F p1 H1 (match curOf h1 k ds with
    | none => .bad
    | some cur => bnd (lcL cur t own (evT (gE pg n o) x) (evE (gE pg n o) y) f pg.wf 0 []) (fun acc => alloc (.lst acc)) h1) Q (zE F W s) := pd1
  cases ec : curOf h1 k ds with
  | none => rw [ec] at pd1; exact pd1.elim
  | some cur =>
    rw [ec] at pd1
    refine ⟨p1, h1, ds, cur, hr1, r1, ec, fun J hJ D hD => ?_⟩
    have fr1 := fr.mono st1
    have lst_ok : ∀ {vs : List V}, ∀ u, (some (HO.lst vs) : Option HO) = some u → ¬ immut u ∧ noTbl u ∧ ∀ c n, u ≠ LamX.CodeO c n := fun {vs} u e => by
      cases e
      exact ⟨id, trivial, fun _ _ z => by unfold LamX.CodeO at z; cases z⟩
    -- the new list at D, not in the store yet
    refine ⟨fun i m H => ∃ p h acc vs, Step p1 H1 p H ∧ F.HR p h H ∧ D ∉ p ∧ H D = some (.lst vs) ∧ F.DRs p H acc vs ∧ acc.length ≤ lim ∧ PD F p1 H1 (bnd (lcL cur t own (evT (gE pg n o) x) (evE (gE pg n o) y) f m i acc) (fun acc => alloc (.lst acc)) h) Q (zE F W s),
      ⟨pg.wf, p1, h1, [], [], step_new hD, hr1.fresh hD, hr1.notin hD, upd_same, .nil, Nat.zero_le _, pd1⟩, fun i m H ⟨p, h, acc, vs, st, hr, hn, hv, rs, hl, pd⟩ => ?_⟩
    cases m with
    | zero => exact (show False from pd).elim
    | succ m =>
      have w := hJ p h H i st hr
      unfold bnd at pd
      unfold lcL at pd
      cases e : cur h i with
      | none => simp only [e] at pd; exact (show False from pd).elim
      | some r =>
        rw [e] at w
        simp only [e] at pd
        cases r with
        | none =>
          refine .inl ⟨w, ?_⟩
          have stD : Step p1 H1 (p ++ [D]) (upd H D (.lst vs)) := st.claim hD
          have eH : upd H D (.lst vs) = H := by
            funext a
            by_cases z : a = D
            · rw [z, upd_same, hv]
            · rw [upd_ne z]
          have hrD : F.HR (p ++ [D]) (h ++ [.lst acc]) (upd H D (.lst vs)) := hr.claim hn (by rw [hv]; exact lst_ok) trivial ⟨vs, upd_same, rs.monoE (Ste.upd fun u eu => (lst_ok (vs := vs) u (by rw [← eu, hv])).1)⟩
          rw [eH] at stD hrD
          exact pd (p ++ [D]) H (.ref D) stD hrD (.ref (by rw [← hr.len]; simp))
        | some d =>
          refine .inr ⟨w.1, fun H' => ∃ p h acc vs, Step p1 H1 p H' ∧ F.HR p h H' ∧ D ∉ p ∧ H' D = some (.lst vs) ∧ F.DRs p H' acc vs ∧ acc.length ≤ lim ∧ PD F p1 H1 (bnd (lcL cur t own (evT (gE pg n o) x) (evE (gE pg n o) y) f m (i + 1) acc) (fun acc => alloc (.lst acc)) h) Q (zE F W s), fun H' q => ⟨m, Nat.lt_succ_self m, q⟩, fun z H2 hy => ?_⟩
          obtain ⟨st2, hr2, rd⟩ := w.2 z H2 hy
          dsimp only at pd
          have stt2 := st.trans st2
          cases e2 : setTg t d (wipeF f own) with
          | none => rw [e2] at pd; exact (show False from pd).elim
          | some f1 =>
            rw [e2] at pd
            dsimp only at pd
            have frw : FR F p H2 (wipeF f own) (L2.wipe s own) := (fr1.mono stt2).wipes ho
            refine tg_run hK (fun j hj => ho j (ht j hj)) rd frw e2 fun s2 fr2 oa => ⟨wipe_only oa ht, p, f1, h, fr2, hr2, ?_⟩
            have keepD : ∀ {p' : Rho} {H' : Hp}, Step p H p' H' → D ∉ p' ∧ H' D = some (.lst vs) := fun {p' H'} s3 => by
              refine ⟨?_, s3.keep D _ hv (.inr hn) trivial⟩
              obtain ⟨m3, e3, f3⟩ := s3.ext
              rw [e3]
              intro hm
              rcases List.mem_append.mp hm with q | q
              · exact hn q
              · exact f3 D q _ hv trivial
            cases e3 : evT (gE pg n o) x f1 h with
            | bad => rw [e3] at pd; exact (show False from pd).elim
            | exn k2 h2 => rw [e3] at pd; exact (show False from pd).elim
            | ok b h2 =>
              rw [e3] at pd
              intro p3 H3 v3 st3 hr3 r3
              cases (show v3 = b from r3)
              have stt3 := st2.trans st3
              obtain ⟨hn3, hv3⟩ := keepD stt3
              cases b with
              | false =>
                exact ⟨p3, h2, acc, vs, st.trans stt3, hr3, hn3, hv3, rs.mono stt3, hl, pd⟩
              | true =>
                dsimp only at pd
                refine ⟨p3, f1, h2, fr2.mono st3, hr3, ?_⟩
                cases e4 : evE (gE pg n o) y f1 h2 with
                | bad => rw [e4] at pd; exact (show False from pd).elim
                | exn k2 h3 => rw [e4] at pd; exact (show False from pd).elim
                | ok yv h3 =>
                  rw [e4] at pd
                  dsimp only at pd
                  intro p4 H4 v4 st4 hr4 r4
                  have stt4 := stt3.trans st4
                  obtain ⟨hn4, hv4⟩ := keepD stt4
                  by_cases c1 : acc.length < lim
                  · rw [if_pos c1] at pd
                    have se : Ste p4 H4 (p4 ++ []) (upd H4 D (.lst (vs ++ [v4]))) := Ste.upd fun u eu => (lst_ok (vs := vs) u (by rw [← eu, hv4])).1
                    rw [List.append_nil] at se
                    refine ⟨vs, hv4, by rw [← rs.length, lim_eq]; exact c1, p4, h3, acc ++ [yv], vs ++ [v4], (st.trans stt4).new hD, hr4.off hn4 (by rw [hv4]; exact lst_ok), hn4, upd_same, ?_, by simp; omega, pd⟩
                    exact ((rs.mono stt4).append (.cons r4 .nil)).monoE se
                  · rw [if_neg c1] at pd; exact (show False from pd).elim

theorem tgIn_mem {vs : List Nat} {t : Tg} (h : tgIn vs t = true) : ∀ i ∈ slotsOf t, i ∈ vs := by
  cases t with
  | one i =>
    intro j hj
    rw [List.mem_singleton.mp hj]
    exact of_decide_eq_true h
  | many is => exact fun j hj => of_decide_eq_true (List.all_eq_true.mp h j hj)
theorem ok_lc_parts (g : GoodX F pg n o c X) {k : Nat} (ihb : ∀ c' X', GoodX F pg n o c' X' → ∀ e x, cE k c' e = some x → OkE F pg n o X' e x ∧ OkT F pg n o X' e x) {elt tg : Expr} {ifs : List Expr} {scope : Scope} {t : Tg} {x y : E}
    (hb : blkC c.N c.sc scope (ownOf c.N scope) = true) (ho : ((ownOf c.N scope).all fun p => decide (c.orc ≠ some p.1)) = true) (q1 : cForTg (cnBlk c scope) tg = some t) (q3 : cIf (cE k (cnBlk c scope)) ifs = some x) (q4 : cE k (cnBlk c scope) elt = some y) :
    BlkOk X.N X.env.scope scope (ownOf c.N scope) ∧ (∀ i ∈ (ownOf c.N scope).map (·.2), offPin F i) ∧ (∀ (s : Shared) (H : Hp) (C : Addr) (cl : List (Str × Addr)) (fp : List Addr), PG (X.blk s H scope (compEnvC scope cl C X.env) fp) tg (tgOf X.K t)) ∧
      (∀ (s : Shared) (H : Hp) (C : Addr) (cl : List (Str × Addr)) (fp : List Addr), PTs (X.blk s H scope (compEnvC scope cl C X.env) fp) ifs (tT F noW (evT (gE pg n o) x))) ∧
      ∀ (s : Shared) (H : Hp) (C : Addr) (cl : List (Str × Addr)) (fp : List Addr), PE (X.blk s H scope (compEnvC scope cl C X.env) fp) elt (tE F noW (evE (gE pg n o) y)) := by
  have bo : BlkOk X.N X.env.scope scope (ownOf c.N scope) := by
    rw [g.hN, g.sc]
    exact blkOk_by hb
  refine ⟨bo, fun i hi z hz ez => ?_, fun s H C cl fp => (tg_pg (g.blk bo s H C cl fp) q1).1, fun s H C cl fp => ?_, fun s H C cl fp => (ihb _ _ (g.blk bo s H C cl fp) elt y q4).1 noW takes_blk⟩
  · obtain ⟨q, hq, rfl⟩ := List.mem_map.mp hi
    have h1 := bo.ix q hq
    obtain ⟨x', h2, h3⟩ := g.pin z hz
    rw [← ez, ← g.hN, h1] at h3
    cases h3
    exact of_decide_eq_true (List.all_eq_true.mp ho q hq) h2
  · match ifs, q3 with
    | [], q3 =>
      cases q3
      refine ⟨fun pins s σ H Q I x => (pts_nil (X := X.blk _ _ scope (compEnvC scope cl C X.env) fp)).run pins s σ H Q I ?_⟩
      obtain ⟨p, f, h, fr, hr, pd⟩ := x
      exact pd p H true (Step.rfl' _ _) hr rfl
    | [e], q3 => exact pts_one ((ihb _ _ (g.blk bo s H C cl fp) e x q3).2 noW takes_blk)
theorem ok_lc (g : GoodX F pg n o c X) {k : Nat} (ihb : ∀ c' X', GoodX F pg n o c' X' → ∀ e x, cE k c' e = some x → OkE F pg n o X' e x ∧ OkT F pg n o X' e x) {elt tg it : Expr} {ifs : List Expr} {scope : Scope} {pos : Pos} {t : Tg} {sk : SrcK} {as : Es} {x y : E}
    (hb : blkC c.N c.sc scope (ownOf c.N scope) = true) (ho : ((ownOf c.N scope).all fun p => decide (c.orc ≠ some p.1)) = true) (q1 : cForTg (cnBlk c scope) tg = some t) (q2 : cSrcF (cE k c) c it = some (sk, as)) (q3 : cIf (cE k (cnBlk c scope)) ifs = some x) (q4 : cE k (cnBlk c scope) elt = some y)
    (ht : tgIn ((ownOf c.N scope).map (·.2)) t = true) : OkE F pg n o X (.ListComp elt [⟨tg, it, ifs, 0⟩] scope pos) (.lc t sk as x y ((ownOf c.N scope).map (·.2))) := by
  intro W tk
  obtain ⟨h1, h2, h3, h4, h5⟩ := ok_lc_parts g ihb hb ho q1 q3 q4
  obtain ⟨s1, s2⟩ := src_of g (k := k) (fun e x h => (ihb c X g e x h).1) q2 (tg := tg)
  exact pe_weak (pe_lc g.calm (by rw [g.hN]; exact g.nd) (s1 W tk) h1 h3 h4 h5 s2) fun s H Q q => lc_on g.hK (tgIn_mem ht) h2 q
theorem ok_setLc (g : GoodX F pg n o c X) {k : Nat} (ihb : ∀ c' X', GoodX F pg n o c' X' → ∀ e x, cE k c' e = some x → OkE F pg n o X' e x ∧ OkT F pg n o X' e x) {z : Str} {i : Nat} {zp spos : Pos} {elt tg it : Expr} {ifs : List Expr} {scope : Scope} {pos : Pos} {t : Tg} {sk : SrcK} {as : Es} {x y : E}
    (hz : c.store z = some i) (hsw : swLc c z zp.line (.ListComp elt [⟨tg, it, ifs, 0⟩] scope pos) = true)
    (hb : blkC c.N c.sc scope (ownOf c.N scope) = true) (ho : ((ownOf c.N scope).all fun p => decide (c.orc ≠ some p.1)) = true) (q1 : cForTg (cnBlk c scope) tg = some t) (q2 : cSrcF (cE k c) c it = some (sk, as)) (q3 : cIf (cE k (cnBlk c scope)) ifs = some x) (q4 : cE k (cnBlk c scope) elt = some y)
    (ht : tgIn ((ownOf c.N scope).map (·.2)) t = true) : ∀ W, Takes X W → PS X (.Assign [.Name z zp] (.ListComp elt [⟨tg, it, ifs, 0⟩] scope pos) spos) (tS F W (exS (gOf pg n o) (.set i (.lc t sk as x y ((ownOf c.N scope).map (·.2)))))) := by
  intro W tk
  obtain ⟨h1, h2, h3, h4, h5⟩ := ok_lc_parts g ihb hb ho q1 q3 q4
  obtain ⟨s1, s2⟩ := src_of g (k := k) (fun e x h => (ihb c X g e x h).1) q2 (tg := tg)
  obtain ⟨z1, z2, z3, z4⟩ := store_of g hz
  have hsw : (decide (c.kind z = some .local) && (zp.line == pos.line) && (match c.sc.kind with | .function => true | _ => false) && !(scope.names.any fun (n, k) => n == z && (k == .local || k == .cell))) = true := hsw
  simp only [Bool.and_eq_true, decide_eq_true_eq, Bool.not_eq_true'] at hsw
  obtain ⟨⟨⟨w1, w2⟩, w3⟩, w4⟩ := hsw
  have gk : X.env.scope.names.lookup z = some .local := by
    rw [← w1, g.sc]
    rfl
  have hk : X.env.scope.kind = .function := by
    rw [g.sc]
    split at w3
    · assumption
    · cases w3
  refine ps_weak (ps_setLc g.calm (by rw [g.hN]; exact g.nd) z1 gk (sw_true hk gk w2 w4) (s1 W tk) h1 h3 h4 h5 s2) fun De s H ⟨p, f, h, fr, hr, pd⟩ => ?_
  rw [exS] at pd
  exact lc_on g.hK (tgIn_mem ht) h2 ⟨p, f, h, fr, hr, ps_use fr pd fun p1 h1 e v H1 st hr1 fr1 r1 pd1 => pd1 p1 H1 _ (Step.rfl' _ _) hr1 (fr1.set i z3 r1)⟩
end
end Mi

set_option Elab.async false
set_option linter.all false
set_option autoImplicit false
set_option maxRecDepth 100000
set_option maxHeartbeats 2000000
/-! Sk4: f'..' keeps its result. -/
namespace Mi
open PySem L2 LamX PyProof.Rows PySem.Spec
section
variable {F : Fx} {pg : Pg} {n : Nat} {o : M D} {c : Cn} {X : Cx}
theorem textOf_ok {p : Rho} {H : Hp} {d : D} {v : V} {s : List Nat} (r : F.DR p H d v) (e : textOf d = some s) : okS s ∧ (v = .str (toS s) ∨ ∃ i : Int, v = .int i ∧ i.natAbs.log2 < 1920 ∧ (toString i : Str) = toS s) := by
  cases d with
  | str z => cases e; cases r with | str ok => exact ⟨ok, .inl rfl⟩
  | int i =>
    have e : (if 0 ≤ i ∧ i.natAbs < 10 ^ 500 then some (strN i.natAbs) else none) = some s := e
    by_cases c : 0 ≤ i ∧ i.natAbs < 10 ^ 500
    · rw [if_pos c] at e
      cases e
      cases r
      refine ⟨strN_ok c.2, .inr ⟨i, rfl, ?_, ?_⟩⟩
      · by_cases h0 : i.natAbs = 0
        · rw [h0]; decide
        · refine (Nat.log2_lt h0).mpr (Nat.lt_trans c.2 ?_)
          decide +kernel
      · have : i = ((i.natAbs : Nat) : Int) := by omega
        rw [← strN_S i.natAbs, ← this]
    · rw [if_neg c] at e; cases e
  | _ => cases e
theorem fm_run {f : Expr → Option E} (ih : ∀ e x, f e = some x → OkE F pg n o X e x) {W : WX} (tk : Takes X W) : ∀ {es : List Expr} {as : Es}, cFm f es = some as →
    ∃ ts, PJ X es ts ∧ ∀ (acc : List Nat) (s : L2.St) (H : Hp) (Q : Str → Hp → Prop), (tX F W (fun _ _ (t : List Nat) (u : Str) => u = toS t ∧ okS t) (fun f => evF (gE pg n o) as f acc) s H Q) → okS acc → tJs ts (toS acc) s H Q
  | [], as, h => by
    cases h
    refine ⟨[], .nil, fun acc s H Q ⟨p, f, h, fr, hr, pd⟩ ok => ?_⟩
    exact pd p H (toS acc) (Step.rfl' _ _) hr ⟨rfl, ok⟩
  | e :: es, as, h => by
    have go : ∀ {e' : Expr} {x : E} {xs : Es} {t : TE}, PE X e t → cFm f es = some xs → as = .cons x xs → (∀ s H (Q : VK), tE F W (evE (gE pg n o) x) s H (fun v H1 => ∃ p h d z, F.HR p h H1 ∧ F.DR p H1 d v ∧ textOf d = some z ∧ Q (.str (toS z)) H1) → t s H Q) →
        ∃ ts, PJ X (e :: es) ts ∧ ∀ (acc : List Nat) (s : L2.St) (H : Hp) (Q : Str → Hp → Prop), (tX F W (fun _ _ (t : List Nat) (u : Str) => u = toS t ∧ okS t) (fun f => evF (gE pg n o) as f acc) s H Q) → okS acc → tJs ts (toS acc) s H Q := fun {e' x xs t} he hx ea imp => by
      subst ea
      obtain ⟨ts, j, k⟩ := fm_run ih tk hx
      refine ⟨t :: ts, .cons he j, fun acc s H Q ⟨p, f0, h, fr, hr, pd⟩ ok => ?_⟩
      refine imp s H _ ⟨p, f0, h, fr, hr, ?_⟩
      have pd : PX F (fun _ _ (t : List Nat) (u : Str) => u = toS t ∧ okS t) p H (bnd (evE (gE pg n o) x f0) (fun d => bnd (ofO (textOf d)) fun s => if acc.length + s.length ≤ lim then evF (gE pg n o) xs f0 (acc ++ s) else bad) h) Q (zE F W s) := pd
      refine px_bnd pd fun p1 h1 d v H1 st1 hr1 r1 pd1 => ?_
      cases e1 : textOf d with
      | none => rw [e1] at pd1; exact (show False from pd1).elim
      | some z =>
        rw [e1] at pd1
        have pd1 : PX F (fun _ _ (t : List Nat) (u : Str) => u = toS t ∧ okS t) p1 H1 ((if acc.length + z.length ≤ lim then evF (gE pg n o) xs f0 (acc ++ z) else bad : M (List Nat)) h1) Q (zE F W s) := pd1
        obtain ⟨zo, _⟩ := textOf_ok r1 e1
        by_cases q : acc.length + z.length ≤ lim
        · rw [if_pos q] at pd1
          refine ⟨p1, h1, d, z, hr1, r1, e1, _, rfl, ?_, ?_⟩
          · rw [toS_app, toS_length, List.length_append, lim_eq]
            exact q
          · rw [toS_app]
            exact k (acc ++ z) s H1 Q ⟨p1, f0, h1, fr.mono st1, hr1, pd1⟩ (okS.app ok zo q)
        · rw [if_neg q] at pd1; exact (show False from pd1).elim
    cases e with
    | FormattedValue a cv sp ps =>
      cases sp with
      | some _ => cases h
      | none =>
        have h9 : (if decide (cv = -1) = true then (match f a, cFm f es with
          | some x, some xs => some (Es.cons x xs)
          | _, _ => none) else none) = some as := h
        by_cases q : decide (cv = -1) = true
        · rw [if_pos q] at h9
          have q := of_decide_eq_true q
          subst q
          cases e1 : f a with
          | none => rw [e1] at h9; cases h9
          | some x =>
            cases e2 : cFm f es with
            | none => rw [e1, e2] at h9; cases h9
            | some xs =>
              rw [e1, e2] at h9
              refine go (x := x) (xs := xs) (e' := a) (pe_fmt (ih a x e1 W tk)) e2 (Option.some.inj h9).symm fun s H Q ⟨p, f0, h, fr, hr, pd⟩ => ⟨p, f0, h, fr, hr, ?_⟩
              cases er : evE (gE pg n o) x f0 h with
              | bad => rw [er] at pd; exact pd
              | exn k h1 => rw [er] at pd; exact pd
              | ok d h1 =>
                rw [er] at pd
                intro p1 H1 v st1 hr1 r1
                obtain ⟨p2, h2, d2, z, hr2, r2, e3, q⟩ := pd p1 H1 v st1 hr1 r1
                obtain ⟨zo, hv⟩ := textOf_ok r2 e3
                rcases hv with rfl | ⟨i, rfl, hi, es⟩
                · exact .inl ⟨_, rfl, by rw [toS_length, lim_eq]; exact zo.1, q⟩
                · exact .inr ⟨i, rfl, hi, by rw [es]; exact q⟩
        · rw [if_neg q] at h9; cases h9
    | Constant k j ps =>
      cases k with
      | str z =>
        have h9 : (if okC z.cps.toList then (cFm f es).map (Es.cons (.cst (.str z.cps.toList))) else none) = some as := h
        by_cases q : okC z.cps.toList = true
        · rw [if_pos q] at h9
          cases e2 : cFm f es with
          | none => rw [e2] at h9; cases h9
          | some xs =>
            rw [e2] at h9
            have hk : constD (.str z) = some (.str z.cps.toList) := by
              show (if okC z.cps.toList then some (D.str z.cps.toList) else none) = _
              rw [if_pos q]
            refine go (x := .cst (.str z.cps.toList)) (xs := xs) (e' := .Constant (.str z) j ps) (ok_const (F := F) (pg := pg) (n := n) (o := o) hk W tk) e2 (Option.some.inj h9).symm fun s H Q ⟨p, f0, h, fr, hr, pd⟩ => ⟨p, f0, h, fr, hr, ?_⟩
            intro p1 H1 v st1 hr1 r1
            obtain ⟨p2, h2, d2, z2, hr2, r2, e3, q2⟩ := pd p1 H1 v st1 hr1 r1
            obtain ⟨zo, hv⟩ := textOf_ok r2 e3
            have r1 : F.DR p1 H1 (.str z.cps.toList) v := r1
            cases r1
            rcases hv with hv | ⟨i, hv, _⟩
            · rw [hv]; exact q2
            · cases hv
        · rw [if_neg q] at h9; cases h9
      | _ => cases h
    | _ => cases h
theorem ok_fmt {f : Expr → Option E} (ih : ∀ e x, f e = some x → OkE F pg n o X e x) {es : List Expr} {as : Es} {pos : Pos} (h : cFm f es = some as) (hl : 2 ≤ es.length) : OkE F pg n o X (.JoinedStr es pos) (.fmt as) := by
  intro W tk
  obtain ⟨ts, j, k⟩ := fm_run ih tk h
  match es, hl, j with
  | v1 :: v2 :: rest, _, j =>
    refine pe_weak (pe_joined j) fun s H Q ⟨p, f0, h, fr, hr, pd⟩ => ?_
    refine k [] s H _ ⟨p, f0, h, fr, hr, px_bnd pd fun p1 h1 t u H1 st1 hr1 r1 pd1 => ?_⟩ ⟨Nat.zero_le _, fun _ hz => by cases hz⟩
    rw [r1.1]
    exact px_ret pd1 hr1 (.str r1.2)
end
end Mi

set_option Elab.async false
set_option linter.all false
set_option autoImplicit false
set_option maxRecDepth 100000
set_option maxHeartbeats 2000000
/-! Sl: what compiles keeps its result: x(.., lambda: ..), then all expressions. -/
namespace Mi
open PySem L2 LamX PyProof.Rows PySem.Spec
section
variable {F : Fx} {pg : Pg} {n : Nat} {o : M D} {c : Cn} {X : Cx}
theorem callN_PD {i : Nat} {d : DefI} {ds : List D} {o' : M D} {p : Rho} {H : Hp} {h : Sto} {Q : VK} {Z : Nat → Hp → Prop} (pd : PD F p H (callN pg n i ds o' h) Q Z) : ∃ m fn, n = m + 1 ∧ pg.fns[i]? = some fn ∧ PD F p H (runFn (gOf pg m o') fn ds h) Q Z := by
  cases n with
  | zero => exact (show False from pd).elim
  | succ m =>
    rw [callN_succ] at pd
    cases e : pg.fns[i]? with
    | none => rw [e] at pd; exact (show False from pd).elim
    | some fn => rw [e] at pd; exact ⟨m, fn, rfl, rfl, pd⟩
theorem run_par {g : G} {fn : Fn} {ds : List D} {p : Rho} {H : Hp} {h : Sto} {Q : VK} {Z : Nat → Hp → Prop} (pd : PD F p H (runFn g fn ds h) Q Z) : ds.length = fn.par := by
  unfold runFn at pd
  by_cases c : ds.length = fn.par
  · exact c
  · rw [if_neg c] at pd; exact pd.elim
theorem noPar_ok {pr : Arguments} (h : noPar pr = true) : pr = ⟨[], [], none, [], [], none, []⟩ := by
  unfold noPar at h
  split at h
  · rfl
  · cases h
theorem pick_from {α : Type} : ∀ (B pre : List α), (List.range' pre.length B.length).filterMap (fun i => (pre ++ B)[i]?) = B
  | [], pre => rfl
  | b :: B, pre => by
    rw [List.length_cons, List.range'_succ, List.filterMap_cons]
    have e : (pre ++ b :: B)[pre.length]? = some b := by simp
    rw [e]
    have ih := pick_from B (pre ++ [b])
    rw [List.length_append, List.length_singleton] at ih
    have e2 : (pre ++ [b]) ++ B = pre ++ b :: B := by simp
    rw [e2] at ih
    exact congrArg (b :: ·) ih
theorem ident_pick {α : Type} (B : List α) : pickN (List.range B.length) B = B := by
  have := pick_from B []
  unfold pickN
  rw [List.range_eq_range']
  simpa using this
theorem pick_eq {α : Type} {ord : List Nat} {B : List α} (h : isIdent ord = true) (hl : B.length = ord.length) : pickN ord B = B := by
  have h : ord = List.range ord.length := of_decide_eq_true h
  rw [h, ← hl]
  exact ident_pick B
theorem mapM_pick {α : Type} {B : List α} : ∀ {ord : List Nat} {xs : List α}, ord.mapM (fun i => B[i]?) = some xs → xs = pickN ord B
  | [], xs, h => by
    simp at h
    subst h
    rfl
  | i :: ord, xs, h => by
    rw [List.mapM_cons] at h
    cases e1 : B[i]? with
    | none => rw [e1] at h; cases h
    | some b =>
      cases e2 : ord.mapM (fun i => B[i]?) with
      | none => rw [e1, e2] at h; cases h
      | some ys =>
        rw [e1, e2] at h
        cases h
        unfold pickN
        rw [List.filterMap_cons, e1]
        exact congrArg (b :: ·) (mapM_pick e2)
theorem defIx_ok {x : Str} : ∀ {l : List DefI} {k i : Nat} {d : DefI}, defIx x l k = some (i, d) → d.name = x ∧ ∃ j, i = k + j ∧ l[j]? = some d
  | [], _, _, _, h => by cases h
  | e :: l, k, i, d, h => by
    unfold defIx at h
    by_cases c : e.name = x
    · rw [if_pos c] at h
      cases h
      exact ⟨c, 0, rfl, rfl⟩
    · rw [if_neg c] at h
      obtain ⟨h1, j, h2, h3⟩ := defIx_ok h
      exact ⟨h1, j + 1, by omega, by simpa using h3⟩
theorem defIx_get {x : Str} {l : List DefI} {i : Nat} {d : DefI} (h : defIx x l 0 = some (i, d)) : d.name = x ∧ l[i]? = some d := by
  obtain ⟨h1, j, h2, h3⟩ := defIx_ok h
  have : i = j := by omega
  subst this
  exact ⟨h1, h3⟩
/-- f(..) as it compiles -/
theorem ok_call (gd : GoodX F pg n o c X) {f : Expr → Option E} (ih : ∀ e x, f e = some x → OkE F pg n o X e x) {x : Str} {args : List Expr} {kws : List Keyword} {y : E} {p pos : Pos} (h : cCall f c x args kws = some y) : OkE F pg n o X (.Call (.Name x p) args kws pos) y := by
  unfold cCall at h
  by_cases hg : c.glo x = true
  · rw [if_neg (by rw [hg]; decide)] at h
    cases e1 : defIx x c.defs 0 with
    | none =>
      rw [e1] at h
      dsimp only at h
      split at h
      · rename_i k0
        obtain ⟨k1, k2⟩ := Bool.and_eq_true_iff.mp k0
        have hk : kws = [] := by cases kws with | nil => rfl | cons _ _ => cases k1
        subst hk
        split at h
        · rename_i hx
          subst hx
          split at h
          · split at h
            · rename_i a t pt k3
              split at h
              · rename_i y' ty e3 e4
                split at h
                · rename_i k4
                  cases h
                  obtain ⟨k5, k6⟩ := Bool.and_eq_true_iff.mp k3
                  exact ok_isi gd ih hg k5 e3 e4 k4
                · cases h
              · cases h
            · cases h
          · cases h
        · split at h
          · rename_i b as e3 e4
            split at h
            · cases h
            · rename_i k3
              cases h
              exact ok_blt gd ih hg e3 e4 (by intro z; rw [z] at k3; exact k3 rfl)
          · cases h
      · cases h
    | some z =>
      obtain ⟨i, d⟩ := z
      rw [e1] at h
      dsimp only at h
      obtain ⟨hx, hd⟩ := defIx_get e1
      cases e2 : kwNames kws with
      | none => rw [e2] at h; cases h
      | some ks =>
        rw [e2] at h
        dsimp only at h
        cases e3 : bindI d args.length ks with
        | none => rw [e3] at h; cases h
        | some oc =>
          obtain ⟨ord, cs⟩ := oc
          cases e4 : cAs f args with
          | none => rw [e3, e4] at h; cases h
          | some as =>
            cases e5 : cAs f (kwVals kws) with
            | none => rw [e3, e4, e5] at h; cases h
            | some bs =>
              rw [e3, e4, e5] at h
              dsimp only at h
              intro W tk
              refine ⟨fun pins s σ H Q I q => ok_defcall gd ih hg hd hx e2 e3 e4 e5 tk (Fr0 := []) pins s σ H Q I ?_⟩
              obtain ⟨p, fr, h0, f0, hr, pd⟩ := q
              refine ⟨p, fr, h0, f0, hr, ?_⟩
              by_cases k : (isIdent ord && cs.isEmpty) = true
              · rw [if_pos k] at h
                cases h
                obtain ⟨k1, k2⟩ := Bool.and_eq_true_iff.mp k
                have hcs : cs = [] := by cases cs with | nil => rfl | cons _ _ => cases k2
                subst hcs
                rw [evE, evA_app, bnd_assoc] at pd
                unfold bnd at pd ⊢
                cases q1 : evA (gE pg n o) as fr h0 with
                | ok ds h1 =>
                  rw [q1] at pd
                  dsimp only at pd ⊢
                  cases q2 : evA (gE pg n o) bs fr h1 with
                  | ok es h2 =>
                    rw [q2] at pd
                    dsimp only at pd ⊢
                    have pd : PD F p H (callN pg n i (ds ++ es) bad h2) Q (zE F W σ) := pd
                    obtain ⟨m, fn, _, e6, pd2⟩ := callN_PD (d := d) pd
                    have l1 := run_par pd2
                    have S := gd.st.dfs i d hd
                    obtain ⟨mm, ss, _, e7⟩ := S.body
                    rw [e6] at e7
                    cases e7
                    obtain ⟨ms, bc, _⟩ := bindI_ok e3 S.po S.va S.kwa S.ps S.kn
                    have e8 : ord.length = nPar d := by
                      have := (ord_pick (d.pos.take args.length ++ ks ++ ms) (d.pos.take args.length ++ ks ++ ms) (Nat.le_refl _) _ ord bc.ord).2.2.1
                      rw [this]
                      simp [nPar]
                    have e9 : pickN ord (ds ++ es ++ []) = ds ++ es := by
                      rw [List.append_nil]
                      exact pick_eq k1 (by rw [e8]; exact l1)
                    rw [e9]
                    exact pd
                  | exn _ _ => rw [q2] at pd; exact pd
                  | bad => rw [q2] at pd; exact pd
                | exn _ _ => rw [q1] at pd; exact pd
                | bad => rw [q1] at pd; exact pd
              · rw [if_neg k] at h
                cases h
                rw [evE, evA_app, bnd_assoc] at pd
                unfold bnd at pd ⊢
                cases q1 : evA (gE pg n o) as fr h0 with
                | ok ds h1 =>
                  rw [q1] at pd
                  dsimp only at pd ⊢
                  rw [evA_app] at pd
                  unfold bnd at pd
                  cases q2 : evA (gE pg n o) bs fr h1 with
                  | ok es h2 =>
                    rw [q2] at pd
                    dsimp only at pd ⊢
                    rw [evA_cst] at pd
                    unfold ret at pd
                    dsimp only at pd
                    have e9 : ds ++ (es ++ cs) = ds ++ es ++ cs := by simp
                    rw [e9] at pd
                    unfold ofO at pd
                    cases q3 : ord.mapM (fun i => (ds ++ es ++ cs)[i]?) with
                    | none => rw [q3] at pd; exact pd.elim
                    | some xs =>
                      rw [q3] at pd
                      rw [← mapM_pick q3]
                      exact pd
                  | exn _ _ => rw [q2] at pd; exact pd
                  | bad => rw [q2] at pd; exact pd
                | exn _ _ => rw [q1] at pd; exact pd
                | bad => rw [q1] at pd; exact pd
  · rw [if_pos (by simpa using hg)] at h
    split at h
    · rename_i k0
      cases h
      simp only [Bool.and_eq_true, decide_eq_true_eq, Bool.not_eq_true'] at k0
      obtain ⟨⟨⟨⟨k1, k2⟩, k3⟩, k4⟩, k5⟩ := k0
      have ha : args = [] := by cases args with | nil => rfl | cons _ _ => cases k2
      have hk : kws = [] := by cases kws with | nil => rfl | cons _ _ => cases k3
      subst ha hk
      intro W tk
      have := gd.orc x k1 k4 p pos W X.pn X.xe tk
      refine pe_weak this fun s H Q ⟨p, f, h, fr, hr, pd⟩ => ⟨p, f, h, fr, hr, ?_⟩
      rw [evE] at pd
      exact pd
    · cases h

/-- x(.., lambda: b) -/
theorem ok_hrd (gd : GoodX F pg n o c X) (ihE : ∀ m, m < n → SoundE pg m) (ihS : ∀ m, m < n → SoundS pg m) {k : Nat} (ih : ∀ e x, cE k c e = some x → OkE F pg n o X e x) {x : Str} {args es : List Expr} {pr : Arguments} {body : Expr} {sc : Scope} {as : Es} {b : E} {i : Nat} {d : DefI} {p pos : Pos}
    (hl : lamLast args = some (es, pr, body, sc)) (h1 : c.lam = true) (h3 : noPar pr = true) (h4 : LamX.lamSB c.sc sc = true) (hg : c.glo x = true) (hd : c.defs[i]? = some d) (hx : d.name = x) (ho : d.orc.isSome = true) (hk : d.kwo.isEmpty = true) (hb : posBind d args.length = true)
    (hp : d.pos[es.length]? = d.orc) (ha : cAs (cE k c) es = some as) (hy : cE k (cnLam c sc) body = some b) : OkE F pg n o X (.Call (.Name x p) args [] pos) (.hrd i as b) := by
  intro W tk
  obtain ⟨lp, rfl⟩ := lamLast_ok hl
  have := noPar_ok h3
  subst this
  refine ⟨fun pins s σ H Q I q => ?_⟩
  obtain ⟨p0, fr0, h0, f0, hr0, pd0⟩ := q
  obtain ⟨g1, g2⟩ := glo_of gd hg
  have S := gd.st.dfs i d hd
  have hm : X.mg x = some (.ref (F.fA i)) := by rw [← hx]; exact S.glo
  have kp : PySem.W.keepIn X.K (.ref (F.fA i)) = true := by rw [← gd.hK]; exact S.kp
  have hkwo : d.kwo = [] := by cases e : d.kwo with | nil => rfl | cons _ _ => rw [e] at hk; cases hk
  obtain ⟨a, ea⟩ := Option.isSome_iff_exists.mp ho
  obtain ⟨cc, P, hcode, TB, hmT, hu⟩ := gd.lam h1
  have L : LamS X.env.scope sc := by rw [gd.sc]; exact lamS_by h4
  refine wpAny_Call_Name_kw (ld_glob I g1 hm ?_ g2)
  have hst : ∃ e rest, es ++ [Expr.Lambda ⟨[], [], none, [], [], none, []⟩ body sc lp] = e :: rest ∧ noStar e = true := by
    cases es with
    | nil => exact ⟨_, _, rfl, rfl⟩
    | cons e0 es =>
      refine ⟨e0, _, rfl, ?_⟩
      unfold cAs at ha
      by_cases k : noStar e0 = true
      · exact k
      · rw [if_neg k] at ha; cases ha
  have hpl : (backTo pos (starEach (es ++ [Expr.Lambda ⟨[], [], none, [], [], none, []⟩ body sc lp]) X.env)).any (·.1) = false := by
    have gen : ∀ {es : List Expr} {as : Es}, cAs (cE k c) es = some as → (backTo pos (starEach (es ++ [Expr.Lambda ⟨[], [], none, [], [], none, []⟩ body sc lp]) X.env)).any (·.1) = false := by
      intro es
      induction es with
      | nil => intro as _; rfl
      | cons e es ihh =>
        intro as h
        unfold cAs at h
        by_cases c1 : noStar e = true
        · rw [if_pos c1] at h
          cases e1 : cE k c e with
          | none => rw [e1] at h; cases h
          | some y =>
            cases e2 : cAs (cE k c) es with
            | none => rw [e1, e2] at h; cases h
            | some ys =>
              rw [List.cons_append, star_of c1, back_cons, ihh e2]
              rfl
        · rw [if_neg c1] at h; cases h
    exact gen ha
  have key : wpAny (model X.prog X.w) X.A (spliced (backTo pos (starEach (es ++ [Expr.Lambda ⟨[], [], none, [], [], none, []⟩ body sc lp]) X.env))) (fun vs s1 => X.K.In s1.heap ∧ wpAny (model X.prog X.w) X.A (call (.ref (F.fA i)) ([] ++ vs)) (EP X pins σ Q) X.xe s1) X.xe s := by
    rw [evE] at pd0
    refine spl_lam ih tk ha _ pins s σ H (fun vs H1 => ∃ p1 h1 ds, FR F p1 H1 fr0 σ ∧ F.HR p1 h1 H1 ∧ F.DRs p1 H1 ds vs ∧ vs.length = es.length ∧ PD F p1 H1 (callN pg n i (ds ++ [.clo]) (evE (gE pg n o).low b fr0) h1) Q (zE F W σ)) I ⟨p0, fr0, h0, f0, hr0, ?_⟩ ?_
    · unfold bnd at pd0
      cases e : evA (gE pg n o) as fr0 h0 with
      | ok ds h1' =>
        rw [e] at pd0
        exact fun p1 H1 vs st1 hr1 r1 => ⟨p1, h1', ds, f0.mono st1, hr1, r1, by rw [← r1.length]; exact cAs_len ha e, PX.mono st1 pd0⟩
      | exn k h1' => rw [e] at pd0; exact pd0
      | bad => rw [e] at pd0; exact pd0.elim
    · intro s1 us vs H1 I1 r1 ⟨p1, h1', ds, f1, hr1, rd1, hl1, pd1⟩
      refine lam_make2 I1 TB hcode hmT hu hr1.tab rfl (L.has I1.ok) fun f c' pm' ctv H2 s' I2 eN T2 hf hfn hfr hco => ?_
      -- the store still lies in the heap
      have st2 : Step p1 H1 p1 H2 := by
        refine ⟨⟨[], by simp, fun _ h => by cases h⟩, fun a u e _ nt => eN a u e (fun ps z => by rw [z] at nt; exact nt), fun a u e nt => ⟨u, eN a u e (fun ps z => by rw [z] at nt; exact nt), nt⟩⟩
      have hr2 : F.HR p1 h1' H2 := ⟨hr1.len, fun l u a e1 e2 => by
        obtain ⟨v, g1, g2, g3, g4⟩ := (hr1.obj l u a e1 e2).mut (by cases u <;> trivial)
        exact ORp.keep st2 (fun w e => eN a w e (fun ps z => by
          rw [g1] at e; cases e
          rw [z] at g3; exact g3)) (hr1.obj l u a e1 e2), hr1.sep, T2⟩
      refine ⟨I2.kIn, ?_⟩
      have pd2 := PX.mono st2 pd1
      obtain ⟨m, fn, en, efn, pd2⟩ := callN_PD (d := d) pd2
      subst en
      obtain ⟨mm, ss, css, efn2⟩ := S.body
      rw [efn] at efn2
      cases efn2
      obtain ⟨oc, od, kV, doc, pm, an, cdc, ct, osl, lk, hcd, hkw, htab⟩ := S.fn
      have hnams : d.nams = d.pos := by unfold DefI.nams; rw [hkwo]; simp
      have hlen : (us ++ [Value.ref f]).length = d.pos.length := by
        have l1 := run_par pd2
        have l2 := rd1.length
        have l3 := r1.length
        have l4 : nPar d = d.pos.length := by unfold nPar; rw [hkwo]; simp
        simp only [List.length_append, List.length_singleton] at l1 ⊢
        omega
      have E : XK := WE W σ
      have rc : codeAny (model X.prog X.w) X.A (.call (.ref (F.fA i)) ⟨us ++ [.ref f], []⟩) (CR (L2.CX X.prog X.w) X.stack X.prog X.w H2 s' Q (WE W σ)) s' := by
        rw [gd.hK] at lk hcd
        have rr : Vals (vs ++ [V.ref f]) (us ++ [Value.ref f]) := Vals.append r1 (Paired.cons (show L2.RelV (V.ref f) (Value.ref f) from rfl) Paired.nil)
        have hl2 : (vs ++ [V.ref f]).length = d.nams.length := by rw [hnams, ← hlen]; exact rr.length
        have hbind : BindsTo s' (PySem.W.fnOf d.name d.qual d.params d.body d.sc .none kV doc pm an (.ref cdc) ct) ⟨us ++ [.ref f], []⟩ (d.nams.zip (us ++ [.ref f])) := by
          unfold posBind at hb
          split at hb
          · rename_i ord eb
            obtain ⟨ms, bc, hcs⟩ := bindI_ok eb S.po S.va S.kwa S.ps S.kn
            have hms : ms = [] := by
              have z := bc.lack
              rw [hkwo] at z
              simpa [lackN] using z.symm
            subst hms
            have hn : (us ++ [Value.ref f]).length = (es ++ [Expr.Lambda ⟨[], [], none, [], [], none, []⟩ body sc lp]).length := by
              rw [List.length_append, List.length_append, ← r1.length, hl1]
              rfl
            have bt := bind_gen (K := X.K) (x := d.name) (q := d.qual) (params := d.params) (body := d.body) (scope := d.sc) (kV := kV) (doc := doc) (pm := pm) (an := an) (cdv := .ref cdc) (ct := ct) bc (s := s') (us := us ++ [.ref f]) (ws := []) (mv := []) I2.kIn hn rfl rfl (.inl rfl)
            have eo : ord = List.range (us ++ [Value.ref f]).length := by rw [hn]; exact of_decide_eq_true hb
            rw [List.append_nil, List.append_nil, eo, ident_pick] at bt
            exact bt
          · cases hb
        refine run_ofS (N := d.N) (ps := d.nams) (us := us ++ [.ref f]) (vs := vs ++ [.ref f]) (k := 2 * m + 2) lk hcd S.sc (by have := gd.room; exact this.mono (by omega)) I2.env0 hbind rr hl2 fun hr' => ?_
        -- the def's body
        have hN : d.N[es.length]? = some a := by
          have z := S.sc.pre
          have z2 : d.nams[es.length]? = some a := by rw [hnams, hp, ea]
          have z3 : es.length < d.nams.length := (List.getElem?_eq_some_iff.mp z2).1
          rw [← z, List.getElem?_take, if_pos z3] at z2
          exact z2
        obtain ⟨jj, _, _, hvis, hdb, hcd2⟩ := S.orc a ea
        obtain ⟨_, ⟨ocl, vsl, tl, hol, hdl, hvl⟩⟩ : True ∧ ∃ (oc : PySem.Obj) (vs : Array Value) (t : Tok), s'.heap.get? c' = some oc ∧ oc.data = .fields vs ∧ vs[1]? = some (.str (X.env.qual ++ ("<lambda>" : Str)) t) := ⟨trivial, (I2.hok c' _ hco).1⟩
        let z0 : Pin := ⟨es.length, f, c', X.env.qual ++ ("<lambda>" : Str), p1, H2⟩
        have room0 : Room (2 * m + 3) X.A := gd.room
        have gZ : GoodX (F.rp (some z0)) pg m (evE (gOf pg m o) b fr0) (cnOf c d) (cxOf (L2.CX X.prog X.w) X.prog X.w X.K X.mg X.base d.N d.qual d.sc (F.fA i) (.ref cdc) X.A X.stack s' H2 (WE W σ)) := by
          refine { hN := rfl, nd := S.sc.nd, sc := rfl, hK := gd.hK, calm := rfl, room := hr'.mono (by omega), bk := ?_, st := gd.st.rp _, calls := fun q hq => (gd.calls q (by omega)).rp rfl _, fnl := fun _ _ => rfl, orc := ?_, pin := ?_, own := fun _ hx => (by cases hx), lam := ?_, po := fun _ => passes_of rfl, fr := fun _ => ⟨rfl, rfl, rfl⟩ }
          · show (if d.sc.kind.isAnnotationScope then ScopeKind.function else d.sc.kind) = .function
            rw [S.sc.kind]
            rfl
          · intro y hyo _ q1 q2 W2 pn xe tk2
            have hyo : d.orc = some y := hyo
            rw [ea] at hyo
            cases hyo
            refine pe_weak (pe_actS (i := es.length) (k := 2 * m + 1) (tb := fun E => tE (F.rp none) (fun cls dd _ H => E cls dd H) (evE (gOf pg m o) b)) I2 L hf hfn hfr rfl tk2 hr' (fun E A outer s3 H3 hr3 => ?_) hN hvis hdb hcd2) fun sZ HZ QZ ⟨pz, fz, hz, frz, hrz, pdz⟩ => ?_
            · have gL : GoodX (F.rp none) pg m o (cnLam c sc) (lamCx X A outer s3 H3 E sc f c') := by
                refine { hN := gd.hN, nd := gd.nd, sc := rfl, hK := gd.hK, calm := rfl, room := hr3, bk := ?_, st := gd.st.rpL _, calls := fun q hq => (gd.calls q (by omega)).rp rfl _, fnl := fun z => absurd (show true = false from z) (by decide), orc := fun y _ z => absurd (show true = false from z) (by decide), pin := fun z hz => (by cases hz), own := fun _ hx => (by cases hx), lam := fun z => absurd (show false = true from z) (by decide), po := fun z => absurd (show true = false from z) (by decide), fr := fun z => absurd (show true = false from z) (by decide) }
                show (if sc.kind.isAnnotationScope then ScopeKind.function else sc.kind) = .function
                rw [L.kind]
                rfl
              exact ((ihE m (Nat.lt_succ_self m) _ _ _ _ gL k body b hy).1 _ (takes_of rfl rfl rfl rfl))
            · obtain ⟨w1, w2, w3⟩ := frz.pin z0 rfl
              refine ⟨w1, w2, pz, fr0, hz, ?_, hrz, pdz⟩
              exact ((f1.mono st2).mono w3).rp (z := none) (fun y e => by cases e)
          · intro z hz
            have hz : some z0 = some z := hz
            cases hz
            exact ⟨a, ea, hN⟩
          · intro hlam
            obtain ⟨P', t1, t2, t3⟩ := htab hlam
            exact ⟨cdc, P', rfl, t1, t2, t3⟩
        obtain ⟨hpar, hps⟩ := fn_ps (z := some z0) (E := WE W σ) pd2
        refine ⟨_, ihS m (Nat.lt_succ_self m) _ _ _ _ rfl gZ mm d.body ss css _ (takes_of rfl rfl rfl rfl), p1, _, h1', ?_, hr2, hps⟩
        have rdl : F.DRs p1 H2 (ds ++ [.clo]) (vs ++ [.ref f]) := (rd1.mono st2).append (.cons .clo .nil)
        have base := start_FR (F := F.rp none) rdl d.N (by
          have l1 := rdl.length
          rw [l1, hl2, ← S.sc.pre, List.length_take]
          omega) rfl
        refine ⟨base.len, base.get, fun z hz => ?_⟩
        have hz : some z0 = some z := hz
        cases hz
        refine ⟨?_, hco, Step.rfl' _ _⟩
        show (L2.start d.N (vs ++ [V.ref f]))[es.length]? = some (some (.ref f))
        unfold L2.start
        rw [List.getElem?_append_left (by simp; omega), List.getElem?_map, List.getElem?_append_right (by omega)]
        simp [hl1]
      refine wpAny_call (codeAny_mono rc fun r s2 hq => ?_)
      cases r with
      | error e => exact passAt tk σ pins H2 s' e s2 I2 hq
      | ok fl =>
        cases fl with
        | ret u => exact I2.after hq
        | next => exact False.elim hq
        | brk => exact False.elim hq
        | cont => exact False.elim hq
  obtain ⟨e0, rest, e1, e2⟩ := hst
  rw [e1] at hpl key ⊢
  exact PySem.W.callWith_K (h₀ := X.base) I.ok.mod.kin kp key (star_of e2) (by
    rw [star_of e2, back_cons] at hpl
    exact (Bool.or_eq_false_iff.mp hpl).2)
end
end Mi

set_option Elab.async false
set_option linter.all false
set_option autoImplicit false
set_option maxRecDepth 100000
set_option maxHeartbeats 2000000
/-! Sm: what compiles keeps its result: all expressions. -/
namespace Mi
open PySem L2 LamX PyProof.Rows PySem.Spec
theorem soundE {pg : Pg} {n : Nat} (ihE : ∀ m, m < n → SoundE pg m) (ihS : ∀ m, m < n → SoundS pg m) : SoundE pg n := by
  intro F o c0 X0 gd0 k
  have key : ∀ k c X, GoodX F pg n o c X → ∀ e x, cE k c e = some x → OkE F pg n o X e x ∧ OkT F pg n o X e x := by
   intro k
   induction k with
   | zero => intro c X gd e x h; cases h
   | succ k ihk =>
    intro c X gd
    have ih := ihk c X gd
    have ih1 : ∀ e x, cE k c e = some x → OkE F pg n o X e x := fun e x h => (ih e x h).1
    have ih2 : ∀ e x, cE k c e = some x → OkT F pg n o X e x := fun e x h => (ih e x h).2
    have val : ∀ {e : Expr} {x : E}, (∀ whole, isTrue e X.env whole = (do let v ← whole; standAt e.pos; holding [v] (truthy v))) → OkE F pg n o X e x → OkE F pg n o X e x ∧ OkT F pg n o X e x := fun he h => ⟨h, okt_val gd.hK he h⟩
    intro e x h
    unfold cE at h
    split at h
    · rename_i kc j pos
      cases e1 : constD kc with
      | none => rw [e1] at h; cases h
      | some d =>
        rw [e1] at h
        cases h
        exact val (fun _ => rfl) (ok_const e1)
    · rename_i y pos
      split at h
      · rename_i i e1
        cases h
        exact val (fun _ => rfl) (ok_var gd e1)
      · split at h
        · rename_i e2
          cases e1 : c.con.lookup y with
          | none => rw [e1] at h; cases h
          | some d =>
            rw [e1] at h
            cases h
            exact val (fun _ => rfl) (ok_con gd e2 e1)
        · cases h
    · rename_i a op b pos
      split at h
      · rename_i o1 x1 y1 e1 e2 e3
        cases h
        exact val (fun _ => rfl) (ok_bin gd e1 (ih1 _ _ e2) (ih1 _ _ e3))
      · cases h
    · rename_i a pos
      cases e1 : cE k c a with
      | none => rw [e1] at h; cases h
      | some y =>
        rw [e1] at h
        cases h
        exact val (fun _ => rfl) (ok_neg (ih1 _ _ e1))
    · rename_i a pos
      split at h
      · cases e1 : cE k c a with
        | none => rw [e1] at h; cases h
        | some y =>
          rw [e1] at h
          cases h
          exact ⟨ok_not gd (ih1 _ _ e1), okt_not (ih2 _ _ e1)⟩
      · cases h
    · exact ⟨ok_bool gd.hK ih1 h, fun W tk => (okt_bool ih2 h W tk).pt⟩
    · rename_i a op b pos
      split at h
      · rename_i k1
        split at h
        · rename_i o1 x1 y1 e1 e2 e3
          cases h
          exact ⟨ok_cmp gd e1 k1 (ih1 _ _ e2) (ih1 _ _ e3), okt_cmp gd e1 k1 (ih1 _ _ e2) (ih1 _ _ e3)⟩
        · cases h
      · cases h
    · split at h
      · rename_i k1
        obtain ⟨k2, k3⟩ := Bool.and_eq_true_iff.mp k1
        split at h
        · rename_i e1 e2 e3 e4 e5
          cases h
          exact ⟨ok_chn gd e1 e2 k2 k3 (ih1 _ _ e3) (ih1 _ _ e4) (ih1 _ _ e5), okt_chn gd e1 e2 k2 k3 (ih1 _ _ e3) (ih1 _ _ e4) (ih1 _ _ e5)⟩
        · cases h
      · cases h
    · split at h
      · split at h
        · rename_i e1 e2 e3
          cases h
          exact ⟨ok_ifx (ih2 _ _ e1) (ih1 _ _ e2) (ih1 _ _ e3), okt_ifx (ih2 _ _ e1) (ih2 _ _ e2) (ih2 _ _ e3)⟩
        · cases h
      · cases h
    · rename_i es cx pos
      cases e1 : cAs (cE k c) es with
      | none => rw [e1] at h; cases h
      | some y =>
        rw [e1] at h
        cases h
        exact val (fun _ => rfl) (ok_tup (oka_of ih1 e1))
    · rename_i es pos
      cases e1 : cAs (cE k c) es with
      | none => rw [e1] at h; cases h
      | some y =>
        rw [e1] at h
        cases h
        exact val (fun _ => rfl) (ok_lst (oka_of ih1 e1))
    · split at h
      · rename_i k1
        obtain ⟨k2, k3⟩ := Bool.and_eq_true_iff.mp k1
        split at h
        · rename_i e1 e2
          cases h
          exact val (fun _ => rfl) (ok_dct ih1 e1 e2 (of_decide_eq_true k2) (of_decide_eq_true k3))
        · cases h
      · cases h
    · split at h
      · rename_i e1 e2 e3
        cases h
        exact val (fun _ => rfl) (ok_slc gd ih1 e1 e2 e3)
      · cases h
    · split at h
      · rename_i k1
        split at h
        · rename_i e1 e2
          cases h
          exact val (fun _ => rfl) (ok_idx gd k1 (ih1 _ _ e1) (ih1 _ _ e2))
        · cases h
      · cases h
    · -- calls of names
      rename_i y p args kws pos
      split at h
      · rename_i es pr body sc hl
        split at h
        · rename_i k0
          simp only [Bool.and_eq_true] at k0
          obtain ⟨⟨⟨⟨k1, k3⟩, k4⟩, k5⟩, k6⟩ := k0
          have hk : kws = [] := by cases kws with | nil => rfl | cons _ _ => cases k3
          subst hk
          split at h
          · rename_i i d e1
            obtain ⟨hx, hd⟩ := defIx_get e1
            split at h
            · rename_i k7
              simp only [Bool.and_eq_true, decide_eq_true_eq] at k7
              obtain ⟨⟨⟨k8, k9⟩, k10⟩, k11⟩ := k7
              split at h
              · rename_i as b e2 e3
                cases h
                exact val (fun _ => rfl) (ok_hrd gd ihE ihS ih1 hl k1 k4 k5 k6 hd hx k8 k9 k10 k11 e2 e3)
              · cases h
            · cases h
          · cases h
        · cases h
      · exact val (fun _ => rfl) (ok_call gd ih1 h)
    · rename_i a m ap args cp
      split at h
      · rename_i k0
        simp only [Bool.and_eq_true] at k0
        obtain ⟨⟨k1, k2⟩, k3⟩ := k0
        split at h
        · rename_i e1 e2 e3
          split at h
          · cases h
          · rename_i k4
            cases h
            exact val (fun _ => rfl) (ok_bmt gd ih1 k1 k2 e1 k3 e2 e3 (by intro z; rw [z] at k4; exact k4 rfl))
        · cases h
      · cases h
    · -- f'..'
      rename_i vs pos
      split at h
      · rename_i k0
        cases q : cFm (cE k c) vs with
        | none => rw [q] at h; cases h
        | some y =>
          rw [q] at h
          cases h
          exact val (fun _ => rfl) (ok_fmt ih1 q (of_decide_eq_true k0))
      · cases h
    · -- a list comprehension
      split at h
      · rename_i k0
        simp only [Bool.and_eq_true] at k0
        obtain ⟨⟨k1, k2⟩, k3⟩ := k0
        split at h
        · rename_i q1 q2 q3 q4
          split at h
          · rename_i k4
            cases h
            exact val (fun _ => rfl) (ok_lc gd ihk k1 k3 q1 q2 q3 q4 k4)
          · cases h
        · cases h
      · cases h
    · cases h
  exact key k c0 X0 gd0
end Mi

set_option Elab.async false
set_option linter.all false
set_option autoImplicit false
set_option maxRecDepth 100000
set_option maxHeartbeats 2000000
/-! Sn: statements: a caught error that is kept. -/
namespace Mi
open PySem L2 LamX PyProof.Rows PySem.Spec
/-- a thing of ours that was not there at the entry is tracked from now on -/
theorem inv_track {X : Cx} {pins : List (Addr × PySem.Obj)} {σ : L2.St} {H : Hp} {s : Shared} {a : Addr} {φ : Heap → Prop} (I : L2.Inv X pins σ H s) (na : H a = none) (n0 : X.s_0.heap.get? a = none) (hx : X.ex = []) (np : ∀ p ∈ X.pn ++ pins, p.1 ≠ a) (nL : X.env.locals ≠ a) (nC : ∀ x c, X.env.cells.lookup x = some c → c ≠ a)
    (ok : ObjOk X.prog X.w (upd H a (.ext φ)) s.heap a (.ext φ)) : L2.Inv X pins σ (upd H a (.ext φ)) s := by
  have ne0 : ∀ b o, X.s_0.heap.get? b = some o → b ≠ a := fun b o e z => by rw [z, n0] at e; cases e
  have b := I.base
  have none_ : ∀ c, c ≠ a → H c = none → upd H a (.ext φ) c = none := fun c hc h => by rw [upd_ne hc]; exact h
  refine ⟨I.ok, I.os, I.bare, ⟨b.keep, b.slot, fun c o e n hq => none_ c (ne0 c o e) (b.free c o e n hq), b.there, fun c xs e => ?_, fun c o u e => ?_, fun c ps e => ?_⟩, I.loc, I.cell, none_ _ nL I.free, fun x c e => none_ c (nC x c e) (I.freeC x c e), fun p hp => ?_, fun c u e => ?_, I.len⟩
  · have q := b.tups c xs e
    rw [upd_ne (ne_of_none q na)]; exact q
  · have q := b.frzs c o u e
    rw [upd_ne (ne_of_none q na)]; exact q
  · obtain ⟨m, q⟩ := b.tbls c ps e
    exact ⟨m, by rw [upd_ne (ne_of_none q na)]; exact q⟩
  · obtain ⟨e, n, r⟩ := I.pin p hp
    exact ⟨e, none_ _ (np p hp) n, r⟩
  · by_cases hc : c = a
    · rw [hc, upd_same] at e
      cases e
      rw [hc]
      exact ok
    · rw [upd_ne hc] at e
      exact (I.hok c u e).stay (fun d v _ q => q) (fun d q => by rw [upd_ne (ne_of_none q na)]; exact q) fun d xs q => by rw [upd_ne (ne_of_none q na)]; exact q
/-- an exception object of the class cls -/
def ExV (cls : Value) (a : Addr) : HO := .ext fun h => ∃ (oe : PySem.Obj) (vs : Array Value), h.get? a = some oe ∧ Zc cls none oe ∧ oe.data = .fields vs
/-- what 'except x as n: k = n' wishes: slot i is n's, j is k's -/
def wKeep (K : PySem.W.Frag) (c : Value) (i j : Nat) (Wout : WX) (D : Ends) : WX := fun cls d σ H =>
  ∃ b, PySem.W.exmOne K cls c = some b ∧ (b = true → d = none ∧ ∀ a, H a = none → D.nx ((σ.set j (some (.ref a))).set i none) (upd H a (ExV cls a))) ∧ (b = false → Wout cls d σ H)
section
variable {X : Cx} {x n kn : Str} {c : Value} {i j : Nat} {body : List Stmt} {np pos pos' kp np2 apos : Pos} {tb : WX → TS} {Wout : WX}
theorem ps_tryKeep (hs : X.stack = X.env :: X.outer) (hf : X.env.frame = some X.env.locals) (hex : X.ex = []) (hN : X.N.Nodup) (hi : X.N[i]? = some n) (hj : X.N[j]? = some kn) (hij : i ≠ j) (hln : X.env.kindOf n = some .local) (hlk : X.env.kindOf kn = some .local) (hc : Names X x c) (tk : L2.Takes X Wout)
    (hdn : (n == ("__debug__" : Str)) = false) (hcn : (n == ("__classdict__" : Str)) = false)
    (hb : ∀ (W : WX) (pn : List (Addr × PySem.Obj)) (xe : Value → Shared → Prop), L2.Takes (X.tr pn xe) W → PassesOwn (model X.prog X.w) X.A X.env xe → PSs (X.tr pn xe) body (tb W)) :
    PS X (.Try body [.ExceptHandler (some (.Name x np)) (some n) [.Assign [.Name kn kp] (.Name n np2) apos] pos'] [] [] pos) (fun D σ H => tb (wKeep X.K c i j Wout D) D σ H) := by
  refine ⟨fun pins s σ H D I h => ?_⟩
  have ok := I.ok
  have hfr : X.A.frames = some (X.env :: X.outer) := by rw [ok.frames, hs]
  have hloc : Loc X.env.scope n := .inl hln
  refine wpAny_Try_except ?_
  refine wpAny_mono ((hb (wKeep X.K c i j Wout D) (X.pn ++ pins) (fun e s₁ => wpAny (model X.prog X.w) X.A (noteFrame e X.env) (fun _ s₂ => wpAny (model X.prog X.w) X.A (setFlight e none) (fun _ s₃ =>
    wpAny (model X.prog X.w) X.A (handleBy e X.env [.ExceptHandler (some (.Name x np)) (some n) [.Assign [.Name kn kp] (.Name n np2) apos] pos']) (SP X pins D) X.xe s₃) X.xe s₂) X.xe s₁) (fun u s' xx => ?_) PassesOwn.looking).run [] s σ H D (I.toTry _) h) (fun f s1 hsp => ?_) (fun e s1 he => he)
  · -- the catch
    obtain ⟨a, B, sI, pins', σ', H', cls, d, rfl, J', nb, up, sky, na, os, ag, b, hb1, hyes, hno⟩ := xx
    have J : L2.Inv X pins σ' H' sI := J'.ofTry ok
    have sky' : Sky B (X.env :: X.outer) a (Zc cls d) X.env.locals s'.heap := by rw [← hs]; exact sky
    have nB : B.get? a = none := by
      rcases sky with ⟨_, z, _⟩ | ⟨_, z, _⟩ | ⟨_, z, _⟩ <;> exact z
    show wpAny (model X.prog X.w) X.A (noteFrame (.ref a) X.env) _ _ _
    refine Sky.land Zc.steady hfr hf sky' fun h3 fl3 up3 => ?_
    have J3 : L2.Inv X pins σ' H' { s' with heap := h3 } := J.landed nb fl3.1 (up.trans up3) os ag
    obtain ⟨oe3, vs3, he3, hz3, hd3⟩ := fl3.there
    have notFr : ∀ {h : Heap} {o : PySem.Obj} {vs : Array Value}, h.FunFrames B (X.env :: X.outer) → h.get? a = some o → o.data = .fields vs → a ∉ frs (X.env :: X.outer) := fun {h o vs} ff e dd hm => by
      obtain ⟨_, o', e', hnf⟩ := ff.mem hm
      rw [e] at e'; cases e'
      exact hnf _ dd
    have nfr := notFr fl3.2.2.1 he3 hd3
    have nL : a ≠ X.env.locals := fun z => nfr (List.mem_filterMap.mpr ⟨X.env, List.mem_cons_self, by rw [hf, z]⟩)
    have nF : a ∉ X.fs := fun hm => by
      obtain ⟨e, he, q⟩ := List.mem_filterMap.mp hm
      exact nfr (List.mem_filterMap.mpr ⟨e, List.mem_cons_of_mem _ he, q⟩)
    -- new since the entry
    have n0 : X.s_0.heap.get? a = none := by
      cases e : X.s_0.heap.get? a with
      | none => rfl
      | some o =>
        obtain ⟨o', e'⟩ := J.base.there a o e (by rw [hex]; exact fun z => nomatch z)
        have := nb a o' e' (by rw [hs]; exact nfr)
        rw [nB] at this; cases this
    have ownB : ∀ b o, sI.heap.get? b = some o → b ≠ X.env.locals → b ∉ X.fs → b ≠ a := fun b o e h1 h2 z => by
      have := nb b o e (by rw [hs]; intro hm; rcases List.mem_filterMap.mp hm with ⟨y, hy, q⟩; rcases List.mem_cons.mp hy with w | w
                           · rw [w, hf] at q; exact h1 (Option.some.inj q).symm
                           · exact h2 (List.mem_filterMap.mpr ⟨y, w, q⟩))
      rw [z, nB] at this; cases this
    have npins : ∀ p ∈ X.pn ++ pins, p.1 ≠ a := fun p hp => by
      obtain ⟨e, _, h1, h2, _⟩ := J.pin p hp
      exact ownB p.1 p.2 e h1 h2
    have ncell : ∀ y q, X.env.cells.lookup y = some q → q ≠ a := fun y q e => by
      obtain ⟨v, o, e2, e3⟩ := J3.cell y q e
      intro z
      rw [z, he3] at e2
      cases e2
      rw [hd3] at e3
      cases e3
    have S3 := J3.suite he3 hd3 na nL nF
    refine wpAny_handleBy_cons (codeAny_handlers_test ?_) (by intro q; cases q)
    have LT : PySem.W.Looks (model X.prog X.w) h3 (typeOf (.ref a)) cls := fun A Q E s k q => wpAny_typeOf_ref (k _ _ he3) (by rw [hz3.1]; exact q)
    have LM := PySem.W.exm_one (M := model X.prog X.w) (J3.kIn) LT hb1
    have test : ∀ {Q : Value → Shared → Prop} {E : Value → Shared → Prop}, Q c { s' with heap := h3 } → wpAny (model X.prog X.w) (X.A.mark (some (.ref a))) (eval (.Name x np) X.env) Q E { s' with heap := h3 } := fun {Q E} q => by
      obtain ⟨hg, hdbg, hm | ⟨hm, hv, hnn⟩⟩ := hc
      · exact ld_glob (X := X.suite a ((a, oe3) :: (X.pn ++ pins))) S3 hg hm q hdbg
      · exact ld_blt (X := X.suite a ((a, oe3) :: (X.pn ++ pins))) S3 hg hm hv q hnn hdbg
    refine test (LM.here ?_)
    cases b with
    | true =>
      obtain ⟨ed, hyes⟩ := hyes rfl
      refine codeAny_handlers_suite_as ?_
      refine HandSPX.lands_againZ fl3 fun h4 fl4 up4 => ?_
      have J4 : L2.Inv X pins σ' H' { s' with heap := h4 } := J.landed nb fl4.1 ((up.trans up3).trans up4) os ag
      obtain ⟨oe4, vs4, he4, hz4, hd4⟩ := fl4.there
      have S4 := J4.suite he4 hd4 na nL nF
      refine store_ok (X := X.suite a ((a, oe4) :: (X.pn ++ pins))) (v := .ref a) S4 hN hi hloc rfl (fun s5 S5 => ?_) (.inr hln)
      have asg : PSs (X.suite a ((a, oe4) :: (X.pn ++ pins))) [.Assign [.Name kn kp] (.Name n np2) apos] (tAsg (tVar i) (gName j)) :=
        pss_one (ps_set hN hj (.inl hlk) (pe_var hi (.inl hln) hdn hcn) rfl (.inr hlk))
      have hlt : i < σ'.length := by rw [J.len]; exact (List.getElem?_eq_some_iff.mp hi).1
      refine wpAny_mono (asg.run [] s5 _ H' ⟨fun σ6 H6 => σ6 = (σ'.set i (some (.ref a))).set j (some (.ref a)) ∧ H6 = H', fun _ _ => False, fun _ _ => False, fun _ _ => False⟩ S5 ⟨.ref a, by rw [List.getElem?_set_self hlt], rfl, rfl⟩) (fun f s6 hsp => ?_) (fun _ _ z => False.elim z)
      have end_ : ∀ {σ6 : L2.St} {H6 : Hp} {Q : Shared → Prop}, L2.Inv (X.suite a ((a, oe4) :: (X.pn ++ pins))) [] σ6 H6 s6 → (∀ s7, L2.Inv X pins (σ6.set i none) H6 s7 → s7.heap.get? a = some oe4 → Q s7) →
          wpAny (model X.prog X.w) X.A (do bindName X.env n .none; unbindBehindTheSuite X.env n pos') (fun _ s7 => Q s7) X.xe s6 := fun {σ6 H6 Q} S6 hq => by
        -- the object stays: it is pinned in a context of its own
        have hp6 := S6.pin (a, oe4) (List.mem_append.mpr (.inl List.mem_cons_self))
        have J6 : L2.Inv (X.tr ((a, oe4) :: (X.pn ++ pins)) X.xe) [] σ6 H6 s6 := ⟨ok.toTry _ _, S6.os, S6.bare, S6.base, S6.loc, S6.cell, S6.free, S6.freeC, fun p hp => S6.pin p (by rw [List.append_nil] at hp; exact List.mem_append.mpr (.inl hp)), S6.hok, S6.len⟩
        refine wpAny_mono (gone_ok (X := X.tr ((a, oe4) :: (X.pn ++ pins)) X.xe) (pins := []) J6 hN hi hln (Q := fun _ s7 => L2.Inv (X.tr ((a, oe4) :: (X.pn ++ pins)) X.xe) [] (σ6.set i none) H6 s7) fun s7 J7 => J7) (fun _ s7 J7 => ?_) fun _ _ z => z
        refine hq s7 ⟨ok, J7.os, J7.bare, J7.base, J7.loc, J7.cell, J7.free, J7.freeC, fun p hp => J7.pin p (List.mem_append.mpr (.inl (List.mem_cons_of_mem _ hp))), J7.hok, J7.len⟩ (J7.pin (a, oe4) (List.mem_append.mpr (.inl List.mem_cons_self))).1
      cases f with
      | next =>
        obtain ⟨σ6, H6, S6, eσ, eH⟩ := hsp
        refine end_ S6 fun s7 J7 h7 => ?_
        subst eσ eH
        have ext : ObjOk X.prog X.w (upd H6 a (ExV cls a)) s7.heap a (ExV cls a) := ⟨⟨oe4, vs4, h7, by rw [← ed]; exact hz4, hd4⟩, ⟨oe4, h7⟩, fun h1 h2 ⟨oe, vs, e1, e2, e3⟩ k => ⟨oe, vs, k _ e1, e2, e3⟩⟩
        have T7 := inv_track J7 na n0 hex npins (Ne.symm nL) ncell ext
        have q7 := hyes a na
        have eset : (((σ'.set i (some (V.ref a))).set j (some (V.ref a))).set i none) = ((σ'.set j (some (V.ref a))).set i none) := by
          rw [List.set_comm _ _ hij, List.set_set]
        rw [← eset] at q7
        exact ⟨_, _, T7, q7⟩
      | brk => obtain ⟨_, _, _, q6⟩ := hsp; exact q6.elim
      | cont => obtain ⟨_, _, _, q6⟩ := hsp; exact q6.elim
      | ret u => obtain ⟨_, _, _, _, _, q6⟩ := hsp; exact q6.elim
    | false =>
      show wpAny _ X.A (handleBy (.ref a) X.env []) _ _ _
      refine wpAny_handleBy_nil ?_
      obtain ⟨k1, k2, k3, oe, vs, T, oT, ts', he, hz, hd, h1, hr⟩ := id fl3
      unfold PySem.passOn
      refine wpAny_bind (wpAny_field he hd h1 ?_)
      rw [if_neg (show ¬ ((Value.ref T == Value.none) = true) from by simp)]
      have fin : wpAny (model X.prog X.w) X.A (setFlight (.ref a) X.env.frame) (fun _ s4 => wpAny (model X.prog X.w) X.A (throw (.ref a) : Sem PySem.Flow) (SP X pins D) X.xe s4) X.xe { s' with heap := h3 } := by
        rw [hf]
        refine HandSPX.setFlight_upZ fl3 fun h4 hh4 up4 => wpAny_throw (tk _ _ ?_)
        exact ⟨a, B, sI, pins, σ', H', cls, d, rfl, J, nb, (up.trans up3).trans up4, .inr (.inr (by rw [hs]; exact hh4)), na, os, ag, hno rfl⟩
      first
        | exact wpAny_bind (wpAny_pure (wpAny_bind fin))
        | exact wpAny_bind fin
  · cases f with
    | next =>
      obtain ⟨σ', H', J', q⟩ := hsp
      exact wpAny_execs_nil ⟨σ', H', J'.ofTry ok, q⟩
    | brk =>
      obtain ⟨σ', H', J', q⟩ := hsp
      exact ⟨σ', H', J'.ofTry ok, q⟩
    | cont =>
      obtain ⟨σ', H', J', q⟩ := hsp
      exact ⟨σ', H', J'.ofTry ok, q⟩
    | ret u =>
      obtain ⟨v, σ', H', J', r, q⟩ := hsp
      exact ⟨v, σ', H', J'.ofTry ok, r, q⟩
end
end Mi

set_option Elab.async false
set_option linter.all false
set_option autoImplicit false
set_option maxRecDepth 100000
set_option maxHeartbeats 2000000
/-! So: what compiles keeps its result: statements, one after another. -/
namespace Mi
open PySem L2 LamX PyProof.Rows PySem.Spec
section
variable {F : Fx} {pg : Pg} {n : Nat} {o : M D} {c : Cn} {X : Cx}
/-- within a try -/
theorem GoodX.tr (g : GoodX F pg n o c X) (pn : List (Addr × PySem.Obj)) (xe : Value → Shared → Prop) (hp : PassesOwn (model X.prog X.w) X.A X.env xe) : GoodX F pg n o c (X.tr pn xe) :=
  { hN := g.hN, nd := g.nd, sc := g.sc, hK := g.hK, calm := g.calm, room := g.room, bk := g.bk, st := g.st, calls := g.calls, fnl := g.fnl, orc := fun x h1 h2 p pos W pn2 xe2 tk => g.orc x h1 h2 p pos W pn2 xe2 tk, pin := g.pin, own := g.own, lam := g.lam, po := fun _ => hp, fr := g.fr }
def OkS (F : Fx) (pg : Pg) (n : Nat) (o : M D) (X : Cx) (st : Stmt) (s : S) : Prop := ∀ W, L2.Takes X W → PS X st (tS F W (exS (gOf pg n o) s))
def OkSs (F : Fx) (pg : Pg) (n : Nat) (o : M D) (X : Cx) (sts : List Stmt) (s : S) : Prop := ∀ W, L2.Takes X W → PSs X sts (tS F W (exS (gOf pg n o) s))
theorem ps_now {W : WX} {p : Rho} {H : Hp} {f : Fr} {h : Sto} {s : L2.St} {fl : Flow} {De : Ends} (x : PS_ F W p H (.ok fl f h) De) (hr : F.HR p h H) (fr : FR F p H f s) : (match fl with
    | .next => De.nx s H
    | .brk => De.bk s H
    | .cnt => De.ct s H
    | .ret d => ∀ v, F.DR p H d v → De.rt v H) := by
  cases fl <;> exact x p H s (Step.rfl' _ _) hr fr
theorem ok_pas {pos : Pos} : OkS F pg n o X (.Pass pos) .pas := fun W tk => ps_weak ps_pass fun De s H ⟨p, f, h, fr, hr, pd⟩ => by rw [exS] at pd; exact ps_now pd hr fr
theorem ok_brk {pos : Pos} : OkS F pg n o X (.Break pos) .brk := fun W tk => ps_weak ps_break fun De s H ⟨p, f, h, fr, hr, pd⟩ => by rw [exS] at pd; exact ps_now pd hr fr
theorem ok_cnt {pos : Pos} : OkS F pg n o X (.Continue pos) .cnt := fun W tk => ps_weak ps_continue fun De s H ⟨p, f, h, fr, hr, pd⟩ => by rw [exS] at pd; exact ps_now pd hr fr
theorem ok_retN {pos : Pos} : OkS F pg n o X (.Return none pos) .retN := fun W tk => ps_weak ps_retN fun De s H ⟨p, f, h, fr, hr, pd⟩ => by rw [exS] at pd; exact ps_now pd hr fr .non .non
theorem swap_none {e : Expr} {t : Option Expr} {l : Nat} {env : Env} (h : noComp e = true) : swapsWith e t l env = pure false := by
  cases e <;> first | rfl | (cases h)
theorem sole_none {e t : Expr} {l : Nat} {env : Env} (h : noComp e = true) : swapsWithSole [t] e l env = pure false := (show swapsWithSole [t] e l env = swapsWith e (some t) l env from rfl).trans (swap_none h)
theorem ok_exp {e : Expr} {x : E} {pos : Pos} (he : OkE F pg n o X e x) (hc : noComp e = true) : OkS F pg n o X (.Expr e pos) (.exp x) := by
  intro W tk
  refine ps_weak (ps_expr (he W tk) (swap_none hc)) fun De s H ⟨p, f, h, fr, hr, pd⟩ => ?_
  rw [exS] at pd
  exact ⟨p, f, h, fr, hr, ps_use fr pd fun p1 h1 e v H1 st hr1 fr1 r1 pd1 => ps_now pd1 hr1 fr1⟩
theorem ok_ret {e : Expr} {x : E} {pos : Pos} (he : OkE F pg n o X e x) : OkS F pg n o X (.Return (some e) pos) (.ret x) := by
  intro W tk
  refine ps_weak (ps_ret (he W tk)) fun De s H ⟨p, f, h, fr, hr, pd⟩ => ?_
  rw [exS] at pd
  exact ⟨p, f, h, fr, hr, ps_use fr pd fun p1 h1 e v H1 st hr1 fr1 r1 pd1 => ps_now pd1 hr1 fr1 v r1⟩
theorem ok_ite {e : Expr} {x : E} {a b : List Stmt} {y z : S} {pos : Pos} (he : OkT F pg n o X e x) (ha : OkSs F pg n o X a y) (hb : OkSs F pg n o X b z) : OkS F pg n o X (.If e a b pos) (.ite x y z) := by
  intro W tk
  refine ps_weak (ps_if (he W tk) (ha W tk) (hb W tk)) fun De s H ⟨p, f, h, fr, hr, pd⟩ => ?_
  rw [exS] at pd
  refine ⟨p, f, h, fr, hr, ps_use fr pd fun p1 h1 e v H1 st hr1 fr1 r1 pd1 => ?_⟩
  cases (show v = e from r1)
  cases e with
  | true => exact ⟨p1, f, h1, fr1, hr1, pd1⟩
  | false => exact ⟨p1, f, h1, fr1, hr1, pd1⟩
theorem ok_nil : OkSs F pg n o X [] .pas := fun W tk => pss_weak pss_nil fun De s H ⟨p, f, h, fr, hr, pd⟩ => by rw [exS] at pd; exact ps_now pd hr fr
theorem ok_one {st : Stmt} {s : S} (h : OkS F pg n o X st s) : OkSs F pg n o X [st] s := fun W tk => pss_one (h W tk)
theorem ok_seq {st : Stmt} {sts : List Stmt} {x y : S} (h1 : OkS F pg n o X st x) (h2 : OkSs F pg n o X sts y) : OkSs F pg n o X (st :: sts) (.seq x y) := by
  intro W tk
  refine pss_weak (pss_cons (h1 W tk) (h2 W tk)) fun De s H ⟨p, f, h, fr, hr, pd⟩ => ⟨p, f, h, fr, hr, ?_⟩
  rw [exS] at pd
  unfold seqS at pd
  cases e : exS (gOf pg n o) x f h with
  | ok fl f1 h1 =>
    rw [e] at pd
    cases fl with
    | next => exact fun p1 H1 s1 st1 hr1 fr1 => ⟨p1, f1, h1, fr1, hr1, pd.mono st1⟩
    | brk => exact pd
    | cnt => exact pd
    | ret d => exact pd
  | exn k f1 h1 => rw [e] at pd; exact pd
  | bad => rw [e] at pd; exact pd

theorem ok_set (g : GoodX F pg n o c X) {x : Str} {i : Nat} {e : Expr} {y : E} {pos p : Pos} (hs : c.store x = some i) (he : OkE F pg n o X e y) (hc : noComp e = true) : OkS F pg n o X (.Assign [.Name x p] e pos) (.set i y) := by
  intro W tk
  obtain ⟨h2, h3, h4, h5⟩ := store_of g hs
  refine ps_weak (ps_set (by rw [g.hN]; exact g.nd) h2 h3 (he W tk) (swap_none hc) h5) fun De s H ⟨p, f, h, fr, hr, pd⟩ => ?_
  rw [exS] at pd
  exact ⟨p, f, h, fr, hr, ps_use fr pd fun p1 h1 e v H1 st hr1 fr1 r1 pd1 => ps_now pd1 hr1 (fr1.set i h4 r1)⟩
theorem ok_setT (g : GoodX F pg n o c X) {ts : List Expr} {is : List Nat} {e : Expr} {y : E} {k1 : Nat} {pos p : Pos} (ht : cTg c ts = some is) (he : OkE F pg n o X e y) (hc : noComp e = true) (hw : swappedStores [.Tuple ts k1 p] e X.env = pure none) : OkS F pg n o X (.Assign [.Tuple ts k1 p] e pos) (.setT is y) := by
  intro W tk
  obtain ⟨g1, g2, g3⟩ := tgs_pg g ht
  refine ps_weak (ps_asg (he W tk) (pg_tup g.calm g1 g2 g3) (sole_none hc) hw) fun De s H ⟨p, f, h, fr, hr, pd⟩ => ?_
  rw [exS] at pd
  refine ⟨p, f, h, fr, hr, ps_use fr pd fun p1 h1 d v H1 st1 hr1 fr1 r1 pd1 => ?_⟩
  have pd1 : PS_ F W p1 H1 ((match setTg (.many is) d f with | some σ1 => .ok .next σ1 h1 | none => .bad : RS)) De := pd1
  cases e1 : setTg (.many is) d f with
  | none => rw [e1] at pd1; exact pd1.elim
  | some f2 =>
    rw [e1] at pd1
    exact tg_run g.hK (t := .many is) (tgs_off g ht) r1 fr1 e1 fun s1 fr2 _ => ps_now pd1 hr1 fr2
/-! ### a, *b, c = .. -/
def gStar (K : PySem.W.Frag) (n i : Nat) (u : TGs) : TG := fun v σ H Q => ∃ a xs, v = .ref a ∧ (SqL K H a xs ∨ SqT K H a xs) ∧ n ≤ xs.length + 1 ∧ i < n ∧
  ∀ q, H q = none → u (xs.take i ++ [.ref q] ++ (xs.drop i).drop (xs.length - (n - 1))) σ (upd H q (.lst ((xs.drop i).take (xs.length - (n - 1))))) Q
theorem vals_take {vs : List V} {us : List Value} (r : Vals vs us) : ∀ n, Vals (vs.take n) (us.take n) := by
  induction r with
  | nil => intro n; simp; exact .nil
  | cons a r ih =>
    intro n
    cases n with
    | zero => exact .nil
    | succ n => exact .cons a (ih n)
theorem vals_drop {vs : List V} {us : List Value} (r : Vals vs us) : ∀ n, Vals (vs.drop n) (us.drop n) := by
  induction r with
  | nil => intro n; simp; exact .nil
  | cons a r ih =>
    intro n
    cases n with
    | zero => exact .cons a r
    | succ n => exact ih n
theorem pg_star {es ts : List Expr} {kk i m : Nat} {u : TGs} {pos : Pos} (hc : X.calm = true) (h : PGs X ts u) (he : (assignEach es X.env).map (·.2) = (assignEach ts X.env).map (·.2)) (hf : (assignEach es X.env).findIdx? (·.1) = some i) (hn : (assignEach es X.env).length = m) :
    PG X (.Tuple es kk pos) (gStar X.K m i u) := by
  refine ⟨fun pins s σ H v w Q I r hw => ?_⟩
  obtain ⟨a, xs, e1, hq, hl, hi, hw⟩ := hw
  subst e1
  cases r
  rw [assign_Tuple]
  refine wpAny_bind (wpAny_standAt ?_)
  unfold unpack
  rw [hn, hf, he]
  have fin : ∀ (its : List Value), Vals xs its → its.length ≤ sizeLine → ∀ (h' : Heap) (tk : Nat), (∀ b o, s.heap.get? b = some o → h'.get? b = some o) →
      wpAny (model X.prog X.w) X.A (assignInOrder ((assignEach ts X.env).map (·.2)) (its.toArray.toList.take i ++ [.ref h'.objs.size] ++ (its.toArray.toList.drop i).drop (its.toArray.size - (m - 1)))) (fun _ s' => ∃ σ' H', L2.Inv X pins σ' H' s' ∧ Q σ' H') X.xe
        { s with heap := h'.push { cls := .type "list", data := .seq ((its.toArray.toList.drop i).take (its.toArray.size - (m - 1))).toArray }, toks := tk } := fun its rv hz h' tk hk => by
    have hlen := rv.length
    have es : its.toArray.size = xs.length := by simp [hlen]
    rw [es]
    have I1 : L2.Inv X pins σ H { s with heap := h' } := I.kept (t' := s.toks) hk
    have hfr : H h'.objs.size = none := I1.hok.fresh (Nat.le_refl _)
    have rm : Vals ((xs.drop i).take (xs.length - (m - 1))) ((its.drop i).take (xs.length - (m - 1))) := vals_take (vals_drop rv i) _
    have I2 : L2.Inv X pins σ (upd H h'.objs.size (.lst ((xs.drop i).take (xs.length - (m - 1))))) { s with heap := h'.push { cls := .type "list", data := .seq ((its.drop i).take (xs.length - (m - 1))).toArray }, toks := tk } := by
      refine L2.Inv.laid (s := { s with heap := h' }) (t' := tk) I1 (fun b o e => Heap.get?_push_of_some _ e) (Nat.le_refl _) ⟨?_, _, 0, rm, Heap.get?_push_size _ rfl⟩
      have := hlen
      simp
      omega
    have rr : Vals (xs.take i ++ [V.ref h'.objs.size] ++ (xs.drop i).drop (xs.length - (m - 1))) (its.take i ++ [Value.ref h'.objs.size] ++ (its.drop i).drop (xs.length - (m - 1))) :=
      Vals.append (Vals.append (vals_take rv i) (.cons (show L2.RelV (V.ref h'.objs.size) (Value.ref h'.objs.size) from rfl) .nil)) (vals_drop (vals_drop rv i) _)
    exact h.run pins _ σ _ _ _ Q I2 rr (hw _ hfr)
  rcases hq with hq | hq
  · obtain ⟨its, rv, pl, hz⟩ := I.list hq
    have hlen := rv.length
    exact wpAny_bind (wpAny_holding (star_lst (I.ok.hd hc) pl.isList hi (by simp; omega) (by simp; omega) (fin its rv (by omega))))
  · obtain ⟨its, rv, pl, hz⟩ := I.tuple hq
    have hlen := rv.length
    exact wpAny_bind (wpAny_holding (star_tup (I.ok.hd hc) pl hi (by simp; omega) (by simp; omega) (fin its rv (by omega))))
theorem ae_len {env : Env} : ∀ ts : List Expr, (assignEach ts env).length = ts.length
  | [] => rfl
  | t :: r => by
    have ih := ae_len (env := env) r
    cases t with
    | Starred x p => exact congrArg Nat.succ ih
    | _ => exact congrArg Nat.succ ih
theorem unStar_ok {env : Env} : ∀ {ts ts2 : List Expr} {i : Nat}, unStar ts = some (ts2, i) → (assignEach ts env).map (·.2) = (assignEach ts2 env).map (·.2) ∧ (assignEach ts env).findIdx? (·.1) = some i ∧ (assignEach ts env).length = ts2.length ∧ i < ts2.length
  | [], _, _, h => by cases h
  | t :: r, ts2, i, h => by
    have rest : (∀ (env : Env), assignEach (t :: r) env = (false, assign t env) :: assignEach r env) → (unStar r).map (fun (ts, i) => (t :: ts, i + 1)) = some (ts2, i) → noStar t = true → (assignEach (t :: r) env).map (·.2) = (assignEach ts2 env).map (·.2) ∧ (assignEach (t :: r) env).findIdx? (·.1) = some i ∧ (assignEach (t :: r) env).length = ts2.length ∧ i < ts2.length := fun ha h hs => by
      cases e : unStar r with
      | none => rw [e] at h; cases h
      | some z =>
        obtain ⟨ts3, j⟩ := z
        rw [e] at h
        cases h
        obtain ⟨h1, h2, h3, h4⟩ := unStar_ok (env := env) e
        have ha2 : assignEach (t :: ts3) env = (false, assign t env) :: assignEach ts3 env := by cases t <;> first | rfl | cases hs
        rw [ha, ha2]
        refine ⟨by simp [h1], ?_, by simp [h3], by simp; omega⟩
        rw [List.findIdx?_cons, h2]
        rfl
    cases t with
    | Starred x p =>
      have h : (if r.all noStar && noStar x then some (x :: r, 0) else none) = some (ts2, i) := h
      by_cases k : (r.all noStar && noStar x) = true
      · rw [if_pos k] at h
        cases h
        obtain ⟨k1, k2⟩ := Bool.and_eq_true_iff.mp k
        have ha : assignEach (.Starred x p :: r) env = (true, assign x env) :: assignEach r env := rfl
        have ha2 : assignEach (x :: r) env = (false, assign x env) :: assignEach r env := by cases x <;> first | rfl | cases k2
        rw [ha, ha2]
        refine ⟨rfl, ?_, by simp [ae_len], by simp⟩
        rw [List.findIdx?_cons]
        rfl
      · rw [if_neg k] at h; cases h
    | _ => exact rest (fun _ => rfl) h rfl
theorem ok_setS (g : GoodX F pg n o c X) {ts ts2 : List Expr} {is : List Nat} {i : Nat} {e : Expr} {y : E} {k1 : Nat} {pos p : Pos} (hu : unStar ts = some (ts2, i)) (ht : cTg c ts2 = some is) (he : OkE F pg n o X e y) (hc : noComp e = true) (hw : swappedStores [.Tuple ts k1 p] e X.env = pure none) : OkS F pg n o X (.Assign [.Tuple ts k1 p] e pos) (.setS is i y) := by
  intro W tk
  obtain ⟨g1, g2, g3⟩ := tgs_pg g ht
  obtain ⟨u1, u2, u3, u4⟩ := unStar_ok (env := X.env) hu
  have hl : ts2.length = is.length := by
    have : ∀ {ts : List Expr} {is : List Nat}, cTg c ts = some is → ts.length = is.length := by
      intro ts
      induction ts with
      | nil => intro is h; cases h; rfl
      | cons t ts ih =>
        intro is h
        cases t with
        | Name x q =>
          have h : (match c.store x, cTg c ts with | some i, some is => some (i :: is) | _, _ => none) = some is := h
          cases e1 : c.store x with
          | none => rw [e1] at h; cases h
          | some j =>
            cases e2 : cTg c ts with
            | none => rw [e1, e2] at h; cases h
            | some js => rw [e1, e2] at h; cases h; simp [ih e2]
        | _ => cases h
    exact this ht
  refine ps_weak (ps_asg (he W tk) (pg_star g.calm g1 u1 u2 (u3.trans hl)) (sole_none hc) hw) fun De s H ⟨p, f, h, fr, hr, pd⟩ => ?_
  rw [exS] at pd
  refine ⟨p, f, h, fr, hr, ps_use fr pd fun p1 h1 d v H1 st1 hr1 fr1 r1 pd1 => ?_⟩
  have pd1 : PS_ F W p1 H1 ((match seqOf h1 d with
    | some ds => if is.length ≤ ds.length + 1 ∧ i < is.length then (match setMany is (starD is.length i h1.length ds) f with
      | some σ1 => .ok .next σ1 (h1 ++ [.lst (starMid is.length i ds)])
      | none => .bad) else .bad
    | none => .bad : RS)) De := pd1
  cases e1 : seqOf h1 d with
  | none => rw [e1] at pd1; exact pd1.elim
  | some ds =>
    rw [e1] at pd1
    dsimp only at pd1
    by_cases k : is.length ≤ ds.length + 1 ∧ i < is.length
    · rw [if_pos k] at pd1
      cases e2 : setMany is (starD is.length i h1.length ds) f with
      | none => rw [e2] at pd1; exact pd1.elim
      | some f2 =>
        rw [e2] at pd1
        have main : ∀ {a : Addr} {vs : List V}, v = .ref a → (SqL X.K H1 a vs ∨ SqT X.K H1 a vs) → F.DRs p1 H1 ds vs → gStar X.K is.length i (gsOf is) v s H1 (fun s1 H2 => De.nx s1 H2) := fun {a vs} ev hq rs => by
          refine ⟨a, vs, ev, hq, by rw [← rs.length]; exact k.1, k.2, fun q hq0 => ?_⟩
          rw [← rs.length]
          have st2 : Step p1 H1 (p1 ++ [q]) (upd H1 q (.lst ((vs.drop i).take (ds.length - (is.length - 1))))) := step_alloc hq0
          have rm : F.DRs p1 H1 (starMid is.length i ds) ((vs.drop i).take (ds.length - (is.length - 1))) := (rs.drop i).take _
          have hr2 : F.HR (p1 ++ [q]) (h1 ++ [.lst (starMid is.length i ds)]) (upd H1 q (.lst ((vs.drop i).take (ds.length - (is.length - 1))))) := hr1.alloc hq0 trivial ⟨_, upd_same, rm.mono st2⟩
          have rd : F.DRs (p1 ++ [q]) (upd H1 q (.lst ((vs.drop i).take (ds.length - (is.length - 1))))) (starD is.length i h1.length ds) (vs.take i ++ [.ref q] ++ (vs.drop i).drop (ds.length - (is.length - 1))) :=
            (((rs.mono st2).take i).append (.cons (.ref (by rw [← hr1.len]; simp)) .nil)).append (((rs.mono st2).drop i).drop _)
          exact gs_run (tgs_off g ht) rd (fr1.mono st2) e2 fun s1 fr2 _ => ps_now (pd1.mono st2) hr2 fr2
        cases d with
        | tup xs =>
          cases e1
          cases r1 with
          | tup hq rs => exact main rfl (.inr (by rw [← g.hK]; exact hq)) rs
        | ref l =>
          have e1 : (match h1[l]? with | some (.lst ds) => some ds | _ => none) = some ds := e1
          cases e3 : h1[l]? with
          | none => rw [e3] at e1; cases e1
          | some ob =>
            obtain ⟨a, e4, e5, or_⟩ := DR.ref_at hr1 r1 e3
            subst e4
            rw [e3] at e1
            cases ob with
            | lst xs =>
              cases e1
              obtain ⟨vs, q1, q2⟩ := or_
              exact main rfl (.inl (SqL.of q1)) q2
            | _ => cases e1
        | _ => cases e1
    · rw [if_neg k] at pd1; exact pd1.elim
/-- name = [..], the model's own road -/
theorem ok_lcAny (g : GoodX F pg n o c X) (ihb : ∀ k c' X', GoodX F pg n o c' X' → ∀ e x, cE k c' e = some x → OkE F pg n o X' e x ∧ OkT F pg n o X' e x) {k : Nat} {z : Str} {i : Nat} {zp pos : Pos} {e : Expr} {y : E} (hz : c.store z = some i) (hsw : swLc c z zp.line e = true) (h : cE k c e = some y) : OkS F pg n o X (.Assign [.Name z zp] e pos) (.set i y) := by
  unfold swLc at hsw
  split at hsw
  · rename_i elt tg it ifs scope lpos
    cases k with
    | zero => cases h
    | succ k =>
      have h : (if blkC c.N c.sc scope (ownOf c.N scope) && noSetIt it && ((ownOf c.N scope).all fun p => decide (c.orc ≠ some p.1)) then
        (match cForTg (cnBlk c scope) tg, cSrcF (cE k c) c it, cIf (cE k (cnBlk c scope)) ifs, cE k (cnBlk c scope) elt with
        | some t, some (k, as), some x, some y => if tgIn ((ownOf c.N scope).map (·.2)) t then some (E.lc t k as x y ((ownOf c.N scope).map (·.2))) else none
        | _, _, _, _ => none)
      else none) = some y := h
      split at h
      · rename_i k0
        simp only [Bool.and_eq_true] at k0
        obtain ⟨⟨k1, k2⟩, k3⟩ := k0
        split at h
        · rename_i q1 q2 q3 q4
          split at h
          · rename_i k4
            cases h
            exact ok_setLc g (ihb k) hz hsw k1 k3 q1 q2 q3 q4 k4
          · cases h
        · cases h
      · cases h
  · cases hsw
end
end Mi

set_option Elab.async false
set_option linter.all false
set_option autoImplicit false
set_option maxRecDepth 100000
set_option maxHeartbeats 2000000
/-! Sp: what compiles keeps its result: more statements. -/
namespace Mi
open PySem L2 LamX PyProof.Rows PySem.Spec
section
variable {F : Fx} {pg : Pg} {n : Nat} {o : M D} {c : Cn} {X : Cx}
theorem swap_of {env : Env} {ts vs : List Expr} {k1 k2 : Nat} {p1 p2 : Pos} {r : Option (List Str)} (bk : env.blockKind = .function) (hk : ∀ x, env.kindOf x = c.kind x) (hb : c.blk = false) (h : swapC c ts vs = some r) : swappedStores [.Tuple ts k1 p1] (.Tuple vs k2 p2) env = pure r := by
  have k1 : ∀ {f g : Expr → Bool}, (∀ x, f x = g x) → vs.any f = vs.any g := fun h => by rw [funext h]
  have k2 : ∀ {f g : Expr → Option Str}, (∀ x, f x = g x) → ts.filterMap f = ts.filterMap g := fun h => by rw [funext h]
  unfold swappedStores
  unfold swapC at h
  have e1 : (env.blockKind != ScopeKind.function) = false := by rw [bk]; rfl
  simp only [e1, hb, Bool.or_false] at h ⊢
  rw [k1 (g := isStarB) (fun x => by cases x <;> rfl), k2 (g := nameOn c ((ts.head?.map (·.pos.line)).getD 0)) (fun x => by cases x <;> first | rfl | (rw [hk]; rfl) | (simp only [hk, nameOn]))]
  split at h
  · rename_i q
    cases h
    rw [if_pos q]
  · rename_i q
    rw [if_neg q]
    split at h
    · rename_i q2
      cases h
      rw [if_pos q2]
    · rename_i q2
      rw [if_neg q2]
      split at h
      · rename_i q3
        cases h
        rw [if_pos q3]
      · rename_i q3
        rw [if_neg q3]
        split at h
        · rename_i q4
          cases h
          rw [if_pos q4]
        · rename_i q4
          rw [if_neg q4]
          split at h
          · cases h
          · rename_i q5
            cases h
            rw [if_neg q5]
theorem tgNames2 {ts : List Expr} {ns : List Str} (h : tgNames ts = some ns) : ∃ ps : List Pos, ts = List.zipWith Expr.Name ns ps ∧ ns.length = ts.length ∧ ps.length = ts.length := by
  induction ts generalizing ns with
  | nil => cases h; exact ⟨[], rfl, rfl, rfl⟩
  | cons t ts ih =>
    cases t with
    | Name x p =>
      have h : (tgNames ts).map (x :: ·) = some ns := h
      cases e : tgNames ts with
      | none => rw [e] at h; cases h
      | some ys =>
        rw [e] at h
        cases h
        obtain ⟨ps, e1, e2, e3⟩ := ih e
        refine ⟨p :: ps, ?_, by simp [e2], by simp [e3]⟩
        rw [List.zipWith_cons_cons, ← e1]
    | _ => cases h
theorem ok_par (g : GoodX F pg n o c X) {f : Expr → Option E} (ih : ∀ e x, f e = some x → OkE F pg n o X e x) {ts vs : List Expr} {ns : List Str} {is : List Nat} {xs : Es} {k1 k2 : Nat} {p1 p2 pos : Pos} (hb : c.blk = false) (h0 : swapC c ts vs = some (some ns)) (h1 : tgNames ts = some ns) (h2 : ns.all (fun x => decide (c.kind x = some .local)) = true)
    (h3 : cTg c ts = some is) (h4 : cAs f vs = some xs) (h5 : is.Nodup) : OkS F pg n o X (.Assign [.Tuple ts k1 p1] (.Tuple vs k2 p2) pos) (.par is xs) := by
  intro W tk
  have gk : ∀ x, X.env.kindOf x = c.kind x := fun x => by
    show X.env.scope.names.lookup x = c.sc.names.lookup x
    rw [g.sc]
  have hw := swap_of (env := X.env) (k1 := k1) (k2 := k2) (p1 := p1) (p2 := p2) g.bk gk hb h0
  have hl : (ts.length = 2 ∨ ts.length = 3) ∧ vs.length = ts.length := by
    unfold swapC at h0
    split at h0
    · cases h0
    · rename_i k
      simp only [Bool.or_eq_true, Bool.not_eq_true', bne_iff_ne, ne_eq, not_or, Bool.not_eq_false, Bool.not_eq_true, Bool.or_eq_false_iff, beq_iff_eq, Decidable.not_not] at k
      obtain ⟨⟨q1, q2⟩, _⟩ := k
      refine ⟨?_, q2⟩
      by_cases q3 : ts.length = 2
      · exact .inl q3
      · exact .inr (by simpa [q3] using q1)
  have loc : ∀ x ∈ ns, X.env.scope.names.lookup x = some .local := fun x hx => by
    have := of_decide_eq_true (List.all_eq_true.mp h2 x hx)
    rw [← gk] at this
    exact this
  obtain ⟨ps, e1, e2, e3⟩ := tgNames2 h1
  have fin : ∀ {De : Ends} {s : L2.St} {H : Hp} {p : Rho} {f0 : Fr} {h : Sto}, FR F p H f0 s → F.HR p h H → PS_ F W p H (exS (gOf pg n o) (.par is xs) f0 h) De →
      tA F W (evA (gE pg n o) xs) s H (fun vs H1 => ∃ p1 h1 ds f1, F.HR p1 h1 H1 ∧ FR F p1 H1 f0 s ∧ F.DRs p1 H1 ds vs ∧ setMany is ds f0 = some f1 ∧ PS_ F W p1 H1 (.ok .next f1 h1) De) := fun {De s H p f0 h} fr hr pd => by
    rw [exS] at pd
    refine ⟨p, f0, h, fr, hr, ps_use fr pd fun p1 h1 d v H1 st hr1 fr1 r1 pd1 => ?_⟩
    have pd1 : PS_ F W p1 H1 (match setMany is d f0 with | some σ1 => .ok .next σ1 h1 | none => .bad) De := pd1
    cases e : setMany is d f0 with
    | none => rw [e] at pd1; exact pd1.elim
    | some f1 => rw [e] at pd1; exact ⟨p1, h1, d, f1, hr1, fr1, r1, e, pd1⟩
  rcases hl with ⟨hl | hl, hv⟩
  · obtain ⟨x, y, rfl⟩ : ∃ x y, ns = [x, y] := by
      match ns, e2.trans hl with
      | [x, y], _ => exact ⟨x, y, rfl⟩
    obtain ⟨px, py, rfl⟩ : ∃ x y, ps = [x, y] := by
      match ps, e3.trans hl with
      | [x, y], _ => exact ⟨x, y, rfl⟩
    obtain ⟨a, b, rfl⟩ : ∃ x y, vs = [x, y] := by
      match vs, hv.trans hl with
      | [x, y], _ => exact ⟨x, y, rfl⟩
    subst e1
    have h3 : cTg c [.Name x px, .Name y py] = some is := h3
    unfold cTg at h3
    cases q1 : c.store x with
    | none => rw [q1] at h3; cases h3
    | some i =>
      cases q2 : c.store y with
      | none =>
        rw [q1] at h3
        have : cTg c [.Name y py] = none := by unfold cTg; rw [q2]
        rw [this] at h3; cases h3
      | some j =>
        have : cTg c [.Name y py] = some [j] := by unfold cTg; rw [q2]; rfl
        rw [q1, this] at h3
        cases h3
        obtain ⟨i2, _, i4, _⟩ := store_of g q1
        obtain ⟨j2, _, j4, _⟩ := store_of g q2
        have hij : i ≠ j := by simpa using h5
        refine ps_weak (ps_par g.calm (by rw [g.hN]; exact g.nd) i2 j2 hij (loc x (by simp)) (loc y (by simp)) (oka_of ih h4 W tk) hw) fun De s H ⟨p, f0, h, fr, hr, pd⟩ => ?_
        obtain ⟨p, f0', h, fr, hr, pd⟩ := fin fr hr pd
        refine ⟨p, f0', h, fr, hr, ?_⟩
        cases e : evA (gE pg n o) xs f0' h with
        | bad => rw [e] at pd; exact pd
        | exn k h1 => rw [e] at pd; exact pd
        | ok ds h1 =>
          rw [e] at pd
          intro p1 H1 vs st hr1 r1
          obtain ⟨p2, h2, es, f2, hr2, fr2, rs, hs, pd2⟩ := pd p1 H1 vs st hr1 r1
          match es, rs, hs with
          | [d1, d2], rs, hs =>
            obtain ⟨v, w, rfl, ra, rb⟩ := rs.two
            cases hs
            exact ⟨v, w, rfl, ps_now pd2 hr2 ((fr2.set i i4 ra).set j j4 rb)⟩
          | [], _, hs => cases hs
          | [_], _, hs => cases hs
          | _ :: _ :: _ :: _, _, hs => cases hs
  · obtain ⟨x, y, z, rfl⟩ : ∃ x y z, ns = [x, y, z] := by
      match ns, e2.trans hl with
      | [x, y, z], _ => exact ⟨x, y, z, rfl⟩
    obtain ⟨px, py, pz, rfl⟩ : ∃ x y z, ps = [x, y, z] := by
      match ps, e3.trans hl with
      | [x, y, z], _ => exact ⟨x, y, z, rfl⟩
    obtain ⟨a, b, d, rfl⟩ : ∃ x y z, vs = [x, y, z] := by
      match vs, hv.trans hl with
      | [x, y, z], _ => exact ⟨x, y, z, rfl⟩
    subst e1
    have h3 : cTg c [.Name x px, .Name y py, .Name z pz] = some is := h3
    cases q1 : c.store x with
    | none => unfold cTg at h3; rw [q1] at h3; cases h3
    | some i =>
      cases q2 : c.store y with
      | none =>
        have : cTg c [.Name y py, .Name z pz] = none := by unfold cTg; rw [q2]
        unfold cTg at h3
        rw [q1, this] at h3; cases h3
      | some j =>
        cases q3 : c.store z with
        | none =>
          have : cTg c [.Name z pz] = none := by unfold cTg; rw [q3]
          have : cTg c [.Name y py, .Name z pz] = none := by unfold cTg; rw [q2, this]
          unfold cTg at h3
          rw [q1, this] at h3; cases h3
        | some l =>
          have : cTg c [.Name z pz] = some [l] := by unfold cTg; rw [q3]; rfl
          have : cTg c [.Name y py, .Name z pz] = some [j, l] := by unfold cTg; rw [q2, this]
          unfold cTg at h3
          rw [q1, this] at h3
          cases h3
          obtain ⟨i2, _, i4, _⟩ := store_of g q1
          obtain ⟨j2, _, j4, _⟩ := store_of g q2
          obtain ⟨l2, _, l4, _⟩ := store_of g q3
          simp only [List.nodup_cons, List.mem_cons, List.not_mem_nil, or_false, not_or, not_false_eq_true, List.nodup_nil, and_true] at h5
          obtain ⟨⟨hij, hil⟩, hjl⟩ := h5
          refine ps_weak (ps_par3 g.calm (by rw [g.hN]; exact g.nd) i2 j2 l2 hij hil hjl (loc x (by simp)) (loc y (by simp)) (loc z (by simp)) (oka_of ih h4 W tk) hw) fun De s H ⟨p, f0, h, fr, hr, pd⟩ => ?_
          obtain ⟨p, f0', h, fr, hr, pd⟩ := fin fr hr pd
          refine ⟨p, f0', h, fr, hr, ?_⟩
          cases e : evA (gE pg n o) xs f0' h with
          | bad => rw [e] at pd; exact pd
          | exn k h1 => rw [e] at pd; exact pd
          | ok ds h1 =>
            rw [e] at pd
            intro p1 H1 vs st hr1 r1
            obtain ⟨p2, h2, es, f2, hr2, fr2, rs, hs, pd2⟩ := pd p1 H1 vs st hr1 r1
            match es, rs, hs with
            | [d1, d2, d3], rs, hs =>
              cases rs with
              | cons ra rs2 =>
                obtain ⟨v, w, rfl, rb, rc⟩ := rs2.two
                cases hs
                exact ⟨_, v, w, rfl, ps_now pd2 hr2 (((fr2.set i i4 ra).set j j4 rb).set l l4 rc)⟩
            | [], _, hs => cases hs
            | [_], _, hs => cases hs
            | [_, _], _, hs => cases hs
            | _ :: _ :: _ :: _ :: _, _, hs => cases hs

/-! ### x[y] = d -/
def rSet (F : Fx) : TSet := fun x y v H Q => ∃ p h a b d h1, F.HR p h H ∧ F.DR p H a x ∧ F.DR p H b y ∧ F.DR p H d v ∧ setID a b d h = some h1 ∧ ∀ H1, Step p H p H1 → F.HR p h1 H1 → Q H1
theorem set_any (hu : X.A.units + 1 < cLine) : PSet X (rSet F) := by
  intro pins s σ H x y v xv yv u Q I rx ry rv q
  obtain ⟨p, h, a, b, d, h1, hr, ra, rb, rd, e, q⟩ := q
  unfold setID at e
  cases a with
  | ref l =>
    dsimp only at e
    cases e1 : h[l]? with
    | none => rw [e1] at e; cases e
    | some ob =>
      obtain ⟨ad, e3, e4, or_⟩ := DR.ref_at hr ra e1
      subst e3
      rw [e1] at e
      cases e2 : keyOf b with
      | none => rw [e2] at e; cases ob <;> cases e
      | some k =>
        rw [e2] at e
        cases ob with
        | dct kvs =>
          have e : (if kvs.length < lim then some (h.set l (.dct (kput kvs k d))) else none) = some h1 := e
          by_cases c1 : kvs.length < lim
          · rw [if_pos c1] at e
            cases e
            obtain ⟨ws, q1, q2⟩ := or_
            have st : Step p H p (upd H ad (.dK (putK ws (kq k) v))) := step_write hr e1 e4 trivial trivial
            refine set_dict hu pins s σ H _ y v xv yv u Q I rx ry rv ⟨ad, _, rfl, ?_, q _ st (hr.write e1 e4 trivial trivial trivial ⟨_, upd_same, (q2.put k rd).mono st⟩)⟩
            rw [kq_kV rb e2]
            exact DPut.k q1 (by rw [← q2.length, lim_eq]; exact c1)
          · rw [if_neg c1] at e; cases e
        | lst ds =>
          cases k with
          | s x => cases e
          | i m =>
            have e : (match place ds.length m with | some j => some (h.set l (.lst (ds.set j d))) | none => none) = some h1 := e
            cases e5 : place ds.length m with
            | none => rw [e5] at e; cases e
            | some j =>
              rw [e5] at e
              cases e
              obtain ⟨vs, q1, q2⟩ := or_
              have st : Step p H p (upd H ad (.lst (vs.set j v))) := step_write hr e1 e4 trivial trivial
              have hy : y = .int m := by
                cases b with
                | int i => cases e2; cases rb; rfl
                | str s => cases e2
                | _ => cases e2
              refine set_list pins s σ H _ y v xv yv u Q I rx ry rv ⟨ad, vs, m, j, rfl, hy, q1, by rw [← q2.length, ← place_eq]; exact e5, q _ st (hr.write e1 e4 trivial trivial trivial ⟨_, upd_same, (q2.set j rd).mono st⟩)⟩
        | _ => cases e
  | _ => cases e
theorem ok_setI (g : GoodX F pg n o c X) {a b e : Expr} {x y z : E} {pos p : Pos} (hs : noSlice b = true) (hc : noComp e = true) (ha : OkE F pg n o X a x) (hb : OkE F pg n o X b y) (he : OkE F pg n o X e z) : OkS F pg n o X (.Assign [.Subscript a b p] e pos) (.setI x y z) := by
  intro W tk
  have hx : ∀ v, assign (.Subscript a b p) X.env v = (do
      let ov ← holding [v] (eval a X.env)
      let iv ← holding [v, ov] (eval b X.env)
      standAt p
      holding [v, ov, iv] (setItem ov iv v)
      release [v, ov, iv] []) := fun v => by
    cases b <;> first | rfl | (cases hs)
  refine ps_weak (ps_asg (he W tk) (pg_sub (ha W tk) (hb W tk) (set_any (F := F) (by have := unit_of g; omega)) hx) (sole_none hc) (by cases e <;> rfl)) fun De s H ⟨p, f, h, fr, hr, pd⟩ => ?_
  rw [exS] at pd
  refine ⟨p, f, h, fr, hr, ps_use fr pd fun p1 h1 d v H1 st1 hr1 fr1 r1 pd1 => ?_⟩
  refine ⟨p1, f, h1, fr1, hr1, ps_use fr1 pd1 fun p2 h2 d2 v2 H2 st2 hr2 fr2 r2 pd2 => ?_⟩
  refine ⟨p2, f, h2, fr2, hr2, ps_use fr2 pd2 fun p3 h3 d3 v3 H3 st3 hr3 fr3 r3 pd3 => ?_⟩
  have pd3 : PS_ F W p3 H3 (match setID d2 d3 d h3 with | some h1 => .ok .next f h1 | none => .bad) De := pd3
  cases e1 : setID d2 d3 d h3 with
  | none => rw [e1] at pd3; exact pd3.elim
  | some h4 =>
    rw [e1] at pd3
    exact ⟨p3, h3, d2, d3, d, h4, hr3, r2.mono st3, r3, (r1.mono st2).mono st3, e1, fun H4 st4 hr4 => pd3 p3 H4 s st4 hr4 (fr3.mono st4)⟩

/-! ### name op= value -/
theorem ip_any (b : BOp) : PIp X (opOf b) (r2 F (augD b)) := by
  intro pins s σ H x y v u Q I rx ry q
  obtain ⟨p, h, a, d, Z, hr, ra, rd, pd⟩ := q
  have hl := lim_eq
  have bot : ∀ {P : Prop}, PD F p H .bad Q Z → P := fun z => (show False from z).elim
  cases b with
  | add =>
    cases a <;> cases d
    case int.int i j =>
      cases ra; cases rd
      exact ip_add pins s σ H _ _ v u Q I rx ry ⟨i, j, rfl, rfl, PD.now pd hr (.int _)⟩
    case str.str a b =>
      cases ra with | str la => cases rd with | str lb =>
      by_cases c : a.length + b.length ≤ lim
      · have pd : PD F p H (.ok (.str (a ++ b)) h) Q Z := by
          unfold augD at pd
          dsimp only at pd
          rw [if_pos c] at pd
          exact pd
        refine iop_add_str pins s σ H _ _ v u Q I rx ry ⟨_, _, rfl, rfl, ?_, ?_⟩
        · rw [toS_length, toS_length, hl]; exact c
        · rw [toS_app]
          exact PD.now pd hr (.str (okS.app la lb c))
      · exact bot (by unfold augD at pd; dsimp only at pd; rw [if_neg c] at pd; exact pd)
    all_goals exact bot pd
  | sub =>
    cases a <;> cases d
    case int.int i j =>
      cases ra; cases rd
      exact ip_sub pins s σ H _ _ v u Q I rx ry ⟨i, j, rfl, rfl, PD.now pd hr (.int _)⟩
    all_goals exact bot pd
  | mul =>
    cases a <;> cases d
    case int.int i j =>
      cases ra; cases rd
      by_cases c : i.natAbs.log2 + j.natAbs.log2 < 1000000
      · have pd : PD F p H (.ok (.int (i * j)) h) Q Z := by
          unfold augD at pd
          dsimp only at pd
          rw [if_pos c] at pd
          exact pd
        obtain ⟨t, rfl⟩ := rx
        obtain ⟨t', rfl⟩ := ry
        have hm : CMulW i j := c
        exact AutoIntOps.imul_0 ⟨.int _, H, I.tok _, ⟨_, rfl⟩, PD.now pd hr (.int _)⟩ hm.ok
      · exact bot (by unfold augD at pd; dsimp only at pd; rw [if_neg c] at pd; exact pd)
    all_goals exact bot pd
  | _ =>
    cases a <;> cases d <;> exact bot pd
theorem ok_aug (g : GoodX F pg n o c X) {x : Str} {i : Nat} {op : Operator} {b : BOp} {e : Expr} {y : E} {pos p : Pos} (hs : c.store x = some i) (hb : bOf op = some b) (he : OkE F pg n o X e y) : OkS F pg n o X (.AugAssign (.Name x p) op e pos) (.aug i b y) := by
  intro W tk
  obtain ⟨h2, h3, h4, h5⟩ := store_of g hs
  rw [bOf_opOf hb]
  refine ps_weak (ps_aug (by rw [g.hN]; exact g.nd) h2 h3 (he W tk) (ip_any (F := F) b) h5) fun De s H ⟨p, f, h, fr, hr, pd⟩ => ?_
  rw [exS] at pd
  cases e1 : getV f i with
  | none => dsimp only at pd; rw [e1] at pd; exact pd.elim
  | some d =>
    dsimp only at pd
    rw [e1] at pd
    have e2 : f[i]? = some (some d) := by
      unfold getV at e1
      split at e1
      · rename_i q; rw [q, e1]
      · cases e1
    obtain ⟨v, h6, h7⟩ := fr.get i d e2
    refine ⟨v, h6, p, f, h, fr, hr, ps_use fr pd fun p1 h1 d2 v2 H1 st1 hr1 fr1 r1 pd1 => ?_⟩
    refine ⟨p1, h1, d, d2, zE F W s, hr1, h7.mono st1, r1, ps_use fr1 pd1 fun p2 h2 d3 v3 H2 st2 hr2 fr2 r2 pd2 => ps_now pd2 hr2 (fr2.set i h4 r2)⟩

/-! ### raise, try -/
theorem exc_at {x : Str} {i : Nat} (h : ixSt c.exc x = some i) : c.exc[i]? = some x := by
  obtain ⟨k, e1, e2⟩ := ixOf_get (show ixOf x c.exc 0 = some i from h)
  rw [e1]
  simpa using e2
theorem ok_rai (g : GoodX F pg n o c X) {x m : Str} {i j : Nat} {p p2 pos pos' : Pos} (hg : c.glo x = true) (hx : ixSt c.exc x = some i) : OkS F pg n o X (.Raise (some (.Call (.Name x p) [.Constant (.str m) j p2] [] pos')) none pos) (.rai i) := by
  intro W tk
  have e := exc_at hx
  obtain ⟨g1, g2⟩ := glo_of g hg
  obtain ⟨a1, a2, a3, a4⟩ := g.st.exc.ex i x e
  rw [g.hK] at a1 a2 a3 a4
  refine ps_weak (L2.ps_raise g.calm tk (L2.pmk_own PySem.F.excBase_ValueError a1 (g.st.exc.glo i x e) a2 (L2.raises_own a3 a4) g1 g2)) fun De s H ⟨p, f, h, fr, hr, pd⟩ => ?_
  rw [exS] at pd
  exact pd p H s (Step.rfl' _ _) hr fr
theorem ok_try (g : GoodX F pg n o c X) (hblk : c.blk = false) {x m k : Str} {i j ei : Nat} {body : List Stmt} {b : S} {np kp np2 ap hp pos : Pos} (hg : c.glo x = true) (hm : c.kind m = some .local) (hk : c.kind k = some .local) (h1 : ixSt c.exc x = some ei) (h2 : c.store m = some i) (h3 : c.store k = some j) (hij : i ≠ j)
    (hmn : okName m = true) (hb : ∀ pn xe, PassesOwn (model X.prog X.w) X.A X.env xe → OkSs F pg n o (X.tr pn xe) body b) : OkS F pg n o X (.Try body [.ExceptHandler (some (.Name x np)) (some m) [.Assign [.Name k kp] (.Name m np2) ap] hp] [] [] pos) (.tryAs b ei i j) := by
  intro W tk
  have e := exc_at h1
  obtain ⟨g1, g2⟩ := glo_of g hg
  obtain ⟨i2, i3, i4, i5⟩ := store_of g h2
  obtain ⟨j2, j3, j4, j5⟩ := store_of g h3
  obtain ⟨f1, f2, f3⟩ := g.fr hblk
  have gk : ∀ y, X.env.kindOf y = c.kind y := fun y => by
    show X.env.scope.names.lookup y = c.sc.names.lookup y
    rw [g.sc]
  obtain ⟨n1, n2⟩ := Bool.and_eq_true_iff.mp (show (!(m == ("__debug__" : Str)) && !(m == ("__classdict__" : Str))) = true from hmn)
  refine ps_weak (ps_tryKeep (c := .ref (F.cA ei)) (tb := fun W' => tS F W' (exS (gOf pg n o) b)) f1 f2 f3 (by rw [g.hN]; exact g.nd) i2 j2 hij ((gk m).trans hm) ((gk k).trans hk) ⟨g1, g2, .inl (g.st.exc.glo ei x e)⟩ tk (by simpa using n1) (by simpa using n2) (fun W' pn xe tk' hp => hb pn xe hp W' tk')) fun De s H ⟨p, f, h, fr, hr, pd⟩ => ?_
  rw [exS] at pd
  refine ⟨p, f, h, fr, hr, ?_⟩
  dsimp only at pd
  cases q : exS (gOf pg n o) b f h with
  | bad => rw [q] at pd; exact pd
  | ok fl f1 h1 => rw [q] at pd; exact pd
  | exn d f1 h1 =>
    rw [q] at pd
    have pd : PS_ F W p H (match pg.sub d ei with
      | some true => .ok .next ((f1.set j (some (.exc d))).set i none) h1
      | some false => .exn d f1 h1
      | none => .bad) De := pd
    intro p1 H1 s1 st1 hr1 fr1
    cases q2 : pg.sub d ei with
    | none => rw [q2] at pd; exact pd.elim
    | some t =>
      rw [q2] at pd
      refine ⟨t, by rw [← g.hK]; exact g.st.exc.exm d ei t q2, fun ht => ⟨rfl, fun a ha => ?_⟩, fun ht => ?_⟩
      · subst ht
        have st2 : Step p1 H1 p1 (upd H1 a (ExV (.ref (F.cA d)) a)) := step_new ha
        exact pd p1 _ _ (st1.trans st2) (hr1.fresh ha) (((fr1.mono st2).set j j4 (.exc upd_same)).wipe i i4 none)
      · subst ht
        exact pd p1 H1 s1 st1 hr1 fr1
end
end Mi

set_option Elab.async false
set_option linter.all false
set_option autoImplicit false
set_option maxRecDepth 100000
set_option maxHeartbeats 2000000
/-! Sq: what compiles keeps its result: loops. -/
namespace Mi
open PySem L2 LamX PyProof.Rows PySem.Spec
section
variable {F : Fx} {pg : Pg} {n : Nat} {o : M D} {c : Cn} {X : Cx}
/-! ### for, while -/
theorem ok_for (g : GoodX F pg n o c X) (hblk : c.blk = false) {tg it : Expr} {t : Tg} {k : SrcK} {as : Es} {body : List Stmt} {b : S} {pos : Pos} (ht : cForTg c tg = some t) (hi : ∀ W, L2.Takes X W → PI X tg it (tI F W k (evA (gE pg n o) as))) (hb : OkSs F pg n o X body b) (hs : ∀ x, foldedSetIterable it X.env x = pure x) :
    OkS F pg n o X (.For tg it body [] pos) (.for_ t k as b) := by
  intro W tk
  obtain ⟨t1, t2⟩ := tg_pg g ht
  refine ps_weak (ps_for (g.po hblk) g.calm (hi W tk) t1 (hb W tk) hs) fun De s H ⟨p, f, h, fr, hr, pd⟩ => ?_
  rw [exS] at pd
  refine ⟨p, f, h, fr, hr, ps_use fr pd fun p1 h1 ds vs H1 st1 hr1 fr1 r1 pd1 => ?_⟩
  have pd1 : PS_ F W p1 H1 (match curOf h1 k ds with | none => .bad | some cur => loopS cur t (exS (gOf pg n o) b) pg.wf 0 f h1) De := pd1
  cases ec : curOf h1 k ds with
  | none => rw [ec] at pd1; exact pd1.elim
  | some cur =>
    rw [ec] at pd1
    refine ⟨p1, h1, ds, cur, hr1, r1, ec, fun J hJ => ?_⟩
    refine ⟨fun i m s H => ∃ p f h, Step p1 H1 p H ∧ FR F p H f s ∧ F.HR p h H ∧ PS_ F W p H (loopS cur t (exS (gOf pg n o) b) m i f h) De, ⟨_, p1, f, h1, Step.rfl' _ _, fr1, hr1, pd1⟩, fun i m s H ⟨p, f, h, st, fr, hr, pd⟩ => ?_⟩
    cases m with
    | zero => exact (show False from pd).elim
    | succ m =>
      have w := hJ p h H i st hr
      unfold loopS at pd
      cases e : cur h i with
      | none => rw [e] at pd; exact (show False from pd).elim
      | some r =>
        rw [e] at pd w
        cases r with
        | none => exact .inl ⟨w, ps_now pd hr fr⟩
        | some d =>
          refine .inr ⟨w.1, fun s' H' => ∃ p f h, Step p1 H1 p H' ∧ FR F p H' f s' ∧ F.HR p h H' ∧ PS_ F W p H' (loopS cur t (exS (gOf pg n o) b) m (i + 1) f h) De, fun s' H' q => ⟨m, Nat.lt_succ_self m, q⟩, fun x H' hy => ?_⟩
          obtain ⟨stx, hrx, rd⟩ := w.2 x H' hy
          have fr := fr.mono stx
          have hr := hrx
          have st := st.trans stx
          have pd := PS_.mono stx pd
          dsimp only at pd
          cases e2 : setTg t d f with
          | none => rw [e2] at pd; exact (show False from pd).elim
          | some f1 =>
            rw [e2] at pd
            refine tg_run g.hK t2 rd fr e2 fun s1 fr1 _ => ⟨p, f1, h, fr1, hr, ?_⟩
            dsimp only at pd
            cases e3 : exS (gOf pg n o) b f1 h with
            | bad => rw [e3] at pd; exact pd
            | exn k2 f2 h2 => rw [e3] at pd; exact pd
            | ok fl f2 h2 =>
              rw [e3] at pd
              cases fl with
              | next => exact fun p2 H2 s2 st2 hr2 fr2 => ⟨p2, f2, h2, st.trans st2, fr2, hr2, pd.mono st2⟩
              | cnt => exact fun p2 H2 s2 st2 hr2 fr2 => ⟨p2, f2, h2, st.trans st2, fr2, hr2, pd.mono st2⟩
              | brk => exact pd
              | ret d2 => exact pd
theorem ok_whl (g : GoodX F pg n o c X) (hblk : c.blk = false) {e : Expr} {x : E} {body : List Stmt} {b : S} {pos : Pos} (he : OkT F pg n o X e x) (hb : OkSs F pg n o X body b) : OkS F pg n o X (.While e body [] pos) (.whl x b) := by
  intro W tk
  refine ps_weak (ps_while (g.po hblk) (he W tk) (hb W tk)) fun De s H ⟨p, f, h, fr, hr, pd⟩ => ?_
  rw [exS] at pd
  refine ⟨fun m s H => ∃ p f h, FR F p H f s ∧ F.HR p h H ∧ PS_ F W p H (whileS (evT (gOf pg n o) x) (exS (gOf pg n o) b) m f h) De, ⟨_, p, f, h, fr, hr, pd⟩, fun m s H ⟨p, f, h, fr, hr, pd⟩ => ?_⟩
  cases m with
  | zero => exact (show False from pd).elim
  | succ m =>
    unfold whileS at pd
    refine ⟨p, f, h, fr, hr, ?_⟩
    cases e1 : evT (gOf pg n o) x f h with
    | bad => rw [e1] at pd; exact (show False from pd).elim
    | exn k h1 =>
      rw [e1] at pd
      exact fun p1 H1 st1 hr1 => pd p1 H1 s st1 hr1 (fr.mono st1)
    | ok t h1 =>
      rw [e1] at pd
      intro p1 H1 v st1 hr1 r1
      cases (show v = t from r1)
      have fr1 := fr.mono st1
      have pd := PS_.mono st1 pd
      cases t with
      | false => exact ps_now pd hr1 fr1
      | true =>
        refine ⟨fun s' H' => ∃ p f h, FR F p H' f s' ∧ F.HR p h H' ∧ PS_ F W p H' (whileS (evT (gOf pg n o) x) (exS (gOf pg n o) b) m f h) De, fun s' H' q => ⟨m, Nat.lt_succ_self m, q⟩, p1, f, h1, fr1, hr1, ?_⟩
        dsimp only at pd
        cases e3 : exS (gOf pg n o) b f h1 with
        | bad => rw [e3] at pd; exact pd
        | exn k2 f2 h2 => rw [e3] at pd; exact pd
        | ok fl f2 h2 =>
          rw [e3] at pd
          cases fl with
          | next => exact fun p2 H2 s2 st2 hr2 fr2 => ⟨p2, f2, h2, fr2, hr2, pd.mono st2⟩
          | cnt => exact fun p2 H2 s2 st2 hr2 fr2 => ⟨p2, f2, h2, fr2, hr2, pd.mono st2⟩
          | brk => exact pd
          | ret d2 => exact pd
end
end Mi

set_option Elab.async false
set_option linter.all false
set_option autoImplicit false
set_option maxRecDepth 100000
set_option maxHeartbeats 2000000
/-! Sr: what compiles keeps its result: all statements, all defs. -/
namespace Mi
open PySem L2 LamX PyProof.Rows PySem.Spec
theorem soundS {pg : Pg} {n : Nat} (hE : SoundE pg n) : SoundS pg n := by
  intro F o c X hblk
  have key : ∀ k : Nat, (∀ X st s, GoodX F pg n o c X → cS k c st = some s → OkS F pg n o X st s) ∧ (∀ X sts s, GoodX F pg n o c X → cSs k c sts = some s → OkSs F pg n o X sts s) := by
    intro k
    induction k with
    | zero => exact ⟨fun _ _ _ _ h => (by cases h), fun _ _ _ _ h => (by cases h)⟩
    | succ k ih =>
      obtain ⟨ihs, ihss⟩ := ih
      refine ⟨fun X st s gd h => ?_, fun X sts s gd h => ?_⟩
      · have e1 : ∀ e x, cE k c e = some x → OkE F pg n o X e x := fun e x h => (hE F o c X gd k e x h).1
        have e2 : ∀ e x, cE k c e = some x → OkT F pg n o X e x := fun e x h => (hE F o c X gd k e x h).2
        unfold cS at h
        split at h
        · cases h; exact ok_pas
        · cases h; exact ok_brk
        · cases h; exact ok_cnt
        · rename_i e pos
          split at h
          · rename_i k0
            cases q : cE k c e with
            | none => rw [q] at h; cases h
            | some y => rw [q] at h; cases h; exact ok_exp (e1 _ _ q) k0
          · cases h
        · cases h; exact ok_retN
        · rename_i e pos
          cases q : cE k c e with
          | none => rw [q] at h; cases h
          | some y => rw [q] at h; cases h; exact ok_ret (e1 _ _ q)
        · split at h
          · rename_i q1 q2 q3
            cases h
            exact ok_ite (e2 _ _ q1) (ihss X _ _ gd q2) (ihss X _ _ gd q3)
          · cases h
        · split at h
          · rename_i q1 q2
            cases h
            exact ok_whl gd hblk (e2 _ _ q1) (ihss X _ _ gd q2)
          · cases h
        · rename_i tg it body pos
          split at h
          · rename_i t sk as b q1 q2 q3
            cases h
            obtain ⟨h1, h2⟩ := src_of gd (k := k) e1 q2 (tg := tg)
            exact ok_for gd hblk q1 h1 (ihss X _ _ gd q3) h2
          · cases h
        · rename_i x zp ev pos
          split at h
          · rename_i k0
            split at h
            · rename_i i y q1 q2
              cases h
              by_cases kc : noComp ev = true
              · exact ok_set gd q1 (e1 _ _ q2) kc
              · have k0 : swLc c x zp.line ev = true := by
                  rcases Bool.or_eq_true_iff.mp k0 with z | z
                  · exact absurd z kc
                  · exact z
                exact ok_lcAny gd (fun j c' X' g' => hE F o c' X' g' j) q1 k0 q2
            · cases h
          · cases h
        · -- a, b = x, y
          rename_i ts k1 p1 vs k2 p2 pos
          split at h
          · rename_i ns q0
            split at h
            · rename_i k0
              obtain ⟨k3, k4⟩ := Bool.and_eq_true_iff.mp k0
              split at h
              · rename_i is as q1 q2
                split at h
                · rename_i k5
                  cases h
                  exact ok_par gd e1 hblk q0 (of_decide_eq_true k3) k4 q1 q2 (of_decide_eq_true k5)
                · cases h
              · cases h
            · cases h
          · rename_i q0
            split at h
            · rename_i is e q1 q2
              split at h
              · cases h
              · cases h
                have gk : ∀ y, X.env.kindOf y = c.kind y := fun y => by
                  show X.env.scope.names.lookup y = c.sc.names.lookup y
                  rw [gd.sc]
                exact ok_setT gd q1 (e1 _ _ q2) rfl (swap_of gd.bk gk hblk q0)
            · cases h
          · cases h
        · rename_i ts k1 p1 e pos hne
          split at h
          · rename_i k0
            split at h
            · split at h
              · rename_i is y q1 q2
                split at h
                · cases h
                · cases h
                  refine ok_setT gd q1 (e1 _ _ q2) k0 ?_
                  cases e <;> first | rfl | (exact absurd rfl (hne _ _ _))
              · cases h
            · rename_i ts2 i hu
              split at h
              · rename_i is y q1 q2
                cases h
                refine ok_setS gd hu q1 (e1 _ _ q2) k0 ?_
                cases e <;> first | rfl | (exact absurd rfl (hne _ _ _))
              · cases h
          · cases h
        · split at h
          · rename_i k0
            obtain ⟨k1, k2⟩ := Bool.and_eq_true_iff.mp k0
            split at h
            · rename_i q1 q2 q3
              cases h
              exact ok_setI gd k1 k2 (e1 _ _ q1) (e1 _ _ q2) (e1 _ _ q3)
            · cases h
          · cases h
        · split at h
          · rename_i q1 q2 q3
            cases h
            exact ok_aug gd q1 q2 (e1 _ _ q3)
          · cases h
        · rename_i x p z j p2 pos' pos
          split at h
          · rename_i k0
            cases q : ixSt c.exc x with
            | none => rw [q] at h; cases h
            | some i => rw [q] at h; cases h; exact ok_rai gd k0 q
          · cases h
        · split at h
          · rename_i k0
            simp only [Bool.and_eq_true, decide_eq_true_eq] at k0
            obtain ⟨⟨⟨⟨k1, k2⟩, k3⟩, k4⟩, k5⟩ := k0
            split at h
            · rename_i q1 q2 q3 q4
              split at h
              · rename_i k6
                cases h
                subst k2
                exact ok_try gd hblk k1 k3 k4 q2 q3 q4 (of_decide_eq_true k6) k5 fun pn xe hp => ihss _ _ _ (gd.tr pn xe hp) q1
              · cases h
            · cases h
          · cases h
        · cases h
      · unfold cSs at h
        split at h
        · cases h; exact ok_nil
        · exact ok_one (ihs X _ _ gd h)
        · split at h
          · rename_i q1 q2
            cases h
            exact ok_seq (ihs X _ _ gd q1) (ihss X _ _ gd q2)
          · cases h
  intro gd k sts s h
  exact (key k).2 X sts s gd h
theorem sound (pg : Pg) : ∀ n, SoundE pg n ∧ SoundS pg n := by
  intro n
  induction n using Nat.strongRecOn with
  | ind n ih =>
    have hE := soundE (fun m h => (ih m h).1) (fun m h => (ih m h).2)
    exact ⟨hE, soundS hE⟩
/-- all defs keep their promises -/
theorem calls_ok {F : Fx} {pg : Pg} {base : Heap} {mg : Str → Option Value} {c : Cn} {P : Program} {w : World} (st : Stat F pg base mg c) (hp : F.pin = none) : ∀ m, CallsAt F pg m c P w mg base := by
  intro m
  induction m using Nat.strongRecOn with
  | ind m ih =>
    intro i d hd oc od fd osl lk
    have S := st.dfs i d hd
    have len : ∀ vs H Q E, spI F pg m i (nPar d) bad vs H Q E → vs.length = d.nams.length := fun vs H Q E ⟨p, h, ds, hr, rs, hl, pd⟩ => by
      rw [← rs.length, hl]
      simp [nPar, DefI.nams]
    cases m with
    | zero => exact ⟨len, fun A outer s H args us vs Q E hr he hb hv hs => by obtain ⟨p, h, ds, hr, rs, hl, pd⟩ := hs; exact (show False from pd).elim⟩
    | succ m =>
      obtain ⟨oc', od', kV, doc, pm, an, cc, ct, osl', lk', hcd, hkw, htab⟩ := S.fn
      rw [lk] at lk'
      cases lk'
      refine fn_of (k := 2 * m + 1) lk hcd S.sc len fun A outer s H vs Q E hroom hs => ?_
      obtain ⟨p, h, ds, hr, rs, hl, pd⟩ := hs
      obtain ⟨mm, ss, css, efn⟩ := S.body
      rw [callN_succ, efn] at pd
      have gZ : GoodX F pg m bad (cnOf c d) (cxOf (L2.CX P w) P w F.K mg base d.N d.qual d.sc (F.fA i) (.ref cc) A outer s H E) := by
        refine { hN := rfl, nd := S.sc.nd, sc := rfl, hK := rfl, calm := rfl, room := hroom, bk := ?_, st := (st.rp (d0 := d) F.pin), calls := fun q hq => ((ih q (by omega)).rp rfl F.pin), fnl := fun _ _ => rfl, orc := ?_, pin := fun z hz => (by rw [hp] at hz; cases hz), own := fun _ hx => (by cases hx), lam := ?_, po := fun _ => passes_of rfl, fr := fun _ => ⟨rfl, rfl, rfl⟩ }
        · show (if d.sc.kind.isAnnotationScope then ScopeKind.function else d.sc.kind) = .function
          rw [S.sc.kind]
          rfl
        · intro y _ _ q1 q2 W pn xe tk
          exact ⟨fun pins s σ H Q I ⟨p, f, h, fr, hr, pd⟩ => (show False from pd).elim⟩
        · intro hlam
          obtain ⟨P', t1, t2, t3⟩ := htab hlam
          exact ⟨cc, P', rfl, t1, t2, t3⟩
      obtain ⟨hpar, hps⟩ := fn_ps (z := F.pin) (E := E) pd
      refine ⟨_, (sound pg m).2 _ _ _ _ rfl gZ mm d.body ss css _ (takes_of rfl rfl rfl rfl), p, _, h, start_FR rs d.N ?_ hp, hr, hps⟩
      have l1 := S.sc.pre
      have : d.nams.length ≤ d.N.length := by rw [← l1, List.length_take]; omega
      have l2 : d.nams.length = nPar d := by simp [nPar, DefI.nams]
      omega
end Mi

set_option Elab.async false
set_option linter.all false
set_option autoImplicit false
set_option maxRecDepth 100000
set_option maxHeartbeats 2000000
/-! St: from the head's facts to the law's end, for any text. -/
namespace Mi
open PySem L2 LamX PyProof.Rows PySem.Spec
/-! ### a text's data -/
structure Txt where
  defs : List DefI
  con : List (Str × D)
  exc : List Str
  sub : Nat → Nat → Bool
  fns : List Fn
  wf : Nat
def Txt.cn (t : Txt) : Cn := { N := [], sc := default, blk := true, defs := t.defs, con := t.con, exc := t.exc, orc := none, lam := false }
def Txt.pg (t : Txt) : Pg := { fns := t.fns, sub := fun i j => if i < t.exc.length ∧ j < t.exc.length then some (t.sub i j) else none, wf := t.wf }
def kwoOf : List Arg → List (Option Expr) → List (Str × D)
  | a :: as, some (.Constant k _ _) :: ds => (match constD k with
    | some d => (a.arg, d) :: kwoOf as ds
    | none => [])
  | _, _ => []
/-- a def of the top -/
def mkDef (st : Stmt) (orc : Option Str) (lam : Bool) (xs : List Str := []) : DefI := match st with
  | .FunctionDef n a b _ _ _ sc _ _ _ =>
    { name := n, qual := n, pos := a.args.map (·.arg), kwo := kwoOf a.kwonlyargs a.kw_defaults, N := (a.args.map (·.arg) ++ (kwoOf a.kwonlyargs a.kw_defaults).map (·.1)) ++ (sc.names.filter fun y => isLoc (some y.2) && !decide (y.1 ∈ a.args.map (·.arg) ++ (kwoOf a.kwonlyargs a.kw_defaults).map (·.1))).map (·.1) ++ xs, sc := sc, params := a, body := b, orc := orc, lam := lam }
  | _ => { name := "", qual := "", pos := [], kwo := [], N := [], sc := default, params := ⟨[], [], none, [], [], none, []⟩, body := [], orc := none, lam := false }
def dvOf : D → He.Dv
  | .int i => .int i
  | .bl b => .bl b
  | .str s => .str (toS s)
  | _ => .non
theorem dvOf_v (K : PySem.W.Frag) (d : D) : (dvOf d).v K = cV d := by
  cases d <;> rfl
def DefI.dd (d : DefI) : He.DefD := ⟨(d.name, none), d.name, d.qual, d.params, d.body, d.sc, [], d.kwo.map fun q => (q.1, dvOf q.2)⟩
def conFa : Str × D → List He.Fa
  | (x, .int i) => [.int x i]
  | (x, .str s) => [.str x (toS s)]
  | _ => []
def Txt.fn (t : Txt) : List He.DefD := t.defs.map DefI.dd
def Txt.fa (t : Txt) : List He.Fa := t.defs.map (fun d => .glo d.name) ++ t.exc.map (fun x => .glo x) ++ t.exc.map (fun x => .exc x) ++ bNames.map (fun x => .free x) ++ t.con.flatMap conFa
def Txt.tf (t : Txt) : List He.Defn := (t.defs.filter (·.lam)).map fun d => (d.name, none)
def excB (K : PySem.W.Frag) (C : Addr) : Bool :=
  decide (PySem.W.findIn K (.ref C) "__getattribute__" = some (some (.builtin "BaseException.__getattribute__"))) &&
  (decide (PySem.W.findIn K (.ref C) "__getattr__" = some none) &&
  (decide (PySem.W.subIn K (.ref C) (.type "BaseException") = some true) &&
  (PySem.W.hasDictIn K C &&
  (decide (PySem.W.findIn K (.ref C) "__class__" = some (some (.builtin "object.__class__"))) &&
  (decide (PySem.W.specialIn K (.builtin "object.__class__") "__get__" = some (some (.builtin "getset_descriptor.__get__"))) &&
  (decide (PySem.W.takesIn K (.builtin "object.__class__") = some true) &&
  (decide (PySem.W.mroIn K C (.type "object") = some true) &&
  decide (PySem.W.kitOne K (.ref C) (.type "ValueError") = some true))))))))
def pairB (t : Txt) (K : PySem.W.Frag) (i j : Nat) : Bool := match t.pg.sub i j with
  | some b => decide (PySem.W.exmOne K (.ref (He.ga K (t.exc.getD i ""))) (.ref (He.ga K (t.exc.getD j ""))) = some b) && decide (PySem.W.kitOne K (.ref (He.ga K (t.exc.getD i ""))) (.ref (He.ga K (t.exc.getD j ""))) = some b)
  | none => true
def Txt.ex (t : Txt) (K : PySem.W.Frag) : Bool :=
  t.exc.all (fun x => excB K (He.ga K x)) && ((List.range t.exc.length).all (fun i => (List.range t.exc.length).all fun j => pairB t K i j) && decide (((t.tf.map (He.cT K)).map (·.2)).Nodup))
/-! ### what is checked of the text alone -/
def orcB (d : DefI) : Bool := match d.orc with
  | none => true
  | some x => decide (x ∈ d.nams) && (!(x == ("__debug__" : Str)) && !(x == ("__classdict__" : Str)))
def defB (d : DefI) : Bool :=
  [d.kwo.all (fun q => scalar q.2), d.params.posonlyargs.isEmpty, d.params.vararg.isNone, d.params.kwarg.isNone, decide (d.params.args.map (·.arg) = d.pos), decide (d.params.kwonlyargs.map (·.arg) = d.kwo.map (·.1)),
   decide (d.sc.kind = .function), !d.sc.isCoroutine, !d.sc.isGenerator, decide d.N.Nodup, decide (d.N.take d.nams.length = d.nams), d.nams.all (fun x => decide (d.sc.names.lookup x = some .local) || decide (d.sc.names.lookup x = some .cell)),
   d.sc.names.all (fun y => !decide (y.2 = .free)), orcB d].all id
def conB1 (q : Str × D) : Bool := scalar q.2 && !(conFa q).isEmpty
def Txt.chk (t : Txt) : Bool := t.defs.all defB && t.con.all conB1
def Txt.comp (t : Txt) (fuel : Nat) : List (Option Fn) := t.defs.map fun d => (cSs fuel (cnOf t.cn d) d.body).map fun s => ⟨nPar d, d.N.length, s⟩
/-! ### the facts -/
def Txt.T (t : Txt) (K : PySem.W.Frag) : List (Addr × Str) := t.tf.map fun p => ((He.cT K p).2, (p.1 ++ (".<locals>." : Str)) ++ ("<lambda>" : Str))
def Txt.fAt (t : Txt) (K : PySem.W.Frag) (i : Nat) : Addr := match t.defs[i]? with
  | some d => He.fAd K (d.name, none)
  | none => 0
def Txt.F (t : Txt) (K : PySem.W.Frag) : Fx where
  K := K
  cA := fun i => He.ga K (t.exc.getD i "")
  oA := fun _ => 0
  fA := t.fAt K
  T := t.T K
  pin := none
theorem isEmpty_nil {α : Type} {l : List α} (h : l.isEmpty = true) : l = [] := by cases l with | nil => rfl | cons _ _ => cases h
theorem isNone_none {α : Type} {l : Option α} (h : l.isNone = true) : l = none := by cases l with | none => rfl | some _ => cases h
section
variable {t : Txt} {w : World} {h base : Heap} {K : PySem.W.Frag} {mg : Str → Option Value}
theorem stat_ok (hc : t.chk = true) (hq : ∀ d ∈ t.defs, d.qual = d.name) (hcomp : ∃ fuel, t.comp fuel = t.fns.map some) (c : He.SaysX t.fa t.fn [] t.tf t.ex w h K) (X : K.In base) (G : base.Ns mainGlobals mg) (TB : ∀ p ∈ t.tf.map (He.cT K), LamX.TabB base mg p.1 p.2) :
    Stat (t.F K) t.pg base mg t.cn := by
  obtain ⟨hc1, hc2⟩ := Bool.and_eq_true_iff.mp hc
  obtain ⟨fuel, hcomp⟩ := hcomp
  have sd := c.t.d
  have fact : ∀ {f : He.Fa}, f ∈ t.fa → f.ok K = true := fun hf => sd.facts hf
  obtain ⟨x1, x2⟩ := He.ba c.more
  obtain ⟨x3, x4⟩ := He.ba x2
  have gloD : ∀ d ∈ t.defs, (He.Fa.glo d.name).ok K = true := fun d hd => fact (by
    unfold Txt.fa
    exact List.mem_append_left _ (List.mem_append_left _ (List.mem_append_left _ (List.mem_append_left _ (List.mem_map.mpr ⟨d, hd, rfl⟩)))))
  have gloE : ∀ x ∈ t.exc, (He.Fa.glo x).ok K = true := fun x hx => fact (by
    unfold Txt.fa
    exact List.mem_append_left _ (List.mem_append_left _ (List.mem_append_left _ (List.mem_append_right _ (List.mem_map.mpr ⟨x, hx, rfl⟩)))))
  have excE : ∀ x ∈ t.exc, (He.Fa.exc x).ok K = true := fun x hx => fact (by
    unfold Txt.fa
    exact List.mem_append_left _ (List.mem_append_left _ (List.mem_append_right _ (List.mem_map.mpr ⟨x, hx, rfl⟩))))
  have freeB : ∀ x ∈ bNames, (He.Fa.free x).ok K = true := fun x hx => fact (by
    unfold Txt.fa
    exact List.mem_append_left _ (List.mem_append_right _ (List.mem_map.mpr ⟨x, hx, rfl⟩)))
  have conE : ∀ q ∈ t.con, ∀ f ∈ conFa q, f.ok K = true := fun q hq f hf => fact (by
    unfold Txt.fa
    exact List.mem_append_right _ (List.mem_flatMap.mpr ⟨q, hq, hf⟩))
  have cAat : ∀ (i : Nat) (x : Str), t.exc[i]? = some x → (t.F K).cA i = He.ga K x := fun i x e => by
    show He.ga K (t.exc.getD i "") = _
    rw [List.getD_eq_getElem?_getD, e]
    rfl
  have pair : ∀ i j b, t.pg.sub i j = some b → (i < t.exc.length ∧ j < t.exc.length) ∧ PySem.W.exmOne K (.ref ((t.F K).cA i)) (.ref ((t.F K).cA j)) = some b ∧ PySem.W.kitOne K (.ref ((t.F K).cA i)) (.ref ((t.F K).cA j)) = some b := fun i j b e => by
    have e' : (if i < t.exc.length ∧ j < t.exc.length then some (t.sub i j) else none) = some b := e
    by_cases k : i < t.exc.length ∧ j < t.exc.length
    · refine ⟨k, ?_⟩
      have p := List.all_eq_true.mp (List.all_eq_true.mp x3 i (List.mem_range.mpr k.1)) j (List.mem_range.mpr k.2)
      unfold pairB at p
      rw [e] at p
      obtain ⟨p1, p2⟩ := He.ba p
      exact ⟨of_decide_eq_true p1, of_decide_eq_true p2⟩
    · rw [if_neg k] at e'; cases e'
  refine ⟨fun i d hi => ?_, fun x d e => ?_, fun x hx => He.free_ok X G (freeB x hx), ⟨fun i x e => ?_, fun i x e => ?_, fun i j b e => ?_, fun i j b e => (pair i j b e).2.1, fun i x e => ?_, fun i j b e => (pair i j b e).2.2, fun i x e => ?_⟩⟩
  · have hi : t.defs[i]? = some d := hi
    have hd := List.mem_of_getElem? hi
    have fAi : (t.F K).fA i = He.fAd K (d.name, none) := by
      show (match t.defs[i]? with | some d => He.fAd K (d.name, none) | none => 0) = _
      rw [hi]
    obtain ⟨fd, FD⟩ := sd.defs (d := d.dd) (List.mem_map.mpr ⟨d, hd, rfl⟩)
    have b := List.all_eq_true.mp hc1 d hd
    simp only [defB, List.all_cons, List.all_nil, id_eq, Bool.and_eq_true, and_true] at b
    obtain ⟨b1, b2, b3, b4, b5, b6, b7, b8, b9, b10, b11, b12, b13, b14⟩ := b
    obtain ⟨oc, od, dV, kV, doc, pm, an, cdv, ct, osl, rfl, lk, hcd, hdf, hkw⟩ := FD.ex
    obtain ⟨cc, rfl⟩ := He.codeIn_ref hcd
    have hdV : dV = .none := by
      rcases hdf with ⟨_, e⟩ | ⟨e, _⟩
      · exact e
      · exact absurd rfl e
    subst hdV
    have S : FnScope d.N d.nams d.sc := ⟨of_decide_eq_true b7, by simpa using b8, by simpa using b9, of_decide_eq_true b10, of_decide_eq_true b11, fun x hx => by
      have := List.all_eq_true.mp b12 x hx
      simp only [Bool.or_eq_true, decide_eq_true_eq] at this
      exact this, fun y hy => by
      have := List.all_eq_true.mp b13 y hy
      simpa using this⟩
    refine ⟨fun q hq => List.all_eq_true.mp b1 q hq, by rw [fAi]; exact He.glo_ok X G (gloD d hd), ?_, by rw [fAi]; exact FD.kp, isEmpty_nil b2, isNone_none b3, isNone_none b4, of_decide_eq_true b5, of_decide_eq_true b6, S, fun x hx => ?_, ?_⟩
    · refine ⟨oc, od, kV, doc, pm, an, cc, ct, osl, by rw [fAi]; exact lk, hcd, ?_, fun hl => ?_⟩
      · have e : (d.dd.kws K) = d.kwo.map fun q => (q.1, cV q.2) := by
          show (d.kwo.map fun q => (q.1, dvOf q.2)).map (fun q => (q.1, q.2.v K)) = _
          rw [List.map_map]
          apply List.map_congr_left
          intro q _
          show (q.1, (dvOf q.2).v K) = _
          rw [dvOf_v]
        rw [← e]
        exact hkw
      · have hm : ((d.name, none) : He.Defn) ∈ t.tf := List.mem_map.mpr ⟨d, List.mem_filter.mpr ⟨hd, hl⟩, rfl⟩
        have ec : He.codeOf K (d.name, none) = cc := He.codeOf_eq lk rfl
        have hT := TB (He.cT K (d.name, none)) (List.mem_map.mpr ⟨_, hm, rfl⟩)
        have e1 : (He.cT K (d.name, none)).1 = cc := ec
        rw [e1] at hT
        refine ⟨_, hT, List.mem_map.mpr ⟨(d.name, none), hm, Prod.ext rfl (by show (d.name ++ _) ++ _ = (d.qual ++ _) ++ _; rw [hq d hd])⟩, fun z hz e => ?_⟩
        obtain ⟨p, hp, rfl⟩ := List.mem_map.mp hz
        rw [hq d hd]
        have nd := of_decide_eq_true x4
        have inj : ∀ {l : List He.Defn} {a b : He.Defn}, ((l.map (He.cT K)).map (·.2)).Nodup → a ∈ l → b ∈ l → (He.cT K a).2 = (He.cT K b).2 → a = b := by
          intro l
          induction l with
          | nil => intro a b _ ha; cases ha
          | cons y l ih =>
            intro a b hn ha hb e
            rw [List.map_cons, List.map_cons, List.nodup_cons] at hn
            rcases List.mem_cons.mp ha with ha | ha <;> rcases List.mem_cons.mp hb with hb | hb
            · rw [ha, hb]
            · rw [ha] at e; exact absurd (by rw [e]; exact List.mem_map.mpr ⟨_, List.mem_map.mpr ⟨b, hb, rfl⟩, rfl⟩) hn.1
            · rw [hb] at e; exact absurd (by rw [← e]; exact List.mem_map.mpr ⟨_, List.mem_map.mpr ⟨a, ha, rfl⟩, rfl⟩) hn.1
            · exact ih hn.2 ha hb e
        have := inj nd hp hm e
        rw [this]
    · unfold orcB at b14
      rw [hx] at b14
      simp only [Bool.and_eq_true] at b14
      obtain ⟨k1, k2, k3⟩ := b14
      have k1 := of_decide_eq_true k1
      obtain ⟨j, hj, ej⟩ := List.mem_iff_getElem.mp k1
      have e2 : d.nams[j]? = some x := by rw [List.getElem?_eq_getElem hj, ej]
      refine ⟨j, ?_, e2, ?_, by simpa using k2, by simpa using k3⟩
      · have z := S.pre
        have e3 := e2
        rw [← z] at e3
        rw [List.getElem?_take] at e3
        rw [if_pos hj] at e3
        exact e3
      · rcases S.par x k1 with q | q
        · exact .inl q
        · exact .inr (.inl q)
    · have e : (t.comp fuel)[i]? = (t.fns.map some)[i]? := by rw [hcomp]
      unfold Txt.comp at e
      rw [List.getElem?_map, List.getElem?_map, hi] at e
      cases q : cSs fuel (cnOf t.cn d) d.body with
      | none =>
        have e : some (none : Option Fn) = (t.fns[i]?).map some := by rw [← e]; simp [q]
        cases z : t.fns[i]? with
        | none => rw [z] at e; cases e
        | some f => rw [z] at e; cases e
      | some s =>
        refine ⟨fuel, s, q, ?_⟩
        have e : some (some (⟨nPar d, d.N.length, s⟩ : Fn)) = (t.fns[i]?).map some := by rw [← e]; simp [q]
        cases z : t.fns[i]? with
        | none => rw [z] at e; cases e
        | some f =>
          rw [z] at e
          cases e
          exact z
  · have hm := lookup_mem e
    have b := List.all_eq_true.mp hc2 _ hm
    obtain ⟨b1, b2⟩ := He.ba (show (scalar d && !(conFa (x, d)).isEmpty) = true from b)
    refine ⟨b1, ?_⟩
    cases d with
    | int i =>
      obtain ⟨tk, e2⟩ := He.int_ok X G (conE _ hm (.int x i) (List.mem_singleton.mpr rfl))
      exact ⟨_, e2, tk, rfl⟩
    | str s =>
      obtain ⟨tk, e2⟩ := He.str_ok X G (conE _ hm (.str x (toS s)) (List.mem_singleton.mpr rfl))
      exact ⟨_, e2, tk, rfl⟩
    | _ => cases b2
  · rw [cAat i x e]
    exact He.glo_ok X G (gloE x (List.mem_of_getElem? e))
  · rw [cAat i x e]
    exact He.exc_ok (excE x (List.mem_of_getElem? e))
  · obtain ⟨⟨k1, k2⟩, _⟩ := pair i j b e
    exact ⟨⟨_, List.getElem?_eq_getElem k1⟩, ⟨_, List.getElem?_eq_getElem k2⟩⟩
  · rw [cAat i x e]
    have b := List.all_eq_true.mp x1 x (List.mem_of_getElem? e)
    simp only [excB, Bool.and_eq_true, decide_eq_true_eq] at b
    obtain ⟨a1, a2, a3, a4, a5, a6, a7, a8, a9⟩ := b
    exact ⟨a1, a2, a3, a4, a5, a6, a7, a8⟩
  · rw [cAat i x e]
    have b := List.all_eq_true.mp x1 x (List.mem_of_getElem? e)
    simp only [excB, Bool.and_eq_true, decide_eq_true_eq] at b
    exact b.2.2.2.2.2.2.2.2
/-- how the script comes: a list of the store, or one that is never written -/
def isScr (ns : List Int) (p : List D) (h : Sto) : Prop := (p = [.fl (ns.map .int)] ∧ h = []) ∨ (p = [.ref 0] ∧ h = [.lst (ns.map .int)])
theorem ints_DRs {F : Fx} {p : Rho} {H : Hp} : ∀ ns : List Int, F.DRs p H (ns.map .int) (ns.map V.int)
  | [] => .nil
  | n :: ns => .cons (.int n) (ints_DRs ns)
/-- the law's promise at the head -/
theorem law_at {l : PySem.W.OpenLaw} {m iL : Nat} {dL : DefI} {x : Str} {fa : Addr} (hl : l.most = some 63) (hc : t.chk = true) (hq : ∀ d ∈ t.defs, d.qual = d.name) (hcomp : ∃ fuel, t.comp fuel = t.fns.map some) (X : K.In h) (G : h.Ns mainGlobals mg) (c : He.SaysX t.fa t.fn [] t.tf t.ex w h K)
    (hi : t.defs[iL]? = some dL) (hpos : dL.pos = [x]) (hkwo : dL.kwo = []) (hpb : posBind dL 1 = true) (hfa : mg dL.name = some (.ref fa))
    (law : ∀ (ns : List Int) (ds : List D) (st : Sto), ns.length ≤ 63 → (∀ z ∈ ns, Builtin.Int.intBits z ≤ 1048576) → isScr ns ds st → ∃ st', callN t.pg m iL ds bad st = .ok (.bl true) st') :
    LawAtS l w K (L2.CX l.prog w) (2 * m) 63 x mg fa h := by
  have hd := List.mem_of_getElem? hi
  have gm := He.glo_ok X G (c.t.d.facts (f := .glo dL.name) (by
    unfold Txt.fa
    exact List.mem_append_left _ (List.mem_append_left _ (List.mem_append_left _ (List.mem_append_left _ (List.mem_map.mpr ⟨dL, hd, rfl⟩))))))
  rw [hfa] at gm
  cases gm
  obtain ⟨fd, FD⟩ := c.t.d.defs (d := dL.dd) (List.mem_map.mpr ⟨dL, hd, rfl⟩)
  have hfA : (t.F K).fA iL = He.ga K dL.name := by
    show (match t.defs[iL]? with | some d => He.fAd K (d.name, none) | none => 0) = _
    rw [hi]
    rfl
  refine ⟨fd, t.tf.map (He.cT K), spI (t.F K) t.pg m iL 1 bad, fun p hp => ?_, fun p hp => ?_, fun p hp => ?_, ?_, fun H a ns hn hb hT hS => ?_, fun base KB GB TB => ?_⟩
  · obtain ⟨q, hq, rfl⟩ := List.mem_map.mp hp
    exact c.empty q hq
  · obtain ⟨q, hq, rfl⟩ := List.mem_map.mp hp
    exact c.out q hq
  · obtain ⟨q, hq, rfl⟩ := List.mem_map.mp hp
    exact PySem.W.codeHd_of_K X (c.hd q hq)
  · intro s u
    obtain ⟨oc, od, dV, kV, doc, pm, an, cdv, ct, osl, rfl, lk, hcd, hdf, hkw⟩ := FD.ex
    have hdV : dV = .none := by
      rcases hdf with ⟨_, e⟩ | ⟨e, _⟩
      · exact e
      · exact absurd rfl e
    subst hdV
    unfold posBind at hpb
    split at hpb
    · rename_i ord eb
      have b := List.all_eq_true.mp (Bool.and_eq_true_iff.mp hc).1 dL hd
      simp only [defB, List.all_cons, List.all_nil, id_eq, Bool.and_eq_true, and_true] at b
      obtain ⟨b1, b2, b3, b4, b5, b6, _⟩ := b
      obtain ⟨ms, bc, hcs⟩ := bindI_ok eb (isEmpty_nil b2) (isNone_none b3) (isNone_none b4) (of_decide_eq_true b5) (of_decide_eq_true b6)
      have hms : ms = [] := by
        have z := bc.lack
        rw [hkwo] at z
        simpa [lackN] using z.symm
      subst hms
      have bt := bind_gen (K := []) (x := dL.name) (q := dL.qual) (params := dL.params) (body := dL.body) (scope := dL.sc) (kV := kV) (doc := doc) (pm := pm) (an := an) (cdv := cdv) (ct := ct) bc (s := s) (us := [u]) (ws := []) (mv := []) (fun _ _ e => nomatch e) rfl rfl rfl (.inl rfl)
      have eo : ord = List.range [u].length := of_decide_eq_true hpb
      rw [List.append_nil, List.append_nil, eo, ident_pick, hpos, hkwo] at bt
      exact bt
    · cases hpb
  · have tabs : LamX.Tabs (t.T K) H := fun z hz => by
      obtain ⟨q, hq, rfl⟩ := List.mem_map.mp hz
      exact TabS.nil (hT _ (List.mem_map.mpr ⟨q, hq, rfl⟩))
    have fin : ∀ (p : Rho) (st : Sto) (ds : List D), (t.F K).HR p st H → (t.F K).DRs p H ds [.ref a] → isScr ns ds st → spI (t.F K) t.pg m iL 1 bad [.ref a] H (fun v _ => v = .bl true) fun _ _ _ => False := fun p st ds hr rs hs => by
      obtain ⟨st', e⟩ := law ns ds st hn hb hs
      refine ⟨p, st, ds, hr, rs, by rw [rs.length]; rfl, ?_⟩
      rw [e]
      intro p1 H1 v _ _ rv
      cases rv
      rfl
    have empt : (t.F K).HR [] [] H := ⟨rfl, fun l o a e => (by cases e), fun l k o u a e => (by cases e), tabs⟩
    rcases hS with (hS | ⟨ob, hS⟩) | hS
    · refine fin [a] [.lst (ns.map .int)] [.ref 0] ⟨rfl, fun l o b e1 e2 => ?_, fun l k o u b e1 e2 e3 e4 _ _ => ?_, tabs⟩ (.cons (.ref rfl) .nil) (.inr ⟨rfl, rfl⟩)
      · cases l with
        | zero =>
          cases e1
          cases e2
          exact ⟨_, hS, ints_DRs ns⟩
        | succ l => cases e1
      · cases l with
        | zero => cases k with
          | zero => rfl
          | succ k => cases e2
        | succ l => cases e1
    · exact fin [] [] [.fl (ns.map .int)] empt (.cons (.fl (.inl ⟨ob, hS⟩) (ints_DRs ns)) .nil) (.inl ⟨rfl, rfl⟩)
    · exact fin [] [] [.fl (ns.map .int)] empt (.cons (.fl (.inr hS) (ints_DRs ns)) .nil) (.inl ⟨rfl, rfl⟩)
  · have S := stat_ok hc hq hcomp c KB GB TB
    have FO := calls_ok (P := l.prog) (w := w) S rfl m iL dL hi
    obtain ⟨oc, od, dV, kV, doc, pm, an, cdv, ct, osl, rfl, lk, _⟩ := FD.ex
    rw [hfA] at FO
    have := FO _ _ _ _ lk
    have hn : dL.nams = [x] := by unfold DefI.nams; rw [hpos, hkwo]; rfl
    have hp : nPar dL = 1 := by unfold nPar; rw [hpos, hkwo]; rfl
    rw [hn, hp] at this
    exact this
end
end Mi

set_option Elab.async false
set_option linter.all false
set_option autoImplicit false
set_option maxRecDepth 100000
set_option maxHeartbeats 1000000
/-! Pl: what holds behind a run: rules for each construct of Mi. X: what is wanted of an exception. -/
namespace Mi
@[irreducible] def wq {α : Type} (X : Nat → Sto → Prop) (m : M α) (h : Sto) (Q : α → Sto → Prop) : Prop := match m h with
  | .ok a h' => Q a h'
  | .exn c h' => X c h'
  | .bad => False
abbrev wp {α : Type} (m : M α) (h : Sto) (Q : α → Sto → Prop) : Prop := wq (fun _ _ => False) m h Q
@[irreducible] def wqS (X : Nat → Fr → Sto → Prop) (m : MS) (σ : Fr) (h : Sto) (R : Flow → Fr → Sto → Prop) : Prop := match m σ h with
  | .ok fl σ' h' => R fl σ' h'
  | .exn c σ' h' => X c σ' h'
  | .bad => False
abbrev wpS (m : MS) (σ : Fr) (h : Sto) (R : Flow → Fr → Sto → Prop) : Prop := wqS (fun _ _ _ => False) m σ h R
section
variable {α β : Type} {h : Sto} {σ : Fr} {g : G} {X : Nat → Sto → Prop} {Y : Nat → Fr → Sto → Prop}
theorem wp_iff {m : M α} {Q : α → Sto → Prop} : wp m h Q ↔ ∃ a h', m h = .ok a h' ∧ Q a h' := by
  unfold wp wq
  cases e : m h with
  | ok a h1 =>
    constructor
    · exact fun q => ⟨_, _, rfl, q⟩
    · rintro ⟨_, _, e, q⟩
      cases e
      exact q
  | exn c h1 => exact ⟨fun q => q.elim, fun ⟨_, _, e, _⟩ => by cases e⟩
  | bad => exact ⟨fun q => q.elim, fun ⟨_, _, e, _⟩ => by cases e⟩
theorem wq_ok {m : M α} {Q : α → Sto → Prop} {a : α} {h' : Sto} (e : m h = .ok a h') (q : Q a h') : wq X m h Q := by
  unfold wq
  rw [e]
  exact q
theorem wp_eq {m : M α} {Q : α → Sto → Prop} {a : α} {h' : Sto} (e : m h = .ok a h') : wq X m h Q ↔ Q a h' := by
  unfold wq
  rw [e]
theorem wq_exn {m : M α} {Q : α → Sto → Prop} {c : Nat} {h' : Sto} (e : m h = .exn c h') : wq X m h Q ↔ X c h' := by
  unfold wq
  rw [e]
theorem wq.mono {X' : Nat → Sto → Prop} {m : M α} {Q Q' : α → Sto → Prop} (x : wq X m h Q) (k : ∀ a h', Q a h' → Q' a h') (kx : ∀ c h', X c h' → X' c h') : wq X' m h Q' := by
  unfold wq at x ⊢
  cases e : m h with
  | ok a h1 => rw [e] at x; exact k a h1 x
  | exn c h1 => rw [e] at x; exact kx c h1 x
  | bad => rw [e] at x; exact x
theorem wp.mono {m : M α} {Q Q' : α → Sto → Prop} (x : wp m h Q) (k : ∀ a h', Q a h' → Q' a h') : wq X m h Q' := wq.mono x k fun _ _ z => z.elim
theorem wqS.mono {Y' : Nat → Fr → Sto → Prop} {m : MS} {R R' : Flow → Fr → Sto → Prop} (x : wqS Y m σ h R) (k : ∀ a f h', R a f h' → R' a f h') (kx : ∀ c f h', Y c f h' → Y' c f h') : wqS Y' m σ h R' := by
  unfold wqS at x ⊢
  cases e : m σ h with
  | ok a f h1 => rw [e] at x; exact k a f h1 x
  | exn c f h1 => rw [e] at x; exact kx c f h1 x
  | bad => rw [e] at x; exact x
theorem wp_ret {a : α} {Q : α → Sto → Prop} : wq X (ret a) h Q ↔ Q a h := by unfold wq; exact Iff.rfl
theorem wp_bad {Q : α → Sto → Prop} : wq X (bad : M α) h Q ↔ False := by unfold wq; exact Iff.rfl
theorem wp_bnd {m : M α} {f : α → M β} {Q : β → Sto → Prop} : wq X (bnd m f) h Q ↔ wq X m h fun a h1 => wq X (f a) h1 Q := by
  unfold wq bnd
  cases em : m h <;> rfl
theorem wp_ofO {o : Option α} {Q : α → Sto → Prop} : wq X (ofO o) h Q ↔ ∃ a, o = some a ∧ Q a h := by
  cases o with
  | none =>
    show wq X bad h Q ↔ _
    rw [wp_bad]
    simp
  | some a =>
    show wq X (ret a) h Q ↔ _
    rw [wp_ret]
    simp
theorem wp_look {f : Sto → Option α} {Q : α → Sto → Prop} : wq X (lookS f) h Q ↔ ∃ a, f h = some a ∧ Q a h := by
  unfold wq lookS
  cases e : f h <;> simp
theorem wp_alloc {o : Obj} {Q : D → Sto → Prop} : wq X (alloc o) h Q ↔ Q (.ref h.length) (h ++ [o]) := by unfold wq; exact Iff.rfl
theorem wp_guard {f : Sto → Bool} {Q : Unit → Sto → Prop} : wq X (guardS f) h Q ↔ f h = true ∧ Q () h := by
  unfold wq guardS
  cases e : f h with
  | false => simp
  | true => simp
theorem wp_ifb {c : Prop} [Decidable c] {m : M α} {Q : α → Sto → Prop} : wq X (if c then m else bad) h Q ↔ c ∧ wq X m h Q := by
  by_cases k : c
  · rw [if_pos k]; exact ⟨fun q => ⟨k, q⟩, fun q => q.2⟩
  · rw [if_neg k, wp_bad]; exact ⟨fun q => q.elim, fun q => k q.1⟩
theorem wp_ite_ret {c : Prop} [Decidable c] {a : α} {Q : α → Sto → Prop} : wq X (if c then ret a else bad) h Q ↔ c ∧ Q a h := by rw [wp_ifb, wp_ret]
theorem wp_evT {e : E} {Q : Bool → Sto → Prop} : wq X (evT g e σ) h Q ↔ wq X (evE g e σ) h fun d h1 => ∃ t, truth h1 d = some t ∧ Q t h1 := by
  unfold evT
  rw [wp_bnd]
  simp only [wp_look]
variable {R : Flow → Fr → Sto → Prop}
theorem wpS_use {m : Fr → M α} {f : α → MS} : wqS Y (useE m f) σ h R ↔ wq (fun c h1 => Y c σ h1) (m σ) h fun a h1 => wqS Y (f a) σ h1 R := by
  unfold wqS useE wq
  cases em : m σ h <;> rfl
/-- what follows a statement -/
def seqK (Y : Nat → Fr → Sto → Prop) (b : MS) (R : Flow → Fr → Sto → Prop) : Flow → Fr → Sto → Prop
  | .next, σ, h => wqS Y b σ h R
  | .brk, σ, h => R .brk σ h
  | .cnt, σ, h => R .cnt σ h
  | .ret d, σ, h => R (.ret d) σ h
theorem wpS_seqS {a b : MS} : wqS Y (seqS a b) σ h R ↔ wqS Y a σ h (seqK Y b R) := by
  unfold wqS seqS
  cases ea : a σ h with
  | ok f1 σ1 h1 =>
    cases f1 with
    | next => dsimp only [seqK]; unfold wqS; rfl
    | brk => rfl
    | cnt => rfl
    | ret _ => rfl
  | exn _ _ _ => rfl
  | bad => rfl
theorem wpS_pas : wqS Y (exS g .pas) σ h R ↔ R .next σ h := by rw [exS]; unfold wqS; exact Iff.rfl
theorem wpS_brk : wqS Y (exS g .brk) σ h R ↔ R .brk σ h := by rw [exS]; unfold wqS; exact Iff.rfl
theorem wpS_cnt : wqS Y (exS g .cnt) σ h R ↔ R .cnt σ h := by rw [exS]; unfold wqS; exact Iff.rfl
theorem wpS_retN : wqS Y (exS g .retN) σ h R ↔ R (.ret .non) σ h := by rw [exS]; unfold wqS; exact Iff.rfl
theorem wpS_rai {c : Nat} : wqS Y (exS g (.rai c)) σ h R ↔ Y c σ h := by rw [exS]; unfold wqS; exact Iff.rfl
theorem wpS_seq {a b : S} : wqS Y (exS g (.seq a b)) σ h R ↔ wqS Y (exS g a) σ h (seqK Y (exS g b) R) := by rw [exS]; exact wpS_seqS
theorem wpS_set {i : Nat} {e : E} : wqS Y (exS g (.set i e)) σ h R ↔ wq (fun c h1 => Y c σ h1) (evE g e σ) h fun d h1 => R .next (σ.set i (some d)) h1 := by
  rw [exS, wpS_use]
  unfold wqS
  exact Iff.rfl
theorem wpS_setT {is : List Nat} {e : E} : wqS Y (exS g (.setT is e)) σ h R ↔ wq (fun c h1 => Y c σ h1) (evE g e σ) h fun d h1 => ∃ σ1, setTg (.many is) d σ = some σ1 ∧ R .next σ1 h1 := by
  rw [exS, wpS_use]
  refine iff_of_eq (congrArg (wq (fun c h1 => Y c σ h1) (evE g e σ) h) (funext fun d => funext fun h1 => propext ?_))
  unfold wqS
  cases e1 : setTg (.many is) d σ <;> simp [e1]
theorem wpS_par {is : List Nat} {as : Es} : wqS Y (exS g (.par is as)) σ h R ↔ wq (fun c h1 => Y c σ h1) (evA g as σ) h fun ds h1 => ∃ σ1, setMany is ds σ = some σ1 ∧ R .next σ1 h1 := by
  rw [exS, wpS_use]
  refine iff_of_eq (congrArg (wq (fun c h1 => Y c σ h1) (evA g as σ) h) (funext fun d => funext fun h1 => propext ?_))
  unfold wqS
  cases e1 : setMany is d σ <;> simp [e1]
theorem wpS_setI {o i e : E} : wqS Y (exS g (.setI o i e)) σ h R ↔ wq (fun c h1 => Y c σ h1) (evE g e σ) h fun d h1 => wq (fun c h1 => Y c σ h1) (evE g o σ) h1 fun x h2 => wq (fun c h1 => Y c σ h1) (evE g i σ) h2 fun y h3 => ∃ h4, setID x y d h3 = some h4 ∧ R .next σ h4 := by
  rw [exS]
  simp only [wpS_use]
  refine iff_of_eq (congrArg (wq _ (evE g e σ) h) (funext fun d => funext fun h1 => congrArg (wq _ (evE g o σ) h1) (funext fun x => funext fun h2 => congrArg (wq _ (evE g i σ) h2) (funext fun y => funext fun h3 => propext ?_))))
  unfold wqS
  cases e1 : setID x y d h3 <;> simp [e1]
theorem wpS_aug {i : Nat} {b : BOp} {e : E} : wqS Y (exS g (.aug i b e)) σ h R ↔ ∃ x, getV σ i = some x ∧ wq (fun c h1 => Y c σ h1) (evE g e σ) h fun y h1 => wq (fun c h1 => Y c σ h1) (augD b x y) h1 fun z h2 => R .next (σ.set i (some z)) h2 := by
  rw [exS]
  cases e1 : getV σ i with
  | none => unfold wqS; simp [e1]
  | some x =>
    have k1 : wqS Y (useE (evE g e) (fun y => useE (fun _ => augD b x y) fun z σ h => .ok .next (σ.set i (some z)) h)) σ h R ↔ wq (fun c h1 => Y c σ h1) (evE g e σ) h fun y h1 => wq (fun c h1 => Y c σ h1) (augD b x y) h1 fun z h2 => R .next (σ.set i (some z)) h2 :=
      wpS_use.trans (iff_of_eq (congrArg (wq _ (evE g e σ) h) (funext fun y => funext fun h1 => propext (wpS_use.trans (by unfold wqS; exact Iff.rfl)))))
    unfold wqS at k1 ⊢
    simp only [e1]
    rw [k1]
    simp
theorem wpS_exp {e : E} : wqS Y (exS g (.exp e)) σ h R ↔ wq (fun c h1 => Y c σ h1) (evE g e σ) h fun _ h1 => R .next σ h1 := by
  rw [exS, wpS_use]
  unfold wqS
  exact Iff.rfl
theorem wpS_ret {e : E} : wqS Y (exS g (.ret e)) σ h R ↔ wq (fun c h1 => Y c σ h1) (evE g e σ) h fun d h1 => R (.ret d) σ h1 := by
  rw [exS, wpS_use]
  unfold wqS
  exact Iff.rfl
theorem wpS_ite {e : E} {a b : S} : wqS Y (exS g (.ite e a b)) σ h R ↔ wq (fun c h1 => Y c σ h1) (evE g e σ) h fun d h1 => ∃ t, truth h1 d = some t ∧ wqS Y (if t then exS g a else exS g b) σ h1 R := by
  rw [exS, wpS_use, wp_evT]
theorem wpS_for {t : Tg} {k : SrcK} {as : Es} {b : S} : wqS Y (exS g (.for_ t k as b)) σ h R ↔ wq (fun c h1 => Y c σ h1) (evA g as σ) h fun ds h1 => ∃ cur, curOf h1 k ds = some cur ∧ wqS Y (loopS cur t (exS g b) g.wf 0) σ h1 R := by
  rw [exS, wpS_use]
  refine iff_of_eq (congrArg (wq _ (evA g as σ) h) (funext fun d => funext fun h1 => propext ?_))
  cases e1 : curOf h1 k d <;> simp [e1, wqS]
theorem wpS_whl {c : E} {b : S} : wqS Y (exS g (.whl c b)) σ h R ↔ wqS Y (whileS (evT g c) (exS g b) g.wf) σ h R := by rw [exS]
/-- what a try makes of an exception -/
def tryK (Y : Nat → Fr → Sto → Prop) (sub : Nat → Nat → Option Bool) (c i k : Nat) (R : Flow → Fr → Sto → Prop) (d : Nat) (σ1 : Fr) (h1 : Sto) : Prop := match sub d c with
  | some true => R .next ((σ1.set k (some (.exc d))).set i none) h1
  | some false => Y d σ1 h1
  | none => False
theorem wpS_try {b : S} {c i k : Nat} : wqS Y (exS g (.tryAs b c i k)) σ h R ↔ wqS (tryK Y g.sub c i k R) (exS g b) σ h R := by
  rw [exS]
  unfold wqS
  dsimp only
  cases e : exS g b σ h with
  | ok _ _ _ => rfl
  | bad => rfl
  | exn d σ1 h1 =>
    unfold tryK
    dsimp only
    cases e2 : g.sub d c with
    | none => rfl
    | some t => cases t <;> rfl
/-- a def's run -/
def endK (Q : D → Sto → Prop) : Flow → Fr → Sto → Prop
  | .ret d, _, h => Q d h
  | .next, _, h => Q .non h
  | _, _, _ => False
theorem wp_run {fn : Fn} {ds : List D} {Q : D → Sto → Prop} (hl : ds.length = fn.par) (x : wqS (fun c _ h1 => X c h1) (exS g fn.body) (start fn.slots ds) h (endK Q)) : wq X (runFn g fn ds) h Q := by
  unfold wq runFn
  unfold wqS at x
  rw [if_pos hl]
  cases e : exS g fn.body (start fn.slots ds) h with
  | ok fl σ' h' =>
    rw [e] at x
    cases fl with
    | ret d => exact x
    | next => exact x
    | brk => exact x.elim
    | cnt => exact x.elim
  | exn c σ' h' => rw [e] at x; exact x
  | bad => rw [e] at x; exact x
theorem wp_callN {p : Pg} {n f : Nat} {fn : Fn} {ds : List D} {o : M D} {Q : D → Sto → Prop} (hf : p.fns[f]? = some fn) (x : wq X (runFn (gOf p n o) fn ds) h Q) : wq X (callS p (n + 1) 0 f ds o) h Q := by
  have e : callS p (n + 1) 0 f ds o = runFn (gOf p n o) fn ds := by
    rw [show callS p (n + 1) 0 f ds o = match p.fns[f]? with | none => bad | some fn => runFn (gOf p n o) fn ds from rfl, hf]
  rw [e]
  exact x
/-- one def's run, opened -/
theorem wp_def {p : Pg} {n f : Nat} {fn : Fn} {ds : List D} {o : M D} {Q : D → Sto → Prop} (hf : p.fns[f]? = some fn) (hl : ds.length = fn.par) (x : wqS (fun c _ h1 => X c h1) (exS (gOf p n o) fn.body) (start fn.slots ds) h (endK Q)) : wq X (callS p (n + 1) 0 f ds o) h Q := wp_callN hf (wp_run hl x)

/-! ### loops -/
/-- what a turn must bring -/
def turnK (Inv : Nat → Fr → Sto → Prop) (R : Flow → Fr → Sto → Prop) (i : Nat) : Flow → Fr → Sto → Prop
  | .next, σ, h => Inv (i + 1) σ h
  | .cnt, σ, h => Inv (i + 1) σ h
  | .brk, σ, h => R .next σ h
  | .ret d, σ, h => R (.ret d) σ h
theorem wpS_loop {cur : Cur} {t : Tg} {body : MS} {N : Nat} (Inv : Nat → Fr → Sto → Prop) {fuel : Nat} (h0 : Inv 0 σ h) (hf : N < fuel)
    (step : ∀ i σ h, i < N → Inv i σ h → ∃ d σ1, cur h i = some (some d) ∧ setTg t d σ = some σ1 ∧ wqS Y body σ1 h (turnK Inv R i))
    (stop : ∀ σ h, Inv N σ h → cur h N = some none ∧ R .next σ h) : wqS Y (loopS cur t body fuel 0) σ h R := by
  have key : ∀ (f i : Nat) (σ : Fr) (h : Sto), N < f + i → i ≤ N → Inv i σ h → wqS Y (loopS cur t body f i) σ h R := by
    intro f
    induction f with
    | zero => intro i σ h h1 h2 _; omega
    | succ f ih =>
      intro i σ h h1 h2 hi
      by_cases k : i = N
      · subst k
        obtain ⟨e, q⟩ := stop σ h hi
        unfold wqS loopS
        rw [e]
        exact q
      · obtain ⟨d, σ1, e1, e2, q⟩ := step i σ h (by omega) hi
        unfold wqS loopS
        rw [e1]
        simp only [e2]
        unfold wqS at q
        cases e3 : body σ1 h with
        | exn c σ2 h2 => rw [e3] at q; exact q
        | bad => rw [e3] at q; exact q
        | ok fl σ2 h3 =>
          rw [e3] at q
          cases fl with
          | next =>
            have z := ih (i + 1) σ2 h3 (by omega) (by omega) q
            unfold wqS at z
            exact z
          | cnt =>
            have z := ih (i + 1) σ2 h3 (by omega) (by omega) q
            unfold wqS at z
            exact z
          | brk => exact q
          | ret d => exact q
  exact key fuel 0 σ h (by omega) (Nat.zero_le _) h0
/-- what a while's turn must bring -/
def whileK (Inv : Fr → Sto → Prop) (μ : Fr → Sto → Nat) (m : Nat) (R : Flow → Fr → Sto → Prop) : Flow → Fr → Sto → Prop
  | .next, σ, h => Inv σ h ∧ μ σ h < m
  | .cnt, σ, h => Inv σ h ∧ μ σ h < m
  | .brk, σ, h => R .next σ h
  | .ret d, σ, h => R (.ret d) σ h
theorem wpS_while {c : Fr → M Bool} {body : MS} (Inv : Fr → Sto → Prop) (μ : Fr → Sto → Nat) {fuel : Nat} (h0 : Inv σ h) (hf : μ σ h < fuel)
    (step : ∀ σ h, Inv σ h → wq (fun c h1 => Y c σ h1) (c σ) h fun t h1 => if t = true then wqS Y body σ h1 (whileK Inv μ (μ σ h) R) else R .next σ h1) : wqS Y (whileS c body fuel) σ h R := by
  induction fuel generalizing σ h with
  | zero => omega
  | succ f ih =>
    have s := step σ h h0
    unfold wqS whileS
    unfold wq at s
    cases e1 : c σ h with
    | exn k h1 => rw [e1] at s; exact s
    | bad => rw [e1] at s; exact s
    | ok t h1 =>
      rw [e1] at s
      cases t with
      | false => simpa using s
      | true =>
        have s : wqS Y body σ h1 (whileK Inv μ (μ σ h) R) := by simpa using s
        unfold wqS at s
        dsimp only
        cases e2 : body σ h1 with
        | exn k σ2 h2 => rw [e2] at s; exact s
        | bad => rw [e2] at s; exact s
        | ok fl σ2 h2 =>
          rw [e2] at s
          cases fl with
          | next =>
            have z := ih s.1 (by have := s.2; omega)
            unfold wqS at z
            exact z
          | cnt =>
            have z := ih s.1 (by have := s.2; omega)
            unfold wqS at z
            exact z
          | brk => exact s
          | ret d => exact s
/-! ### texts' and lists' forms -/
theorem wpS_setS {is : List Nat} {i : Nat} {e : E} : wqS Y (exS g (.setS is i e)) σ h R ↔ wq (fun c h1 => Y c σ h1) (evE g e σ) h fun d h1 => ∃ ds, seqOf h1 d = some ds ∧ (is.length ≤ ds.length + 1 ∧ i < is.length) ∧ ∃ σ1, setMany is (starD is.length i h1.length ds) σ = some σ1 ∧ R .next σ1 (h1 ++ [.lst (starMid is.length i ds)]) := by
  rw [exS, wpS_use]
  refine iff_of_eq (congrArg (wq (fun c h1 => Y c σ h1) (evE g e σ) h) (funext fun d => funext fun h1 => propext ?_))
  cases e1 : seqOf h1 d with
  | none =>
    unfold wqS
    simp only [e1]
    constructor
    · exact fun z => z.elim
    · rintro ⟨ds, e, _⟩
      cases e
  | some ds =>
    by_cases k : is.length ≤ ds.length + 1 ∧ i < is.length
    · cases e2 : setMany is (starD is.length i h1.length ds) σ with
      | none =>
        unfold wqS
        simp only [e1, if_pos k, e2]
        constructor
        · exact fun z => z.elim
        · rintro ⟨ds', e, _, σ1, e3, _⟩
          cases e
          rw [e2] at e3
          cases e3
      | some σ1 =>
        unfold wqS
        simp only [e1, if_pos k, e2]
        constructor
        · exact fun z => ⟨ds, rfl, k, σ1, e2, z⟩
        · rintro ⟨ds', e, _, σ2, e3, z⟩
          cases e
          rw [e2] at e3
          cases e3
          exact z
    · unfold wqS
      simp only [e1, if_neg k]
      constructor
      · exact fun z => z.elim
      · rintro ⟨ds', e, k', _⟩
        cases e
        exact k k'
def lcK (g : G) (t : Tg) (k : SrcK) (c e : E) (own : List Nat) (σ : Fr) (ds : List D) : M D := fun h => match curOf h k ds with
  | none => .bad
  | some cur => bnd (lcL cur t own (evT g c) (evE g e) σ g.wf 0 []) (fun acc => alloc (.lst acc)) h
theorem wp_lc {t : Tg} {k : SrcK} {as : Es} {c e : E} {own : List Nat} {Q : D → Sto → Prop} : wq X (evE g (.lc t k as c e own) σ) h Q ↔ wq X (evA g as σ) h fun ds h1 => ∃ cur, curOf h1 k ds = some cur ∧ wq X (lcL cur t own (evT g c) (evE g e) σ g.wf 0 []) h1 fun acc h2 => Q (.ref h2.length) (h2 ++ [.lst acc]) := by
  have e0 : evE g (.lc t k as c e own) σ = bnd (evA g as σ) (lcK g t k c e own σ) := by rw [evE]; rfl
  rw [e0, wp_bnd]
  refine iff_of_eq (congrArg (wq X (evA g as σ) h) (funext fun ds => funext fun h1 => propext ?_))
  cases e1 : curOf h1 k ds with
  | none =>
    unfold wq lcK
    simp [e1]
  | some cur =>
    have e2 : ∀ Z : D → Sto → Prop, wq X (lcK g t k c e own σ ds) h1 Z ↔ wq X (bnd (lcL cur t own (evT g c) (evE g e) σ g.wf 0 []) (fun acc => alloc (.lst acc))) h1 Z := fun Z => by
      unfold wq lcK
      simp only [e1]
    rw [e2, wp_bnd]
    simp only [wp_alloc]
    simp
theorem wp_lcL {cur : Cur} {t : Tg} {own : List Nat} {c : Fr → M Bool} {e : Fr → M D} {N : Nat} {Q : List D → Sto → Prop} (Inv : Nat → List D → Sto → Prop) {fuel : Nat} (h0 : Inv 0 [] h) (hf : N < fuel)
    (step : ∀ i acc h, i < N → Inv i acc h → ∃ d σ1, cur h i = some (some d) ∧ setTg t d (wipeF σ own) = some σ1 ∧ wp (c σ1) h fun b h1 => if b = true then wp (e σ1) h1 fun y h2 => acc.length < lim ∧ Inv (i + 1) (acc ++ [y]) h2 else Inv (i + 1) acc h1)
    (stop : ∀ acc h, Inv N acc h → cur h N = some none ∧ Q acc h) : wq X (lcL cur t own c e σ fuel 0 []) h Q := by
  have key : ∀ (f i : Nat) (acc : List D) (h : Sto), N < f + i → i ≤ N → Inv i acc h → wq X (lcL cur t own c e σ f i acc) h Q := by
    intro f
    induction f with
    | zero => intro i acc h h1 h2 _; omega
    | succ f ih =>
      intro i acc h h1 h2 hi
      by_cases k : i = N
      · subst k
        obtain ⟨e1, q⟩ := stop acc h hi
        unfold wq lcL
        simp only [e1]
        exact q
      · obtain ⟨d, σ1, e1, e2, q⟩ := step i acc h (by omega) hi
        obtain ⟨b, h3, e3, q3⟩ := wp_iff.mp q
        have this : lcL cur t own c e σ (f + 1) i acc h = match b with
          | false => lcL cur t own c e σ f (i + 1) acc h3
          | true => (match e σ1 h3 with
            | .ok y h2 => if acc.length < lim then lcL cur t own c e σ f (i + 1) (acc ++ [y]) h2 else .bad
            | _ => .bad) := by
          conv => lhs; unfold lcL
          simp only [e1, e2, e3]
          cases b <;> rfl
        cases b with
        | false =>
          have z := ih (i + 1) acc h3 (by omega) (by omega) (by simpa using q3)
          unfold wq at z ⊢
          rw [this]
          exact z
        | true =>
          have q3 : wp (e σ1) h3 fun y h2 => acc.length < lim ∧ Inv (i + 1) (acc ++ [y]) h2 := by simpa using q3
          obtain ⟨y, h4, e4, k1, k2⟩ := wp_iff.mp q3
          have z := ih (i + 1) (acc ++ [y]) h4 (by omega) (by omega) k2
          unfold wq at z ⊢
          rw [this]
          simp only [e4, if_pos k1]
          exact z
  exact key fuel 0 [] h (by omega) (Nat.zero_le _) h0
theorem wp_fmt {as : Es} {Q : D → Sto → Prop} : wq X (evE g (.fmt as) σ) h Q ↔ wq X (evF g as σ []) h fun s h1 => Q (.str s) h1 := by
  rw [evE, wp_bnd]
  simp only [wp_ret]
theorem wp_fnil {acc : List Nat} {Q : List Nat → Sto → Prop} : wq X (evF g .nil σ acc) h Q ↔ Q acc h := by
  rw [evF, wp_ret]
theorem wp_fcons {e : E} {es : Es} {acc : List Nat} {Q : List Nat → Sto → Prop} : wq X (evF g (.cons e es) σ acc) h Q ↔ wq X (evE g e σ) h fun d h1 => ∃ s, textOf d = some s ∧ acc.length + s.length ≤ lim ∧ wq X (evF g es σ (acc ++ s)) h1 Q := by
  rw [evF, wp_bnd]
  simp only [wp_bnd, wp_ofO, wp_ifb]
theorem wp_asB {m : M D} {Q : Option Int → Sto → Prop} : wq X (asB false m) h Q ↔ wq X m h fun d h1 => ∃ i, d = .int i ∧ Q (some i) h1 := by
  have : asB false m = bnd m fun x => match x with
    | .int i => ret (some i)
    | _ => bad := rfl
  rw [this, wp_bnd]
  refine iff_of_eq (congrArg (wq X m h) (funext fun d => funext fun h1 => propext ?_))
  cases d <;> simp [wp_ret, wp_bad]
theorem wp_asN {m : M D} {Q : Option Int → Sto → Prop} : wq X (asB true m) h Q ↔ Q none h := by
  have : asB true m = ret none := rfl
  rw [this, wp_ret]
end
end Mi

set_option Elab.async false
set_option linter.all false
set_option autoImplicit false
set_option maxRecDepth 100000
set_option maxHeartbeats 1000000
/-! Pd: the laws' common helpers. -/
namespace Mi
def drawFn : Fn := ⟨3, 6, (.seq (.setI (.var 1) (.cst (.str [99, 111, 117, 110, 116])) (.bin .add (.idx (.var 1) (.cst (.str [99, 111, 117, 110, 116]))) (.cst (.int 1))))
    (.seq (.set 3 (.ifx (.var 0) (.bin .mod (.idx (.var 1) (.cst (.str [99, 111, 117, 110, 116]))) (.blt .len (.cons (.var 0) .nil))) (.cst (.int 0))))
    (.seq (.set 4 (.bmt .get (.idx (.var 1) (.cst (.str [114, 101, 115, 116, 115]))) (.cons (.var 3) (.cons (.ifx (.var 0) (.idx (.var 0) (.var 3)) (.cst (.int 0))) .nil))))
    (.seq (.ite (.cmp .ge (.var 4) (.bin .pow (.cst (.int 10)) (.cst (.int 18)))) (.seq (.setI (.idx (.var 1) (.cst (.str [114, 101, 115, 116, 115]))) (.var 3) (.bin .fdiv (.var 4) (.var 2)))
    (.ret (.bin .mod (.var 4) (.var 2)))) .pas)
    (.seq (.set 5 (.bin .mod (.bin .add (.var 4) (.bin .mul (.cst (.int 104729)) (.idx (.var 1) (.cst (.str [99, 111, 117, 110, 116]))))) (.cst (.int 4294967291))))
    (.seq (.set 5 (.bin .mod (.bin .pow (.var 5) (.cst (.int 5))) (.cst (.int 4294967279))))
    (.ret (.bin .mod (.bin .fdiv (.bin .mod (.bin .add (.bin .mul (.bin .fdiv (.var 5) (.cst (.int 64))) (.cst (.int 69621))) (.var 5)) (.cst (.int 4294967231))) (.cst (.int 8))) (.var 2)))))))))⟩
def begunFn : Fn := ⟨0, 0, (.ret (.dct [.s [99, 111, 117, 110, 116], .s [114, 101, 115, 116, 115]] (.cons (.cst (.int 0)) (.cons (.dct [] .nil) .nil))))⟩
def isFn : Fn := ⟨2, 2, (.ret (.and (.isi (.var 0) .bool) (.cmp .eq (.var 0) (.var 1))))⟩
def classFn : Fn := ⟨1, 3, (.seq (.set 1 (.lst (.cons (.isi (.var 0) (.exc 1)) (.cons (.isi (.var 0) (.exc 2)) (.cons (.isi (.var 0) (.exc 3)) .nil)))))
    (.seq (.set 1 (.bin .add (.var 1) (.lst (.cons (.isi (.var 0) (.exc 4)) (.cons (.isi (.var 0) (.exc 5)) (.cons (.isi (.var 0) (.exc 6)) .nil))))))
    (.seq (.set 1 (.bin .add (.var 1) (.lst (.cons (.isi (.var 0) (.exc 7)) (.cons (.isi (.var 0) (.exc 8)) (.cons (.isi (.var 0) (.exc 9)) .nil))))))
    (.seq (.set 1 (.bin .add (.var 1) (.lst (.cons (.isi (.var 0) (.exc 10)) (.cons (.isi (.var 0) (.exc 11)) (.cons (.isi (.var 0) (.exc 12)) .nil))))))
    (.seq (.set 1 (.bin .add (.var 1) (.lst (.cons (.isi (.var 0) (.exc 13)) (.cons (.isi (.var 0) (.exc 14)) .nil)))))
    (.seq (.ite (.or (.cmp .ne (.bmt .count (.var 1) (.cons (.cst (.bl true)) .nil)) (.cst (.int 1))) (.not (.isi (.var 0) .valueError))) (.ret (.cst (.str [105, 115, 32, 119, 114, 111, 110, 103]))) .pas)
    (.seq (.set 2 (.lst (.cons (.cst (.str [110, 111, 32, 112, 105, 99, 116, 117, 114, 101])) (.cons (.cst (.str [110, 111, 32, 114, 111, 111, 109])) (.cons (.cst (.str [110, 111, 32, 113, 117, 111, 116, 105, 101, 110, 116])) (.cons (.cst (.str [110, 111, 32, 116, 101, 120, 116])) (.cons (.cst (.str [110, 111, 32, 102, 105, 103, 117, 114, 101, 115])) (.cons (.cst (.str [110, 111, 32, 108, 101, 116, 116, 101, 114, 115])) (.cons (.cst (.str [110, 111, 32, 109, 111, 118, 101])) (.cons (.cst (.str [110, 111, 32, 112, 97, 116, 104])) .nil))))))))))
    (.ret (.idx (.bin .add (.var 2) (.lst (.cons (.cst (.str [110, 111, 32, 97, 109, 111, 117, 110, 116])) (.cons (.cst (.str [110, 111, 32, 103, 114, 111, 117, 112])) (.cons (.cst (.str [98, 97, 100, 32, 115, 105, 122, 101])) (.cons (.cst (.str [110, 111, 32, 98, 97, 99, 107])) (.cons (.cst (.str [98, 97, 100, 32, 114, 111, 119])) (.cons (.cst (.str [99, 108, 111, 115, 101, 100])) .nil)))))))) (.bmt .index (.var 1) (.cons (.cst (.bl true)) .nil)))))))))))⟩
def heardFn (ic : Nat) : Fn := ⟨1, 4, (.seq (.setT [1, 2] (.tup (.cons (.cst .non) (.cons (.cst .non) .nil))))
    (.seq (.tryAs (.set 2 .orc) 0 3 1)
    (.ret (.ifx (.cmp .isn (.var 1) (.cst .non)) (.tup (.cons (.cst (.str [116, 111, 108, 100])) (.cons (.var 2) .nil))) (.tup (.cons (.call ic (.cons (.var 1) .nil)) .nil))))))⟩
abbrev cCount : List Nat := [99, 111, 117, 110, 116]
abbrev cRests : List Nat := [114, 101, 115, 116, 115]
/-- what may change: the cells t and r -/
structure Kp (t r : Nat) (h h' : Sto) : Prop where
  len : h.length ≤ h'.length
  same : ∀ l, l < h.length → l ≠ t → l ≠ r → h'[l]? = h[l]?
theorem Kp.rfl' (t r : Nat) (h : Sto) : Kp t r h h := ⟨Nat.le_refl _, fun _ _ _ _ => rfl⟩
theorem Kp.trans {t r : Nat} {a b c : Sto} (x : Kp t r a b) (y : Kp t r b c) : Kp t r a c := ⟨Nat.le_trans x.len y.len, fun l h1 h2 h3 => (y.same l (Nat.lt_of_lt_of_le h1 x.len) h2 h3).trans (x.same l h1 h2 h3)⟩
theorem Kp.app (t r : Nat) (h m : Sto) : Kp t r h (h ++ m) := ⟨by simp, fun l h1 _ _ => List.getElem?_append_left h1⟩
theorem Kp.set1 {t r : Nat} {h : Sto} (o : Obj) : Kp t r h (h.set t o) := ⟨by simp, fun l _ h2 _ => List.getElem?_set_ne (Ne.symm h2)⟩
theorem Kp.set2 {t r : Nat} {h : Sto} (o : Obj) : Kp t r h (h.set r o) := ⟨by simp, fun l _ _ h3 => List.getElem?_set_ne (Ne.symm h3)⟩
/-- the town as a dict -/
def townO (cnt : Int) (r : Nat) : Obj := .dct [(.s cCount, .int cnt), (.s cRests, .ref r)]
/-- the great cells that were begun -/
def RestOk (kvs : List (Ky × D)) : Prop := (kvs.map (·.1)).Nodup ∧ ∀ q ∈ kvs, ∃ (k : Nat) (v : Int), k < 64 ∧ q = (.i k, .int v)
/-- the law's state: the script, what was drawn, so many draws to come -/
structure Lw (b : Nat) (ns : List Int) (sv : D) (t r : Nat) (h : Sto) : Prop where
  scr : sv = .fl (ns.map .int) ∨ ∃ l, sv = .ref l ∧ l ≠ t ∧ l ≠ r ∧ h[l]? = some (.lst (ns.map .int))
  ne : t ≠ r
  town : ∃ cnt : Nat, h[t]? = some (townO cnt r) ∧ cnt + b ≤ 2 ^ 100
  rests : ∃ kvs, h[r]? = some (.dct kvs) ∧ RestOk kvs
theorem Lw.keep {b : Nat} {ns : List Int} {sv : D} {t r : Nat} {h h' : Sto} (x : Lw b ns sv t r h) (e : ∀ l, l < h.length → h'[l]? = h[l]?) : Lw b ns sv t r h' := by
  have lt : ∀ {l : Nat} {o : Obj}, h[l]? = some o → h'[l]? = some o := fun {l o} q => by rw [e l (List.getElem?_eq_some_iff.mp q).1]; exact q
  refine ⟨?_, x.ne, ?_, ?_⟩
  · rcases x.scr with q | ⟨l, a, b, c, d⟩
    · exact .inl q
    · exact .inr ⟨l, a, b, c, lt d⟩
  · obtain ⟨c, a, b⟩ := x.town; exact ⟨c, lt a, b⟩
  · obtain ⟨c, a, b⟩ := x.rests; exact ⟨c, lt a, b⟩
theorem Lw.app {b : Nat} {ns : List Int} {sv : D} {t r : Nat} {h : Sto} (x : Lw b ns sv t r h) (m : Sto) : Lw b ns sv t r (h ++ m) := x.keep fun l hl => List.getElem?_append_left hl
theorem Lw.less {b c : Nat} {ns : List Int} {sv : D} {t r : Nat} {h : Sto} (x : Lw b ns sv t r h) (hc : c ≤ b) : Lw c ns sv t r h := ⟨x.scr, x.ne, let ⟨a, e, k⟩ := x.town; ⟨a, e, by omega⟩, x.rests⟩
theorem getElem?_set_self' {h : Sto} {l : Nat} {o o' : Obj} (e : h[l]? = some o) : (h.set l o')[l]? = some o' := by
  rw [List.getElem?_set_self (List.getElem?_eq_some_iff.mp e).1]
theorem town_cnt {h : Sto} {t r : Nat} {cnt : Int} (e : h[t]? = some (townO cnt r)) : idxD h (.ref t) (.str [99, 111, 117, 110, 116]) = some (.int cnt) := by
  unfold idxD townO at *
  dsimp only
  rw [e]
  rfl
theorem town_rests {h : Sto} {t r : Nat} {cnt : Int} (e : h[t]? = some (townO cnt r)) : idxD h (.ref t) (.str [114, 101, 115, 116, 115]) = some (.ref r) := by
  unfold idxD townO at *
  dsimp only
  rw [e]
  rfl
theorem town_set {h : Sto} {t r : Nat} {cnt c : Int} (e : h[t]? = some (townO cnt r)) : setID (.ref t) (.str [99, 111, 117, 110, 116]) (.int c) h = some (h.set t (townO c r)) := by
  unfold setID townO at *
  dsimp only
  rw [e]
  have : keyOf (.str [99, 111, 117, 110, 116]) = some (.s [99, 111, 117, 110, 116]) := rfl
  rw [this]
  dsimp only
  rw [if_pos (by unfold lim; simp)]
  rfl
theorem getV_cons_zero (a : Option D) (σ : Fr) : getV (a :: σ) 0 = a := by
  unfold getV
  cases a <;> rfl
theorem getV_cons_succ (a : Option D) (σ : Fr) (i : Nat) : getV (a :: σ) (i + 1) = getV σ i := rfl
theorem scr_truth {b : Nat} {ns : List Int} {sv : D} {t r : Nat} {h : Sto} (L : Lw b ns sv t r h) : truth h sv = some (!ns.isEmpty) := by
  rcases L.scr with rfl | ⟨l, rfl, _, _, e⟩
  · show some (!(ns.map D.int).isEmpty) = _
    cases ns <;> rfl
  · unfold truth
    dsimp only
    rw [e]
    cases ns <;> rfl
theorem scr_len {b : Nat} {ns : List Int} {sv : D} {t r : Nat} {h : Sto} (L : Lw b ns sv t r h) : lenD h sv = some ns.length := by
  rcases L.scr with rfl | ⟨l, rfl, _, _, e⟩
  · show some (ns.map D.int).length = _
    simp
  · unfold lenD
    dsimp only
    rw [e]
    simp
theorem scr_idx {b : Nat} {ns : List Int} {sv : D} {t r : Nat} {h : Sto} (L : Lw b ns sv t r h) {k : Nat} (hk : k < ns.length) : idxD h sv (.int k) = some (.int (ns.getD k 0)) := by
  have go : atI (ns.map D.int) (k : Int) = some (.int (ns.getD k 0)) := by
    unfold atI place
    rw [if_pos (by omega), if_pos (by simp; omega)]
    simp [List.getElem?_map, List.getElem?_eq_getElem hk]
  rcases L.scr with rfl | ⟨l, rfl, _, _, e⟩
  · exact go
  · unfold idxD
    dsimp only
    rw [e]
    exact go
theorem nodup_len : ∀ (N : Nat) (l : List Nat), l.Nodup → (∀ x ∈ l, x < N) → l.length ≤ N
  | 0, l, _, h => by cases l with | nil => simp | cons a l => exact absurd (h a List.mem_cons_self) (Nat.not_lt_zero _)
  | N + 1, l, hn, h => by
    have h1 : (l.filter (fun x => x ≠ N)).length ≤ N := nodup_len N _ (hn.sublist List.filter_sublist) fun x hx => by
      obtain ⟨a, b⟩ := List.mem_filter.mp hx
      have := h x a
      have : x ≠ N := of_decide_eq_true b
      omega
    have h2 : l.length ≤ (l.filter (fun x => x ≠ N)).length + 1 := by
      clear h h1
      induction l with
      | nil => simp
      | cons a l ih =>
        rw [List.nodup_cons] at hn
        by_cases c : a = N
        · subst c
          have : l.filter (fun x => x ≠ a) = l := List.filter_eq_self.mpr fun x hx => decide_eq_true fun e => hn.1 (e ▸ hx)
          rw [List.filter_cons, if_neg (by simp), this, List.length_cons]
          exact Nat.le_refl _
        · have := ih hn.2
          rw [List.filter_cons, if_pos (decide_eq_true c), List.length_cons, List.length_cons]
          omega
    omega
theorem rest_len {kvs : List (Ky × D)} (h : RestOk kvs) : kvs.length ≤ 64 := by
  obtain ⟨h1, h2⟩ := h
  have e : ∃ l : List Nat, kvs.map (·.1) = l.map (fun (k : Nat) => Ky.i (k : Int)) ∧ ∀ x ∈ l, x < 64 := by
    clear h1
    induction kvs with
    | nil => exact ⟨[], rfl, fun x hx => by cases hx⟩
    | cons q kvs ih =>
      obtain ⟨l, a, b⟩ := ih fun q hq => h2 q (List.mem_cons_of_mem _ hq)
      obtain ⟨k, v, hk, rfl⟩ := h2 q List.mem_cons_self
      refine ⟨k :: l, by simp [a], fun x hx => ?_⟩
      rcases List.mem_cons.mp hx with e | e
      · rw [e]; exact hk
      · exact b x e
  obtain ⟨l, a, b⟩ := e
  have hl : l.Nodup := by
    rw [a] at h1
    exact List.Pairwise.of_map _ (fun a b hab e => hab (by rw [e])) h1
  have := nodup_len 64 l hl b
  have e2 := congrArg List.length a
  simp at e2
  omega
theorem rest_get {kvs : List (Ky × D)} (h : RestOk kvs) (k : Ky) {d : D} (e : kget kvs k = some d) : ∃ v : Int, d = .int v := by
  have h2 := h.2
  clear h
  induction kvs with
  | nil => cases e
  | cons q kvs ih =>
    obtain ⟨q1, q2⟩ := q
    unfold kget at e
    by_cases c : q1 = k
    · rw [if_pos c] at e
      obtain ⟨j, v, _, e2⟩ := h2 _ List.mem_cons_self
      cases e
      cases e2
      exact ⟨v, rfl⟩
    · rw [if_neg c] at e
      exact ih e (fun q hq => h2 q (List.mem_cons_of_mem _ hq))
theorem kset_keys (kvs : List (Ky × D)) (k : Ky) (d : D) : (kset kvs k d).map (·.1) = kvs.map (·.1) := by
  induction kvs with
  | nil => rfl
  | cons q kvs ih => obtain ⟨a, b⟩ := q; unfold kset; rw [List.map_cons, ih]; rfl
theorem kset_mem {kvs : List (Ky × D)} {k : Ky} {d : D} {q : Ky × D} (h : q ∈ kset kvs k d) : q ∈ kvs ∨ (q = (k, d)) := by
  induction kvs with
  | nil => cases h
  | cons p kvs ih =>
    obtain ⟨a, b⟩ := p
    unfold kset at h
    rcases List.mem_cons.mp h with e | e
    · by_cases c : a = k
      · rw [if_pos c] at e; rw [c] at e; exact .inr e
      · rw [if_neg c] at e; exact .inl (by rw [e]; exact List.mem_cons_self)
    · rcases ih e with q | q
      · exact .inl (List.mem_cons_of_mem _ q)
      · exact .inr q
theorem khas_mem {kvs : List (Ky × D)} {k : Ky} : khas kvs k = true ↔ k ∈ kvs.map (·.1) := by
  induction kvs with
  | nil => simp [khas]
  | cons p kvs ih =>
    obtain ⟨a, b⟩ := p
    unfold khas
    rw [Bool.or_eq_true, ih, decide_eq_true_eq, List.map_cons, List.mem_cons]
    constructor
    · rintro (e | e)
      · exact .inl e.symm
      · exact .inr e
    · rintro (e | e)
      · exact .inl e.symm
      · exact .inr e
theorem rest_put {kvs : List (Ky × D)} (h : RestOk kvs) {k : Nat} (hk : k < 64) (v : Int) : RestOk (kput kvs (.i k) (.int v)) := by
  obtain ⟨h1, h2⟩ := h
  unfold kput
  by_cases c : khas kvs (.i k) = true
  · rw [if_pos c]
    refine ⟨by rw [kset_keys]; exact h1, fun q hq => ?_⟩
    rcases kset_mem hq with e | e
    · exact h2 q e
    · exact ⟨k, v, hk, e⟩
  · rw [if_neg c]
    have nm : Ky.i (k : Int) ∉ kvs.map (·.1) := fun hm => c (khas_mem.mpr hm)
    refine ⟨?_, fun q hq => ?_⟩
    · rw [List.map_append, List.nodup_append]
      refine ⟨h1, by simp, fun a ha b hb e => ?_⟩
      simp at hb
      rw [e, hb] at ha
      exact nm ha
    · rcases List.mem_append.mp hq with e | e
      · exact h2 q e
      · rw [List.mem_singleton.mp e]; exact ⟨k, v, hk, rfl⟩

theorem bin_add {i j : Int} : binD .add (.int i) (.int j) = ret (.int (i + j)) := rfl
theorem bin_sub {i j : Int} : binD .sub (.int i) (.int j) = ret (.int (i - j)) := rfl
theorem bin_mul {i j : Int} : binD .mul (.int i) (.int j) = if i.natAbs.log2 + j.natAbs.log2 < 1000000 then ret (.int (i * j)) else bad := rfl
theorem bin_fdiv {i j : Int} : binD .fdiv (.int i) (.int j) = if 0 < j ∧ j.natAbs.log2 < 9000 then ret (.int (i / j)) else bad := rfl
theorem bin_mod {i j : Int} : binD .mod (.int i) (.int j) = if 0 < j then ret (.int (i % j)) else bad := rfl
theorem bin_pow {i j : Int} : binD .pow (.int i) (.int j) = if 0 ≤ j ∧ j ≤ 1000000 ∧ i.natAbs < 2 ^ 64 then ret (.int (i ^ j.toNat)) else bad := rfl
theorem log2_le {n k : Nat} (h : n < 2 ^ k) (hk : 0 < k) : n.log2 < k := by
  by_cases h0 : n = 0
  · subst h0; simpa using hk
  · exact (Nat.log2_lt h0).mpr h
/-- log2 of a bounded int -/
theorem log2_int {i : Int} {k : Nat} (h1 : -(2 ^ k : Int) < i) (h2 : i < 2 ^ k) (hk : 0 < k) : i.natAbs.log2 < k := by
  refine log2_le ?_ hk
  have : ((2 ^ k : Nat) : Int) = 2 ^ k := by simp
  omega
theorem draw_spec {p : Pg} {i n : Nat} {sv : D} {ns : List Int} {t r b : Nat} {many : Int} {h : Sto} {o : M D} (hf : p.fns[i]? = some drawFn) (hm : 0 < many) (hm2 : many ≤ 1000000000) (hn : ns.length ≤ 63) (L : Lw (b + 1) ns sv t r h) :
    wp (callS p (n + 1) 0 i [sv, .ref t, .int many] o) h fun d h' => ∃ v : Nat, d = .int v ∧ (v : Int) < many ∧ Lw b ns sv t r h' ∧ Kp t r h h' := by
  obtain ⟨cnt, ht, hc⟩ := L.town
  obtain ⟨kvs, hr, hk⟩ := L.rests
  have ne := L.ne
  have ht1 : (h.set t (townO (cnt + 1) r))[t]? = some (townO (cnt + 1) r) := getElem?_set_self' ht
  have L1 : Lw b ns sv t r (h.set t (townO (cnt + 1) r)) := by
    refine ⟨?_, ne, ⟨cnt + 1, by simpa using ht1, by omega⟩, ⟨kvs, by rw [List.getElem?_set_ne ne]; exact hr, hk⟩⟩
    rcases L.scr with e | ⟨l, a, c, d, e⟩
    · exact .inl e
    · exact .inr ⟨l, a, c, d, by rw [List.getElem?_set_ne (Ne.symm c)]; exact e⟩
  have hr1 : (h.set t (townO (cnt + 1) r))[r]? = some (.dct kvs) := by rw [List.getElem?_set_ne ne]; exact hr
  have kp1 : Kp t r h (h.set t (townO (cnt + 1) r)) := Kp.set1 _
  have l2 : (cnt + 1 : Int).natAbs.log2 < 101 := log2_int (by omega) (by omega) (by omega)
  refine wp_def hf rfl ?_
  have eS : start drawFn.slots [sv, D.ref t, D.int many] = [some sv, some (.ref t), some (.int many), none, none, none] := rfl
  rw [eS]
  simp only [drawFn, wpS_seq, wpS_setI, evE, evA, wp_bnd, wp_ret, wp_ofO, wp_look, getV_cons_zero, getV_cons_succ, Option.some.injEq, exists_eq_left', town_cnt ht, bin_add, town_set ht, seqK, wpS_set, town_cnt ht1, town_rests ht1, scr_truth L1, List.set_cons_zero, List.set_cons_succ]
  have hat : wp (if (!ns.isEmpty) = true then
      bnd (bnd (ofO (some (D.ref t))) fun x => bnd (ret (D.str [99, 111, 117, 110, 116])) fun y => lookS fun h => idxD h x y) fun x =>
        bnd (bnd (bnd (ofO (some sv)) fun d => bnd (ret []) fun ds => ret (d :: ds)) fun ds => bfD BF.len ds) fun y => binD BOp.mod x y
    else ret (D.int 0)) (h.set t (townO (cnt + 1) r)) fun d h1 => ∃ k : Nat, d = .int k ∧ k < 64 ∧ (ns ≠ [] → k < ns.length) ∧ h1 = h.set t (townO (cnt + 1) r) := by
    cases ns with
    | nil =>
      simp only [List.isEmpty_nil, Bool.not_true, Bool.false_eq_true, if_false, wp_ret]
      exact ⟨0, rfl, by omega, fun z => absurd rfl z, trivial⟩
    | cons a ns =>
      have e := scr_len L1
      simp only [List.isEmpty_cons, Bool.not_false, if_true, wp_bnd, wp_ofO, wp_ret, wp_look, Option.some.injEq, exists_eq_left', town_cnt ht1, bfD, e, Option.bind_eq_bind, Option.bind_some, Option.pure_def, Option.map_some, bin_mod, wp_ite_ret]
      have hp : (0 : Int) < ((a :: ns).length : Int) := by rw [List.length_cons]; omega
      refine ⟨hp, ((cnt + 1 : Int) % ((a :: ns).length : Int)).toNat, ?_, ?_, fun _ => ?_, trivial⟩
      · have := Int.emod_nonneg (cnt + 1 : Int) (show ((a :: ns).length : Int) ≠ 0 by omega)
        rw [Int.toNat_of_nonneg this]
      · have := Int.emod_nonneg (cnt + 1 : Int) (show ((a :: ns).length : Int) ≠ 0 by omega)
        have := Int.emod_lt_of_pos (cnt + 1 : Int) hp
        omega
      · have := Int.emod_nonneg (cnt + 1 : Int) (show ((a :: ns).length : Int) ≠ 0 by omega)
        have := Int.emod_lt_of_pos (cnt + 1 : Int) hp
        omega
  refine hat.mono fun d h1 ⟨k, hd, hk1, hk2, hh⟩ => ?_
  subst hh hd
  have hdct : ∀ q : Nat, bmOk (h.set t (townO (cnt + 1) r)) BM.get (.ref r) = true := fun _ => by
    unfold bmOk
    dsimp only
    rw [hr1]
  simp only [town_rests ht1, Option.some.injEq, exists_eq_left', wp_guard, hdct 0, true_and, scr_truth L1]
  have hsc : wp (if (!ns.isEmpty) = true then bnd (ofO (some sv)) fun x => bnd (ofO (some (D.int k))) fun y => lookS fun h => idxD h x y else ret (D.int 0)) (h.set t (townO (cnt + 1) r)) fun d h1 => ∃ v : Int, d = .int v ∧ h1 = h.set t (townO (cnt + 1) r) := by
    cases ns with
    | nil =>
      simp only [List.isEmpty_nil, Bool.not_true, Bool.false_eq_true, if_false, wp_ret]
      exact ⟨0, rfl, trivial⟩
    | cons a ns =>
      simp only [List.isEmpty_cons, Bool.not_false, if_true, wp_bnd, wp_ofO, wp_look, Option.some.injEq, exists_eq_left', scr_idx L1 (hk2 (List.cons_ne_nil _ _))]
      exact ⟨_, rfl, trivial⟩
  refine hsc.mono fun d h1 ⟨v0, hd, hh⟩ => ?_
  subst hd hh
  have hget : wp (bmD BM.get (.ref r) [.int k, .int v0]) (h.set t (townO (cnt + 1) r)) fun d h1 => ∃ v : Int, d = .int v ∧ h1 = h.set t (townO (cnt + 1) r) := by
    unfold bmD
    dsimp only
    unfold wp; rw [wp_look, hr1]
    have ek : keyOf (.int (k : Int)) = some (.i k) := rfl
    rw [ek]
    refine ⟨_, rfl, ?_⟩
    cases e : kget kvs (.i k) with
    | none => exact ⟨v0, rfl, rfl⟩
    | some d =>
      obtain ⟨v, hv⟩ := rest_get hk _ e
      exact ⟨v, hv, rfl⟩
  refine hget.mono fun d h1 ⟨v, hd, hh⟩ => ?_
  subst hd hh
  simp only [wpS_ite, evE, wp_bnd, wp_ofO, wp_ret, wp_look, getV_cons_zero, getV_cons_succ, Option.some.injEq, exists_eq_left', bin_pow, wp_ite_ret, cmpD, Option.map_some, truth]
  refine ⟨by decide, ?_⟩
  by_cases hbig : (10 : Int) ^ (18 : Int).toNat ≤ v
  · rw [if_pos (decide_eq_true hbig)]
    have hset : setID (.ref r) (.int k) (.int (v / many)) (h.set t (townO (cnt + 1) r)) = some ((h.set t (townO (cnt + 1) r)).set r (.dct (kput kvs (.i k) (.int (v / many))))) := by
      unfold setID
      dsimp only
      rw [hr1]
      have ek : keyOf (.int (k : Int)) = some (.i k) := rfl
      rw [ek]
      dsimp only
      rw [if_pos (by have := rest_len hk; unfold lim; omega)]
    have hm3 : many.natAbs.log2 < 9000 := Nat.lt_trans (log2_int (k := 40) (by omega) (by omega) (by omega)) (by omega)
    simp only [wpS_seq, wpS_setI, evE, wp_bnd, wp_ofO, wp_ret, wp_look, getV_cons_zero, getV_cons_succ, Option.some.injEq, exists_eq_left', bin_fdiv, bin_mod, wp_ite_ret, hm, hm3, true_and, and_true, town_rests ht1, hset, seqK, wpS_ret, endK]
    have hmod := Int.emod_nonneg v (show many ≠ 0 by omega)
    have hlt := Int.emod_lt_of_pos v hm
    refine ⟨(v % many).toNat, by rw [Int.toNat_of_nonneg hmod], by omega, ?_, kp1.trans (Kp.set2 _)⟩
    refine ⟨?_, ne, ⟨cnt + 1, by rw [List.getElem?_set_ne (Ne.symm ne)]; simpa using ht1, by omega⟩, ⟨_, getElem?_set_self' hr1, rest_put hk hk1 _⟩⟩
    rcases L1.scr with e | ⟨l, a, c, d, e⟩
    · exact .inl e
    · exact .inr ⟨l, a, c, d, by rw [List.getElem?_set_ne (Ne.symm d)]; exact e⟩
  · rw [if_neg (by simpa using hbig)]
    have l3 : (104729 : Int).natAbs.log2 + (cnt + 1 : Int).natAbs.log2 < 1000000 := by
      have : (104729 : Int).natAbs.log2 = 16 := by decide
      omega
    simp only [wpS_pas, seqK, wpS_seq, wpS_set, wpS_ret, evE, wp_bnd, wp_ofO, wp_ret, wp_look, getV_cons_zero, getV_cons_succ, List.set_cons_zero, List.set_cons_succ, Option.some.injEq, exists_eq_left', town_cnt ht1, bin_add, bin_mul, bin_mod, bin_pow, bin_fdiv, wp_ite_ret, endK]
    have m1 : ∀ x : Int, 0 ≤ x % 4294967291 ∧ x % 4294967291 < 4294967291 := fun x => ⟨Int.emod_nonneg _ (by omega), Int.emod_lt_of_pos _ (by omega)⟩
    have m2 : ∀ x : Int, 0 ≤ x % 4294967279 ∧ x % 4294967279 < 4294967279 := fun x => ⟨Int.emod_nonneg _ (by omega), Int.emod_lt_of_pos _ (by omega)⟩
    obtain ⟨a1, a2⟩ := m1 (v + 104729 * (↑cnt + 1))
    generalize (v + 104729 * (↑cnt + 1)) % 4294967291 = x1 at a1 a2 ⊢
    obtain ⟨b1, b2⟩ := m2 (x1 ^ (5 : Int).toNat)
    generalize (x1 ^ (5 : Int).toNat) % 4294967279 = x2 at b1 b2 ⊢
    refine ⟨l3, by omega, ⟨by omega, by omega, by omega⟩, by omega, ⟨by omega, by decide⟩, ?_, by omega, ⟨by omega, by decide⟩, hm, ?_⟩
    · have : (x2 / 64).natAbs.log2 < 40 := log2_int (by omega) (by omega) (by omega)
      have : (69621 : Int).natAbs.log2 = 16 := by decide
      omega
    · generalize hy : (x2 / 64 * 69621 + x2) % 4294967231 / 8 = y
      have hmod := Int.emod_nonneg y (show many ≠ 0 by omega)
      have hlt := Int.emod_lt_of_pos y hm
      exact ⟨(y % many).toNat, by rw [Int.toNat_of_nonneg hmod], by omega, L1, kp1⟩
end Mi

set_option Elab.async false
set_option linter.all false
set_option autoImplicit false
set_option maxRecDepth 100000
set_option maxHeartbeats 1000000
/-! Pe: the laws' helpers begun, is, class, heard. -/
namespace Mi
section
variable {p : Pg} {i ic n : Nat} {o : M D} {h : Sto}
theorem begun_spec {ns : List Int} {sv : D} (hf : p.fns[i]? = some begunFn) (hs : sv = .fl (ns.map .int) ∨ ∃ l, sv = .ref l ∧ h[l]? = some (.lst (ns.map .int))) :
    wp (callS p (n + 1) 0 i [] o) h fun d h' => ∃ t r, d = .ref t ∧ Lw (2 ^ 99) ns sv t r h' ∧ h.length ≤ t ∧ h.length ≤ r ∧ ∃ m, h' = h ++ m := by
  refine wp_def hf rfl ?_
  simp only [begunFn, wpS_ret, evE, evA, wp_bnd, wp_ret]
  have e1 : (([] : List D).length ≤ 15 ∧ ([] : List Ky).length = ([] : List D).length) := by decide
  rw [if_pos e1, wp_alloc]
  have e2 : [D.int 0, D.ref h.length].length ≤ 15 ∧ [Ky.s [99, 111, 117, 110, 116], Ky.s [114, 101, 115, 116, 115]].length = [D.int 0, D.ref h.length].length := by simp
  rw [if_pos e2, wp_alloc]
  show ∃ t r, _
  refine ⟨h.length + 1, h.length, by simp, ⟨?_, by omega, ⟨0, ?_, by omega⟩, ⟨[], ?_, List.Pairwise.nil, fun q hq => by cases hq⟩⟩, by omega, by omega, ⟨_, by rw [List.append_assoc]⟩⟩
  · rcases hs with e | ⟨l, e, q⟩
    · exact .inl e
    · have := (List.getElem?_eq_some_iff.mp q).1
      refine .inr ⟨l, e, by omega, by omega, ?_⟩
      rw [List.append_assoc, List.getElem?_append_left this]
      exact q
  · rw [List.getElem?_append_right (by simp)]
    simp
    rfl
  · rw [List.append_assoc, List.getElem?_append_right (by simp)]
    simp [dctOf]
theorem is_spec {a b : Bool} (hf : p.fns[i]? = some isFn) : wp (callS p (n + 1) 0 i [.bl a, .bl b] o) h fun d h' => d = .bl (a == b) ∧ h' = h := by
  refine wp_def hf rfl ?_
  have eS : start isFn.slots [D.bl a, D.bl b] = [some (.bl a), some (.bl b)] := rfl
  rw [eS]
  simp only [isFn, wpS_ret, evE, wp_bnd, wp_ofO, wp_look, getV_cons_zero, getV_cons_succ, Option.some.injEq, exists_eq_left', isiD, Option.map_some, truth, if_true, cmpD, eqD, deep, eqv, endK, and_self]
/-- the classes: each below the first one -/
def stdSub (N : Nat) : Nat → Nat → Option Bool := fun i j => if i < N ∧ j < N then some (decide (i = j) || decide (j = 0)) else none
def kinds (c : Nat) : List D := (List.range 14).map fun k => .bl (decide (c = k + 1))
def nmOf : Nat → List Nat
  | 1 => [110, 111, 32, 112, 105, 99, 116, 117, 114, 101]
  | 2 => [110, 111, 32, 114, 111, 111, 109]
  | 3 => [110, 111, 32, 113, 117, 111, 116, 105, 101, 110, 116]
  | 4 => [110, 111, 32, 116, 101, 120, 116]
  | 5 => [110, 111, 32, 102, 105, 103, 117, 114, 101, 115]
  | 6 => [110, 111, 32, 108, 101, 116, 116, 101, 114, 115]
  | 7 => [110, 111, 32, 109, 111, 118, 101]
  | 8 => [110, 111, 32, 112, 97, 116, 104]
  | 9 => [110, 111, 32, 97, 109, 111, 117, 110, 116]
  | 10 => [110, 111, 32, 103, 114, 111, 117, 112]
  | 11 => [98, 97, 100, 32, 115, 105, 122, 101]
  | 12 => [110, 111, 32, 98, 97, 99, 107]
  | 13 => [98, 97, 100, 32, 114, 111, 119]
  | 14 => [99, 108, 111, 115, 101, 100]
  | _ => []
theorem last_get (h : Sto) (o : Obj) : (h ++ [o])[h.length]? = some o := by simp
theorem last_get2 (h : Sto) (o q : Obj) : (h ++ [o] ++ [q])[h.length]? = some o := by simp
theorem add_ref {X : Nat → Sto → Prop} {l k : Nat} {xs ys : List D} {Q : D → Sto → Prop} (e1 : h[l]? = some (.lst xs)) (e2 : h[k]? = some (.lst ys)) (hl : xs.length + ys.length ≤ 1000) (q : Q (.ref h.length) (h ++ [.lst (xs ++ ys)])) : wq X (binD .add (.ref l) (.ref k)) h Q := by
  refine wq_ok (a := .ref h.length) (h' := h ++ [.lst (xs ++ ys)]) ?_ q
  unfold binD
  dsimp only
  rw [e1, e2]
  dsimp only
  rw [if_pos (by unfold lim; omega)]
  rfl
theorem lst_wp {X : Nat → Sto → Prop} {ds : List D} {Q : D → Sto → Prop} (hl : ds.length ≤ 1000) (q : Q (.ref h.length) (h ++ [.lst ds])) : wq X (if ds.length ≤ lim then alloc (.lst ds) else bad) h Q := by
  rw [if_pos (by unfold lim; omega), wp_alloc]
  exact q
theorem class_spec {c : Nat} (hf : p.fns[i]? = some classFn) (hsub : p.sub = stdSub 15) (h1 : 1 ≤ c) (h2 : c ≤ 14) : wp (callS p (n + 1) 0 i [.exc c] o) h fun d h' => d = .str (nmOf c) ∧ ∃ m, h' = h ++ m := by
  refine wp_def hf rfl ?_
  have eS : start classFn.slots [D.exc c] = [some (.exc c), none, none] := rfl
  rw [eS]
  have es : ∀ k, k ≤ 14 → 1 ≤ k → isiD (gOf p n o).sub (.exc c) (.exc k) = some (decide (c = k)) := fun k hk hk1 => by
    show p.sub c k = _
    rw [hsub]
    unfold stdSub
    rw [if_pos (by omega)]
    have : decide (k = 0) = false := decide_eq_false (by omega)
    rw [this, Bool.or_false]
  have ev : isiD (gOf p n o).sub (.exc c) .valueError = some true := by
    show (p.sub c c).map _ = _
    rw [hsub]
    unfold stdSub
    rw [if_pos (by omega)]
    rfl
  simp only [classFn, wpS_seq, wpS_set, evE, evA, wp_bnd, wp_ofO, wp_ret, getV_cons_zero, Option.some.injEq, exists_eq_left', es 1 (by omega) (by omega), es 2 (by omega) (by omega), es 3 (by omega) (by omega), Option.map_some]
  refine lst_wp (by simp) ?_
  simp only [seqK, wpS_seq, wpS_set, evE, evA, wp_bnd, wp_ofO, wp_ret, List.set_cons_zero, List.set_cons_succ, getV_cons_zero, getV_cons_succ, Option.some.injEq, exists_eq_left', es 4 (by omega) (by omega), es 5 (by omega) (by omega), es 6 (by omega) (by omega), Option.map_some]
  refine lst_wp (by simp) ?_
  refine add_ref (last_get2 _ _ _) (last_get _ _) (by simp) ?_
  simp only [seqK, wpS_seq, wpS_set, evE, evA, wp_bnd, wp_ofO, wp_ret, List.set_cons_zero, List.set_cons_succ, getV_cons_zero, getV_cons_succ, Option.some.injEq, exists_eq_left', es 7 (by omega) (by omega), es 8 (by omega) (by omega), es 9 (by omega) (by omega), Option.map_some]
  refine lst_wp (by simp) ?_
  refine add_ref (last_get2 _ _ _) (last_get _ _) (by simp) ?_
  simp only [seqK, wpS_seq, wpS_set, evE, evA, wp_bnd, wp_ofO, wp_ret, List.set_cons_zero, List.set_cons_succ, getV_cons_zero, getV_cons_succ, Option.some.injEq, exists_eq_left', es 10 (by omega) (by omega), es 11 (by omega) (by omega), es 12 (by omega) (by omega), Option.map_some]
  refine lst_wp (by simp) ?_
  refine add_ref (last_get2 _ _ _) (last_get _ _) (by simp) ?_
  simp only [seqK, wpS_seq, wpS_set, evE, evA, wp_bnd, wp_ofO, wp_ret, List.set_cons_zero, List.set_cons_succ, getV_cons_zero, getV_cons_succ, Option.some.injEq, exists_eq_left', es 13 (by omega) (by omega), es 14 (by omega) (by omega), Option.map_some]
  refine lst_wp (by simp) ?_
  refine add_ref (last_get2 _ _ _) (last_get _ _) (by simp) ?_
  simp only [List.cons_append, List.nil_append]
  generalize hH : h ++ [Obj.lst _] ++ _ ++ _ ++ _ ++ _ ++ _ ++ _ ++ _ = H
  have hHm : ∃ m, H = h ++ m := ⟨_, by rw [← hH]; simp only [List.append_assoc]; rfl⟩
  clear hH
  generalize hK : [D.bl (decide (c = 1)), D.bl (decide (c = 2)), D.bl (decide (c = 3)), D.bl (decide (c = 4)), D.bl (decide (c = 5)), D.bl (decide (c = 6)), D.bl (decide (c = 7)), D.bl (decide (c = 8)), D.bl (decide (c = 9)), D.bl (decide (c = 10)), D.bl (decide (c = 11)), D.bl (decide (c = 12)), D.bl (decide (c = 13)), D.bl (decide (c = 14))] = K
  have hk : K.all flat = true ∧ (K.filter fun z => eqv z (.bl true)).length = 1 ∧ firstEq (.bl true) K 0 = some (c - 1) := by
    rw [← hK]
    clear hK hHm es ev eS hf hsub
    have : c = 1 ∨ c = 2 ∨ c = 3 ∨ c = 4 ∨ c = 5 ∨ c = 6 ∨ c = 7 ∨ c = 8 ∨ c = 9 ∨ c = 10 ∨ c = 11 ∨ c = 12 ∨ c = 13 ∨ c = 14 := by omega
    rcases this with rfl | rfl | rfl | rfl | rfl | rfl | rfl | rfl | rfl | rfl | rfl | rfl | rfl | rfl <;> simp [flat, eqv, firstEq]
  clear hK
  obtain ⟨k1, k2, k3⟩ := hk
  have hcnt : ∀ m : Sto, wp (bmD .count (.ref H.length) [.bl true]) (H ++ [.lst K] ++ m) fun d h' => d = .int 1 ∧ h' = H ++ [.lst K] ++ m := fun m => by
    unfold bmD
    dsimp only
    unfold wp; rw [wp_look, List.append_assoc, List.getElem?_append_right (Nat.le_refl _)]
    simp only [Nat.sub_self, List.cons_append, List.nil_append, List.getElem?_cons_zero, k1, flat, Bool.and_self, if_true, k2]
    exact ⟨_, rfl, rfl, trivial⟩
  have hidx : ∀ m : Sto, wp (bmD .index (.ref H.length) [.bl true]) (H ++ [.lst K] ++ m) fun d h' => d = .int ((c - 1 : Nat) : Int) ∧ h' = H ++ [.lst K] ++ m := fun m => by
    unfold bmD
    dsimp only
    unfold wp; rw [wp_look, List.append_assoc, List.getElem?_append_right (Nat.le_refl _)]
    simp only [Nat.sub_self, List.cons_append, List.nil_append, List.getElem?_cons_zero, k1, flat, Bool.and_self, if_true, k3, Option.map_some]
    exact ⟨_, rfl, rfl, trivial⟩
  have hok : ∀ (m : Sto) (b : BM), b = .count ∨ b = .index → bmOk (H ++ [.lst K] ++ m) b (.ref H.length) = true := fun m b hb => by
    unfold bmOk
    dsimp only
    rw [List.append_assoc, List.getElem?_append_right (Nat.le_refl _)]
    rcases hb with rfl | rfl <;> simp
  have e0 : H ++ [Obj.lst K] = H ++ [.lst K] ++ [] := by simp
  rw [e0]
  simp only [wpS_ite, evE, evA, wp_bnd, wp_ofO, wp_ret, getV_cons_zero, getV_cons_succ, Option.some.injEq, exists_eq_left', wp_guard, hok [] .count (.inl rfl), true_and]
  refine (hcnt []).mono fun d h' ⟨e1, e2⟩ => ?_
  subst e1 e2
  simp only [wp_look, cmpD, eqD, deep, eqv, Option.map_some, Option.some.injEq, exists_eq_left', beq_self_eq_true, Bool.not_true, truth, Bool.false_eq_true, if_false, wp_bnd, wp_ofO, getV_cons_zero, ev, wpS_pas, seqK, wpS_seq, wpS_set, evE, evA, wp_ret]
  refine lst_wp (by simp) ?_
  simp only [List.set_cons_zero, List.set_cons_succ, seqK, wpS_ret, evE, evA, wp_bnd, wp_ofO, wp_ret, getV_cons_zero, getV_cons_succ, Option.some.injEq, exists_eq_left']
  refine lst_wp (by simp) ?_
  refine add_ref (last_get2 _ _ _) (last_get _ _) (by simp) ?_
  generalize hN : [D.str [110, 111, 32, 112, 105, 99, 116, 117, 114, 101], D.str [110, 111, 32, 114, 111, 111, 109], D.str [110, 111, 32, 113, 117, 111, 116, 105, 101, 110, 116], D.str [110, 111, 32, 116, 101, 120, 116], D.str [110, 111, 32, 102, 105, 103, 117, 114, 101, 115], D.str [110, 111, 32, 108, 101, 116, 116, 101, 114, 115], D.str [110, 111, 32, 109, 111, 118, 101], D.str [110, 111, 32, 112, 97, 116, 104]] ++ _ = NN
  have hnm : atI NN ((c - 1 : Nat) : Int) = some (.str (nmOf c)) := by
    rw [← hN]
    clear hN hidx hcnt hok k1 k2 k3 hHm es ev eS hf hsub
    have : c = 1 ∨ c = 2 ∨ c = 3 ∨ c = 4 ∨ c = 5 ∨ c = 6 ∨ c = 7 ∨ c = 8 ∨ c = 9 ∨ c = 10 ∨ c = 11 ∨ c = 12 ∨ c = 13 ∨ c = 14 := by omega
    rcases this with rfl | rfl | rfl | rfl | rfl | rfl | rfl | rfl | rfl | rfl | rfl | rfl | rfl | rfl <;> rfl
  have asc : ∀ a b d : Sto, H ++ [Obj.lst K] ++ [] ++ a ++ b ++ d = H ++ [Obj.lst K] ++ (a ++ b ++ d) := fun a b d => by simp only [List.append_assoc, List.nil_append]
  rw [asc]
  simp only [wp_guard, hok _ .index (.inr rfl), true_and]
  refine (hidx _).mono fun d h' ⟨e1, e2⟩ => ?_
  subst e1 e2
  have hl : (H ++ [Obj.lst K] ++ [] ++ [Obj.lst [D.str [110, 111, 32, 112, 105, 99, 116, 117, 114, 101], D.str [110, 111, 32, 114, 111, 111, 109], D.str [110, 111, 32, 113, 117, 111, 116, 105, 101, 110, 116], D.str [110, 111, 32, 116, 101, 120, 116], D.str [110, 111, 32, 102, 105, 103, 117, 114, 101, 115], D.str [110, 111, 32, 108, 101, 116, 116, 101, 114, 115], D.str [110, 111, 32, 109, 111, 118, 101], D.str [110, 111, 32, 112, 97, 116, 104]]]).length = H.length + 2 := by simp
  rw [wp_look]
  refine ⟨_, ?_, rfl, ?_⟩
  · unfold idxD
    dsimp only
    have : ∀ a b d : Obj, (H ++ [Obj.lst K] ++ ([a] ++ [b] ++ [d]))[(H ++ [Obj.lst K] ++ [] ++ [a] ++ [b]).length]? = some d := fun a b d => by simp
    rw [this]
    exact hnm
  · obtain ⟨m, e⟩ := hHm
    rw [e]
    exact ⟨_, by simp only [List.append_assoc]; rfl⟩
theorem heard {X : Nat → Sto → Prop} {Q : D → Sto → Prop} (hf : p.fns[i]? = some (heardFn ic)) (hf2 : p.fns[ic]? = some classFn) (hsub : p.sub = stdSub 15)
    (x : wq (fun c h1 => 1 ≤ c ∧ c ≤ 14 ∧ ∀ m, Q (.tup [.str (nmOf c)]) (h1 ++ m)) o h fun d h1 => Q (.tup [.str [116, 111, 108, 100], d]) h1) : wq X (callS p (n + 2) 0 i [.clo] o) h Q := by
  refine wp_def hf rfl ?_
  have eS : start (heardFn ic).slots [D.clo] = [some .clo, none, none, none] := rfl
  rw [eS]
  have tl : ([D.non, D.non] : List D).length ≤ lim := by unfold lim; simp
  simp only [heardFn, wpS_seq, wpS_setT, evE, evA, wp_bnd, wp_ret, tl, if_true, setTg, setMany, List.set_cons_zero, List.set_cons_succ, Option.some.injEq, exists_eq_left', seqK]
  rw [wpS_try, wpS_set, evE]
  refine wq.mono (m := (gOf p (n + 1) o).orc) (h := h) x (fun d h1 q => ?_) (fun c h1 ⟨hc1, hc2, q⟩ => ?_)
  · have tl2 : ([D.str [116, 111, 108, 100], d] : List D).length ≤ lim := by unfold lim; simp
    simp only [List.set_cons_zero, List.set_cons_succ, seqK, wpS_ret, evE, evA, wp_bnd, wp_ofO, wp_look, wp_ret, getV_cons_zero, getV_cons_succ, Option.some.injEq, exists_eq_left', cmpD, isNone, Option.map_some, truth, if_true, tl2, endK]
    exact q
  · have es : (gOf p (n + 1) o).sub c 0 = some true := by
      show p.sub c 0 = _
      rw [hsub]
      unfold stdSub
      rw [if_pos (by omega)]
      simp
    unfold tryK
    rw [es]
    simp only [List.set_cons_zero, List.set_cons_succ, seqK, wpS_ret, evE, evA, wp_bnd, wp_ofO, wp_look, wp_ret, getV_cons_zero, getV_cons_succ, Option.some.injEq, exists_eq_left', cmpD, isNone, Option.map_some, truth, Bool.false_eq_true, if_false]
    refine (class_spec (n := n) (o := bad) hf2 hsub hc1 hc2).mono fun d h' ⟨e, m, hm⟩ => ?_
    have tl2 : ([d] : List D).length ≤ lim := by unfold lim; simp
    simp only [tl2, if_true, wp_ret, endK]
    rw [e, hm]
    exact q m
end
end Mi

set_option Elab.async false
set_option linter.all false
set_option autoImplicit false
set_option maxRecDepth 100000
set_option maxHeartbeats 1000000
/-! Pf: small rules for runs. -/
namespace Mi
section
variable {h : Sto}
theorem atI_0 {α : Type} (a : α) (l : List α) : atI (a :: l) 0 = some a := by
  unfold atI place
  simp
theorem atI_1 {α : Type} (a b : α) (l : List α) : atI (a :: b :: l) 1 = some b := by
  unfold atI place
  rw [if_pos (by omega), if_pos (by simp; omega)]
  rfl
theorem atI_2 {α : Type} (a b c : α) (l : List α) : atI (a :: b :: c :: l) 2 = some c := by
  unfold atI place
  rw [if_pos (by omega), if_pos (by simp; omega)]
  rfl
theorem idx_t0 (a : D) (l : List D) : idxD h (.tup (a :: l)) (.int 0) = some a := atI_0 a l
theorem idx_t1 (a b : D) (l : List D) : idxD h (.tup (a :: b :: l)) (.int 1) = some b := atI_1 a b l
theorem idx_t2 (a b c : D) (l : List D) : idxD h (.tup (a :: b :: c :: l)) (.int 2) = some c := atI_2 a b c l
theorem cmp_lt (i j : Int) : cmpD h .lt (.int i) (.int j) = some (decide (i < j)) := rfl
theorem cmp_le (i j : Int) : cmpD h .le (.int i) (.int j) = some (decide (i ≤ j)) := rfl
theorem cmp_gt (i j : Int) : cmpD h .gt (.int i) (.int j) = some (decide (j < i)) := rfl
theorem cmp_ge (i j : Int) : cmpD h .ge (.int i) (.int j) = some (decide (j ≤ i)) := rfl
theorem eqD_int (i j : Int) : eqD h (.int i) (.int j) = some (i == j) := by simp [eqD, deep, eqv]
theorem eqD_bl (i j : Bool) : eqD h (.bl i) (.bl j) = some (i == j) := by simp [eqD, deep, eqv]
theorem eqD_str (x y : List Nat) : eqD h (.str x) (.str y) = some (decide (x = y)) := by simp [eqD, deep, eqv]
theorem cmp_eqI (i j : Int) : cmpD h .eq (.int i) (.int j) = some (i == j) := eqD_int (h := h) i j
theorem cmp_neI (i j : Int) : cmpD h .ne (.int i) (.int j) = some (!(i == j)) := by
  show (eqD h (.int i) (.int j)).map _ = _
  rw [eqD_int]
  rfl
theorem cmp_eqD (a b : D) : cmpD h .eq a b = eqD h a b := rfl
theorem cmp_neD (a b : D) : cmpD h .ne a b = (eqD h a b).map (!·) := rfl
theorem eqD_t2 (a b c d : Int) : eqD h (.tup [.int a, .int b]) (.tup [.int c, .int d]) = some (a == c && b == d) := by simp [eqD, deep, eqv, eqvs]
theorem eqD_s1 (x y : List Nat) : eqD h (.tup [.str x]) (.tup [.str y]) = some (decide (x = y)) := by simp [eqD, deep, eqv, eqvs]
theorem eqD_st (x y : List Nat) (a b c d : Int) : eqD h (.tup [.str x, .tup [.int a, .int b]]) (.tup [.str y, .tup [.int c, .int d]]) = some (decide (x = y) && (a == c && b == d)) := by simp [eqD, deep, eqv, eqvs]
theorem truth_bl (b : Bool) : truth h (.bl b) = some b := rfl
theorem truth_int (i : Int) : truth h (.int i) = some (i != 0) := rfl
theorem truth_str (s : List Nat) : truth h (.str s) = some (s.length != 0) := rfl
theorem truth_tup (xs : List D) : truth h (.tup xs) = some (!xs.isEmpty) := rfl
theorem truth_non : truth h .non = some false := rfl
theorem bf_abs (i : Int) : bfD .abs [.int i] = ret (.int (if i < 0 then -i else i)) := rfl
theorem bf_max (i j : Int) : bfD .max [.int i, .int j] = ret (.int (if j > i then j else i)) := rfl
theorem bin_mulS (x : List Nat) (n : Int) : binD .mul (.str x) (.int n) = if x.length * n.toNat ≤ lim ∧ -(2 ^ 62) < n ∧ n < 2 ^ 62 then ret (.str (rep x n.toNat)) else bad := rfl
theorem bin_addS (x y : List Nat) : binD .add (.str x) (.str y) = if x.length + y.length ≤ lim then ret (.str (x ++ y)) else bad := rfl
theorem bf_int (s : List Nat) : bfD .int [.str s] = ofO ((intS s).map .int) := rfl
theorem bf_str (i : Int) : bfD .str [.int i] = if 0 ≤ i ∧ i.natAbs < 10 ^ 500 then ret (.str (strN i.natAbs)) else bad := rfl
theorem textOf_s (s : List Nat) : textOf (.str s) = some s := rfl
theorem bmOk_sw (x : List Nat) : bmOk h .startswith (.str x) = true := rfl
theorem bmOk_sp (x : List Nat) : bmOk h .split (.str x) = true := rfl
theorem bmOk_jn (x : List Nat) : bmOk h .join (.str x) = true := rfl
theorem bmOk_zf (x : List Nat) : bmOk h .zfill (.str x) = true := rfl
theorem bm_sw (x y : List Nat) : bmD .startswith (.str x) [.str y] = ret (.bl (y.isPrefixOf x)) := rfl
theorem bm_zf (x : List Nat) (i : Int) : bmD .zfill (.str x) [.int i] = if -1000000 ≤ i ∧ i ≤ 1000000 then ret (.str (zfillS x i)) else bad := rfl
theorem bm_sp (x : List Nat) (c : Nat) : bmD .split (.str x) [.str [c]] = if x.length + 2 ≤ lim then alloc (.lst ((splitC c x).map .str)) else bad := rfl
theorem wp_join {X : Nat → Sto → Prop} {Q : D → Sto → Prop} {x : List Nat} {l : Nat} {ds : List D} {ss : List (List Nat)} (e : h[l]? = some (.lst ds)) (e2 : strsD ds = some ss) (hl : (ss.map (·.length)).sum + ss.length * x.length ≤ lim) (q : Q (.str (joinS x ss)) h) : wq X (bmD .join (.str x) [.ref l]) h Q := by
  have : bmD .join (.str x) [.ref l] = lookS fun h => match h[l]? with
    | some (.lst ds) => (match strsD ds with
      | some ss => if (ss.map (·.length)).sum + ss.length * x.length ≤ lim then some (.str (joinS x ss)) else none
      | none => none)
    | _ => none := rfl
  rw [this, wp_look]
  refine ⟨_, ?_, q⟩
  rw [e]
  dsimp only
  rw [e2]
  dsimp only
  rw [if_pos hl]
theorem sl_str (s : List Nat) (l u : Option Int) : sliceD (.str s) l u = ret (.str (slice s l u)) := rfl
theorem slice_lo {α : Type} (xs : List α) {i : Int} (h : 0 ≤ i) : slice xs (some i) none = xs.drop i.toNat := by
  have e1 : clampI xs.length 0 (some i) = min i.toNat xs.length := by
    show (if i < 0 then _ else min i.toNat xs.length) = _
    rw [if_neg (by omega)]
  have e2 : clampI xs.length xs.length none = xs.length := rfl
  unfold slice
  rw [e1, e2]
  by_cases c : i.toNat ≤ xs.length
  · rw [show min i.toNat xs.length = i.toNat by omega, List.take_of_length_le (by simp)]
  · rw [show min i.toNat xs.length = xs.length by omega]
    simp
    omega
theorem slice_hi {α : Type} (xs : List α) {i : Int} (h : 0 ≤ i) : slice xs none (some i) = xs.take i.toNat := by
  have e1 : clampI xs.length xs.length (some i) = min i.toNat xs.length := by
    show (if i < 0 then _ else min i.toNat xs.length) = _
    rw [if_neg (by omega)]
  have e2 : clampI xs.length 0 none = 0 := rfl
  unfold slice
  rw [e1, e2, List.drop_zero, Nat.sub_zero]
  by_cases c : i.toNat ≤ xs.length
  · rw [show min i.toNat xs.length = i.toNat by omega]
  · rw [show min i.toNat xs.length = xs.length by omega, List.take_of_length_le (by omega), List.take_of_length_le (by omega)]
theorem tup_ok {ds : List D} : (if ds.length ≤ lim then (ret (.tup ds) : M D) else bad) = if ds.length ≤ lim then ret (.tup ds) else bad := rfl
theorem lim_ok {n : Nat} (h : n ≤ 1000) : n ≤ lim := by unfold lim; omega
theorem gcall {p : Pg} {n f : Nat} {ds : List D} {o o' : M D} : (gOf p n o).calls 0 f ds o' = callS p n 0 f ds o' := rfl
end
/-! ### ten, many times -/
theorem ten_pos (n : Nat) : (0 : Int) < 10 ^ n := Int.pow_pos (by omega)
theorem ten_lt {n k : Nat} (h : n ≤ k) : (10 : Int) ^ n < 2 ^ (4 * k + 1) := by
  have h1 : (10 : Nat) ^ n ≤ 10 ^ k := Nat.pow_le_pow_right (by omega) h
  have h2 : (10 : Nat) ^ k ≤ 16 ^ k := Nat.pow_le_pow_left (by omega) k
  have h3 : (16 : Nat) ^ k = 2 ^ (4 * k) := by rw [Nat.pow_mul]
  have h4 : (2 : Nat) ^ (4 * k) < 2 ^ (4 * k + 1) := Nat.pow_lt_pow_right (by omega) (by omega)
  have h5 : (10 : Nat) ^ n < 2 ^ (4 * k + 1) := by omega
  have h6 : (((10 : Nat) ^ n : Nat) : Int) < ((2 ^ (4 * k + 1) : Nat) : Int) := Int.ofNat_lt.mpr h5
  simpa using h6
theorem ten_log {n k : Nat} (h : n ≤ k) : ((10 : Int) ^ n).natAbs.log2 < 4 * k + 1 := log2_int (by have := ten_pos n; have : (0 : Int) < 2 ^ (4 * k + 1) := Int.pow_pos (by omega); omega) (ten_lt h) (by omega)
end Mi

set_option Elab.async false
set_option linter.all false
set_option autoImplicit false
set_option maxRecDepth 100000
set_option maxHeartbeats 1000000
/-! Pn: small laws of numbers. -/
namespace Mi
theorem abs_n (m : Nat) : (if (m : Int) < 0 then -(m : Int) else m) = m := by rw [if_neg (by omega)]
theorem abs_i (i : Int) : (if i < 0 then -i else i) = (i.natAbs : Int) := by
  by_cases c : i < 0
  · rw [if_pos c]; omega
  · rw [if_neg c]; omega
theorem tdiv_abs (u v : Int) : (if decide (u < 0) = decide (v < 0) then (u.natAbs : Int) / (v.natAbs : Int) else -((u.natAbs : Int) / (v.natAbs : Int))) = u.tdiv v := by
  rcases Int.eq_nat_or_neg u with ⟨m, rfl | rfl⟩ <;> rcases Int.eq_nat_or_neg v with ⟨n, rfl | rfl⟩
  · simp only [Int.natAbs_natCast]
    rw [if_pos (by simp; omega), Int.tdiv_eq_ediv_of_nonneg (by omega)]
  · simp only [Int.natAbs_natCast, Int.natAbs_neg, Int.tdiv_neg]
    rw [Int.tdiv_eq_ediv_of_nonneg (by omega)]
    by_cases c : n = 0
    · subst c; simp
    · rw [if_neg (by simp; omega)]
  · simp only [Int.natAbs_natCast, Int.natAbs_neg, Int.neg_tdiv]
    rw [Int.tdiv_eq_ediv_of_nonneg (by omega)]
    by_cases c : m = 0
    · subst c; simp
    · rw [if_neg (by simp; omega)]
  · simp only [Int.natAbs_natCast, Int.natAbs_neg, Int.neg_tdiv, Int.tdiv_neg, Int.neg_neg]
    rw [Int.tdiv_eq_ediv_of_nonneg (by omega)]
    by_cases c : m = 0
    · subst c; simp
    · by_cases c2 : n = 0
      · subst c2; simp
      · rw [if_pos (by simp; omega)]
theorem tdiv_abs2 (u v : Int) : (if u * v < 0 then 0 - (u.natAbs : Int) / (v.natAbs : Int) else (u.natAbs : Int) / (v.natAbs : Int)) = u.tdiv v := by
  rw [← tdiv_abs]
  by_cases h : u * v < 0
  · rw [if_pos h, if_neg, Int.zero_sub]
    intro e
    by_cases c : u < 0
    · have : v < 0 := by simpa [c] using e.symm
      have := Int.mul_pos_of_neg_of_neg c this
      omega
    · have : ¬ v < 0 := by simpa [c] using e.symm
      have := Int.mul_nonneg (show 0 ≤ u by omega) (show 0 ≤ v by omega)
      omega
  · rw [if_neg h]
    by_cases e : decide (u < 0) = decide (v < 0)
    · rw [if_pos e]
    · rw [if_neg e]
      by_cases c : u < 0
      · have hv : ¬ v < 0 := fun q => e (by simp [c, q])
        by_cases c2 : v = 0
        · subst c2; simp
        · have := Int.mul_neg_of_neg_of_pos c (show 0 < v by omega)
          omega
      · have hv : v < 0 := Decidable.byContradiction fun q => e (by simp [c, q])
        by_cases c2 : u = 0
        · subst c2; simp
        · have := Int.mul_neg_of_pos_of_neg (show 0 < u by omega) hv
          omega
theorem tdiv_scale {u v u' v' k l : Int} (hk : 0 < k) (hl : 0 < l) (h1 : k * u = l * u') (h2 : k * v = l * v') : u.tdiv v = u'.tdiv v' := by
  rw [← Int.mul_tdiv_mul_of_pos u v hk, h1, h2, Int.mul_tdiv_mul_of_pos _ _ hl]
theorem ten_mul {a b c : Nat} (h : a + b = c) : (10 : Int) ^ a * 10 ^ b = 10 ^ c := by rw [← h, Int.pow_add]
theorem natAbs_mul_pos {a k : Int} (hk : 0 < k) : ((a * k).natAbs : Int) = (a.natAbs : Int) * k := by rw [Int.natAbs_mul, Int.natCast_mul, Int.natAbs_of_nonneg (a := k) (by omega)]
/-- log2 of a product -/
theorem log2_mul {u v : Int} {a b : Nat} (h1 : u.natAbs.log2 < a) (h2 : v.natAbs.log2 < b) : (u * v).natAbs.log2 < a + b := by
  by_cases hu : u.natAbs = 0
  · rw [Int.natAbs_mul, hu, Nat.zero_mul]; simp; omega
  · by_cases hv : v.natAbs = 0
    · rw [Int.natAbs_mul, hv, Nat.mul_zero]; simp; omega
    · have e1 := (Nat.log2_lt hu).mp h1
      have e2 := (Nat.log2_lt hv).mp h2
      refine log2_le ?_ (by omega)
      rw [Int.natAbs_mul, Nat.pow_add]
      exact Nat.mul_lt_mul'' e1 e2
theorem log2_ab {u : Int} {k : Nat} (h : u.natAbs < 2 ^ k) (hk : 0 < k) : u.natAbs.log2 < k := log2_le h hk
end Mi

set_option Elab.async false
set_option linter.all false
set_option autoImplicit false
set_option maxRecDepth 100000
set_option maxHeartbeats 1000000
/-! Pt: figures, texts of amounts. -/
namespace Mi
def dig (c : Nat) : Bool := decide (48 ≤ c ∧ c ≤ 57)
theorem valN_app : ∀ (a b : List Nat) (k : Nat), valN (a ++ b) k = valN b (valN a k)
  | [], _, _ => rfl
  | c :: a, b, k => valN_app a b _
theorem figs_spec : ∀ (f n : Nat), n < f → (figs f n).all dig = true ∧ valN (figs f n) 0 = n ∧ figs f n ≠ []
  | 0, n, h => absurd h (Nat.not_lt_zero _)
  | f + 1, n, h => by
    unfold figs
    by_cases c : n < 10
    · rw [if_pos c]
      refine ⟨?_, ?_, by simp⟩
      · simp [dig]; omega
      · simp [valN]
    · rw [if_neg c]
      obtain ⟨h1, h2, h3⟩ := figs_spec f (n / 10) (by omega)
      refine ⟨?_, ?_, by simp⟩
      · rw [List.all_append, h1]
        simp [dig]; omega
      · rw [valN_app, h2]
        simp [valN]
        omega
theorem strN_dig (n : Nat) : (strN n).all dig = true := (figs_spec (n + 1) n (by omega)).1
theorem strN_val (n : Nat) : valN (strN n) 0 = n := (figs_spec (n + 1) n (by omega)).2.1
theorem strN_ne (n : Nat) : strN n ≠ [] := (figs_spec (n + 1) n (by omega)).2.2
theorem figs_len : ∀ (f n k : Nat), n < 10 ^ k → 1 ≤ k → (figs f n).length ≤ k
  | 0, n, k, _, _ => by simp [figs]
  | f + 1, n, k, h, hk => by
    unfold figs
    by_cases c : n < 10
    · rw [if_pos c]; simpa using hk
    · rw [if_neg c]
      obtain ⟨j, rfl⟩ : ∃ j, k = j + 1 := ⟨k - 1, by omega⟩
      have : 1 ≤ j := by
        rcases Nat.eq_zero_or_pos j with e | e
        · subst e; simp at h; omega
        · exact e
      have := figs_len f (n / 10) j (by rw [Nat.pow_succ] at h; omega) this
      simp
      omega
theorem strN_len {n k : Nat} (h : n < 10 ^ k) (hk : 1 ≤ k) : (strN n).length ≤ k := figs_len _ n k h hk
/-- figures with so many 0 ahead that p stand behind a point -/
def fA (n p : Nat) : List Nat := List.replicate (p + 1 - (strN n).length) 48 ++ strN n
theorem fA_dig (n p : Nat) : (fA n p).all dig = true := by
  unfold fA
  rw [List.all_append, strN_dig, Bool.and_true, List.all_eq_true]
  intro x hx
  rw [(List.mem_replicate.mp hx).2]
  rfl
theorem val_zeros : ∀ k, valN (List.replicate k 48) 0 = 0
  | 0 => rfl
  | k + 1 => by rw [List.replicate_succ]; exact val_zeros k
theorem fA_val (n p : Nat) : valN (fA n p) 0 = n := by
  unfold fA
  rw [valN_app, val_zeros, strN_val]
theorem fA_len (n p : Nat) : p + 1 ≤ (fA n p).length := by
  unfold fA
  simp
  omega
theorem fA_le {n p k : Nat} (h : n < 10 ^ k) (hk : 1 ≤ k) : (fA n p).length ≤ p + 1 + k := by
  have := strN_len h hk
  unfold fA
  simp
  omega
theorem zfill_fA (n p : Nat) : zfillS (strN n) ((p : Int) + 1) = fA n p := by
  unfold zfillS fA
  by_cases c : (p : Int) + 1 ≤ (strN n).length
  · rw [if_pos c, show p + 1 - (strN n).length = 0 by omega]
    rfl
  · rw [if_neg c]
    have e : ((p : Int) + 1).toNat = p + 1 := by omega
    rw [e]
    have hd := strN_dig n
    cases q : strN n with
    | nil => exact absurd q (strN_ne n)
    | cons a r =>
      rw [q] at hd
      have h1 : dig a = true := by simp at hd; exact hd.1
      have h2 : 48 ≤ a ∧ a ≤ 57 := of_decide_eq_true h1
      split
      · rename_i e2; cases e2; omega
      · rename_i e2; cases e2; omega
      · rfl
/-- the writing of an amount -/
def textA (u : Int) (p : Nat) : List Nat :=
  (if u < 0 then [45] else []) ++ (if p = 0 then fA u.natAbs p else (fA u.natAbs p).take ((fA u.natAbs p).length - p) ++ [46] ++ (fA u.natAbs p).drop ((fA u.natAbs p).length - p))
theorem textA_len {u : Int} {p k : Nat} (h : u.natAbs < 10 ^ k) (hk : 1 ≤ k) : (textA u p).length ≤ p + k + 3 := by
  have := fA_le (p := p) h hk
  have h2 := fA_len u.natAbs p
  unfold textA
  rw [List.length_append]
  have a : (if u < 0 then [45] else ([] : List Nat)).length ≤ 1 := by split <;> simp
  have b : (if p = 0 then fA u.natAbs p else (fA u.natAbs p).take ((fA u.natAbs p).length - p) ++ [46] ++ (fA u.natAbs p).drop ((fA u.natAbs p).length - p)).length ≤ (fA u.natAbs p).length + 1 := by
    split
    · omega
    · simp; omega
  omega
theorem splitC_one {c : Nat} : ∀ {a : List Nat}, c ∉ a → splitC c a = [a]
  | [], _ => rfl
  | x :: a, h => by
    unfold splitC
    rw [if_neg (fun e => h (by rw [e]; exact List.mem_cons_self)), splitC_one (fun m => h (List.mem_cons_of_mem _ m))]
theorem splitC_app {c : Nat} {b : List Nat} : ∀ {a : List Nat}, c ∉ a → splitC c (a ++ c :: b) = a :: splitC c b
  | [], _ => by
    show splitC c (c :: b) = _
    rw [splitC, if_pos rfl]
  | x :: a, h => by
    show splitC c (x :: (a ++ c :: b)) = _
    rw [splitC, if_neg (fun e => h (by rw [e]; exact List.mem_cons_self)), splitC_app (fun m => h (List.mem_cons_of_mem _ m))]
theorem dig_no {a : List Nat} (h : a.all dig = true) {c : Nat} (hc : dig c = false) : c ∉ a := fun m => by
  have := List.all_eq_true.mp h c m
  rw [hc] at this
  cases this
/-- all signs one after another -/
def gluedS (ps : List (List Nat)) : List Nat := ps.flatten
theorem joinS_nil : ∀ ps : List (List Nat), joinS [] ps = ps.flatten
  | [] => rfl
  | [x] => by simp [joinS]
  | x :: y :: r => by
    have := joinS_nil (y :: r)
    show x ++ [] ++ joinS [] (y :: r) = _
    rw [this]
    simp
def finA (u : Int) (p : Nat) (t : List Nat) : Option (Int × Nat) := if 18 < p ∨ textA u p ≠ t then none else some (u, p)
theorem none_else {α : Type} {c : Prop} [Decidable c] {o : Option α} {z : α} (h : (if c then none else o) = some z) : ¬ c ∧ o = some z := by
  by_cases k : c
  · rw [if_pos k] at h; cases h
  · rw [if_neg k] at h; exact ⟨k, h⟩
/-- what reading makes of a text -/
def readA (t : List Nat) : Option (Int × Nat) :=
  let neg := [45].isPrefixOf t
  let bare := if neg then t.drop 1 else t
  let whole := (splitC 46 bare).headD []
  let rest := (splitC 46 bare).drop 1
  let fig := whole ++ rest.flatten
  if 1 < rest.length ∨ whole = [] ∨ rest = [[]] ∨ fig.all dig = false then none
  else
    let p := (rest.headD []).length
    let u : Int := if neg then -(valN fig 0 : Int) else valN fig 0
    finA u p t
theorem readA_text {t : List Nat} {u : Int} {p : Nat} (h : readA t = some (u, p)) : textA u p = t ∧ p ≤ 18 := by
  unfold readA at h
  obtain ⟨_, h⟩ := none_else h
  unfold finA at h
  obtain ⟨k, h⟩ := none_else h
  cases h
  simp only [not_or, Decidable.not_not, ne_eq, Nat.not_lt] at k
  exact ⟨k.2, k.1⟩
theorem read_textA {u : Int} {p : Nat} (hp : p ≤ 18) : readA (textA u p) = some (u, p) := by
  have hd := fA_dig u.natAbs p
  have hv := fA_val u.natAbs p
  have hl := fA_len u.natAbs p
  obtain ⟨T, hTA⟩ : ∃ T, textA u p = T := ⟨_, rfl⟩
  rw [hTA]
  have hT := hTA
  unfold textA at hT
  generalize fA u.natAbs p = f at hd hv hl hT
  generalize hB : (if p = 0 then f else f.take (f.length - p) ++ [46] ++ f.drop (f.length - p)) = B at hT
  have d1 : (f.take (f.length - p)).all dig = true := List.all_eq_true.mpr fun x hx => List.all_eq_true.mp hd x (List.mem_of_mem_take hx)
  have d2 : (f.drop (f.length - p)).all dig = true := List.all_eq_true.mpr fun x hx => List.all_eq_true.mp hd x (List.mem_of_mem_drop hx)
  have n46 : dig 46 = false := rfl
  have hsp : splitC 46 B = if p = 0 then [f] else [f.take (f.length - p), f.drop (f.length - p)] := by
    rw [← hB]
    by_cases c : p = 0
    · rw [if_pos c, if_pos c, splitC_one (dig_no hd n46)]
    · rw [if_neg c, if_neg c, List.append_assoc, List.singleton_append, splitC_app (dig_no d1 n46), splitC_one (dig_no d2 n46)]
  have hb0 : ∃ a r, B = a :: r ∧ dig a = true := by
    rw [← hB]
    by_cases c : p = 0
    · rw [if_pos c]
      cases f with
      | nil => simp at hl
      | cons a r => exact ⟨a, r, rfl, by simp at hd; exact hd.1⟩
    · rw [if_neg c]
      cases q : f.take (f.length - p) with
      | nil =>
        have := congrArg List.length q
        simp at this
        omega
      | cons a r =>
        rw [q] at d1
        exact ⟨a, _, rfl, by simp at d1; exact d1.1⟩
  obtain ⟨a, r, eB, ha⟩ := hb0
  have hneg : [45].isPrefixOf T = decide (u < 0) := by
    rw [← hT]
    by_cases c : u < 0
    · rw [if_pos c, decide_eq_true c]
      rfl
    · rw [if_neg c, decide_eq_false c, eB]
      have : a ≠ 45 := fun e => by rw [e] at ha; cases ha
      simp [List.isPrefixOf]
      exact fun e => this e.symm
  have hbare : (if decide (u < 0) = true then T.drop 1 else T) = B := by
    rw [← hT]
    by_cases c : u < 0
    · rw [if_pos c, if_pos (decide_eq_true c)]
      rfl
    · rw [if_neg c, if_neg (by simp [c])]
      rfl
  have hu : (if decide (u < 0) = true then -((u.natAbs : Nat) : Int) else ((u.natAbs : Nat) : Int)) = u := by
    by_cases c : u < 0
    · rw [if_pos (decide_eq_true c)]; omega
    · rw [if_neg (by simp [c])]; omega
  unfold readA
  dsimp only
  rw [hneg, hbare, hsp]
  by_cases c : p = 0
  · rw [if_pos c]
    have hf : f ≠ [] := fun e => by rw [e] at hl; simp at hl
    simp only [List.headD_cons, List.drop_succ_cons, List.drop_zero, List.flatten_nil, List.append_nil, List.length_nil, hd]
    rw [if_neg (by simp [hf]), hv, hu]
    have c0 : ([] : List (List Nat)).headD [] = [] := rfl
    rw [c0]
    unfold finA
    rw [if_neg (by subst c; simpa using hTA), c]
    rfl
  · rw [if_neg c]
    have h1 : f.take (f.length - p) ≠ [] := fun e => by
      have := congrArg List.length e
      simp at this
      omega
    have h2 : f.drop (f.length - p) ≠ [] := fun e => by
      have := congrArg List.length e
      simp at this
      omega
    have h3 : (f.drop (f.length - p)).length = p := by simp; omega
    simp only [List.headD_cons, List.drop_succ_cons, List.drop_zero, List.flatten_cons, List.flatten_nil, List.append_nil, List.length_cons, List.length_nil, List.take_append_drop, hd, h3]
    rw [if_neg (by simp [h1, h2]), hv, hu]
    unfold finA
    rw [if_neg (by simp [hTA]; omega)]
end Mi

set_option maxRecDepth 100000
/-! the text of K02 as data: printed by gen.py out of the row; Lean checks it -/
namespace K02
open Mi
def f_amount_text : Fn := ⟨1, 5, (.seq (.setT [1, 2] (.var 0))
    (.seq (.set 3 (.bmt .zfill (.blt .str (.cons (.blt .abs (.cons (.var 1) .nil)) .nil)) (.cons (.bin .add (.var 2) (.cst (.int 1))) .nil)))
    (.seq (.set 4 (.ifx (.cmp .lt (.var 1) (.cst (.int 0))) (.cst (.str [45])) (.cst (.str []))))
    (.seq (.ite (.cmp .eq (.var 2) (.cst (.int 0))) (.ret (.bin .add (.var 4) (.var 3))) .pas)
    (.ret (.fmt (.cons (.var 4) (.cons (.slc (.var 3) .no (.bin .sub (.blt .len (.cons (.var 3) .nil)) (.var 2))) (.cons (.cst (.str [46])) (.cons (.slc (.var 3) (.bin .sub (.blt .len (.cons (.var 3) .nil)) (.var 2)) .no) .nil))))))))))⟩
def f_read_amount : Fn := ⟨1, 9, (.seq (.set 1 (.ifx (.bmt .startswith (.var 0) (.cons (.cst (.str [45])) .nil)) (.slc (.var 0) (.cst (.int 1)) .no) (.var 0)))
    (.seq (.setS [2, 3] 1 (.bmt .split (.var 1) (.cons (.cst (.str [46])) .nil)))
    (.seq (.set 4 (.bmt .join (.cst (.str [])) (.cons (.bin .add (.lst (.cons (.var 2) .nil)) (.var 3)) .nil)))
    (.seq (.ite (.or (.cmp .gt (.blt .len (.cons (.var 3) .nil)) (.cst (.int 1))) (.or (.cmp .eq (.var 2) (.cst (.str []))) (.or (.cmp .eq (.var 3) (.lst (.cons (.cst (.str [])) .nil))) (.not (.blt .all (.cons (.lc (.one 8) .val (.cons (.var 4) .nil) (.cst (.bl true)) (.cmp .inn (.var 8) (.cst (.str [48, 49, 50, 51, 52, 53, 54, 55, 56, 57]))) [7, 8]) .nil)))))) (.rai 4) .pas)
    (.seq (.set 5 (.ifx (.var 3) (.blt .len (.cons (.idx (.var 3) (.cst (.int 0))) .nil)) (.cst (.int 0))))
    (.seq (.set 6 (.tup (.cons (.ifx (.bmt .startswith (.var 0) (.cons (.cst (.str [45])) .nil)) (.neg (.blt .int (.cons (.var 4) .nil))) (.blt .int (.cons (.var 4) .nil))) (.cons (.var 5) .nil))))
    (.seq (.ite (.or (.cmp .gt (.var 5) (.cst (.int 18))) (.cmp .ne (.call 0 (.cons (.var 6) .nil)) (.var 0))) (.rai 4) .pas)
    (.ret (.var 6)))))))))⟩
def f_l_draw : Fn := ⟨3, 6, (.seq (.setI (.var 1) (.cst (.str [99, 111, 117, 110, 116])) (.bin .add (.idx (.var 1) (.cst (.str [99, 111, 117, 110, 116]))) (.cst (.int 1))))
    (.seq (.set 3 (.ifx (.var 0) (.bin .mod (.idx (.var 1) (.cst (.str [99, 111, 117, 110, 116]))) (.blt .len (.cons (.var 0) .nil))) (.cst (.int 0))))
    (.seq (.set 4 (.bmt .get (.idx (.var 1) (.cst (.str [114, 101, 115, 116, 115]))) (.cons (.var 3) (.cons (.ifx (.var 0) (.idx (.var 0) (.var 3)) (.cst (.int 0))) .nil))))
    (.seq (.ite (.cmp .ge (.var 4) (.bin .pow (.cst (.int 10)) (.cst (.int 18)))) (.seq (.setI (.idx (.var 1) (.cst (.str [114, 101, 115, 116, 115]))) (.var 3) (.bin .fdiv (.var 4) (.var 2)))
    (.ret (.bin .mod (.var 4) (.var 2)))) .pas)
    (.seq (.set 5 (.bin .mod (.bin .add (.var 4) (.bin .mul (.cst (.int 104729)) (.idx (.var 1) (.cst (.str [99, 111, 117, 110, 116]))))) (.cst (.int 4294967291))))
    (.seq (.set 5 (.bin .mod (.bin .pow (.var 5) (.cst (.int 5))) (.cst (.int 4294967279))))
    (.ret (.bin .mod (.bin .fdiv (.bin .mod (.bin .add (.bin .mul (.bin .fdiv (.var 5) (.cst (.int 64))) (.cst (.int 69621))) (.var 5)) (.cst (.int 4294967231))) (.cst (.int 8))) (.var 2)))))))))⟩
def f_l_begun : Fn := ⟨0, 0, (.ret (.dct [.s [99, 111, 117, 110, 116], .s [114, 101, 115, 116, 115]] (.cons (.cst (.int 0)) (.cons (.dct [] .nil) .nil))))⟩
def f_l_class : Fn := ⟨1, 3, (.seq (.set 1 (.lst (.cons (.isi (.var 0) (.exc 1)) (.cons (.isi (.var 0) (.exc 2)) (.cons (.isi (.var 0) (.exc 3)) .nil)))))
    (.seq (.set 1 (.bin .add (.var 1) (.lst (.cons (.isi (.var 0) (.exc 4)) (.cons (.isi (.var 0) (.exc 5)) (.cons (.isi (.var 0) (.exc 6)) .nil))))))
    (.seq (.set 1 (.bin .add (.var 1) (.lst (.cons (.isi (.var 0) (.exc 7)) (.cons (.isi (.var 0) (.exc 8)) (.cons (.isi (.var 0) (.exc 9)) .nil))))))
    (.seq (.set 1 (.bin .add (.var 1) (.lst (.cons (.isi (.var 0) (.exc 10)) (.cons (.isi (.var 0) (.exc 11)) (.cons (.isi (.var 0) (.exc 12)) .nil))))))
    (.seq (.set 1 (.bin .add (.var 1) (.lst (.cons (.isi (.var 0) (.exc 13)) (.cons (.isi (.var 0) (.exc 14)) .nil)))))
    (.seq (.ite (.or (.cmp .ne (.bmt .count (.var 1) (.cons (.cst (.bl true)) .nil)) (.cst (.int 1))) (.not (.isi (.var 0) .valueError))) (.ret (.cst (.str [105, 115, 32, 119, 114, 111, 110, 103]))) .pas)
    (.seq (.set 2 (.lst (.cons (.cst (.str [110, 111, 32, 112, 105, 99, 116, 117, 114, 101])) (.cons (.cst (.str [110, 111, 32, 114, 111, 111, 109])) (.cons (.cst (.str [110, 111, 32, 113, 117, 111, 116, 105, 101, 110, 116])) (.cons (.cst (.str [110, 111, 32, 116, 101, 120, 116])) (.cons (.cst (.str [110, 111, 32, 102, 105, 103, 117, 114, 101, 115])) (.cons (.cst (.str [110, 111, 32, 108, 101, 116, 116, 101, 114, 115])) (.cons (.cst (.str [110, 111, 32, 109, 111, 118, 101])) (.cons (.cst (.str [110, 111, 32, 112, 97, 116, 104])) .nil))))))))))
    (.ret (.idx (.bin .add (.var 2) (.lst (.cons (.cst (.str [110, 111, 32, 97, 109, 111, 117, 110, 116])) (.cons (.cst (.str [110, 111, 32, 103, 114, 111, 117, 112])) (.cons (.cst (.str [98, 97, 100, 32, 115, 105, 122, 101])) (.cons (.cst (.str [110, 111, 32, 98, 97, 99, 107])) (.cons (.cst (.str [98, 97, 100, 32, 114, 111, 119])) (.cons (.cst (.str [99, 108, 111, 115, 101, 100])) .nil)))))))) (.bmt .index (.var 1) (.cons (.cst (.bl true)) .nil)))))))))))⟩
def f_l_heard : Fn := ⟨1, 4, (.seq (.setT [1, 2] (.tup (.cons (.cst .non) (.cons (.cst .non) .nil))))
    (.seq (.tryAs (.set 2 .orc) 0 3 1)
    (.ret (.ifx (.cmp .isn (.var 1) (.cst .non)) (.tup (.cons (.cst (.str [116, 111, 108, 100])) (.cons (.var 2) .nil))) (.tup (.cons (.call 4 (.cons (.var 1) .nil)) .nil))))))⟩
def f_l_an_amount : Fn := ⟨4, 7, (.seq (.par [4, 5] (.cons (.cst (.int 0)) (.cons (.call 2 (.cons (.var 0) (.cons (.var 1) (.cons (.bin .add (.var 3) (.cst (.int 1))) .nil)))) .nil)))
    (.seq (.for_ (.one 6) .rng1 (.cons (.call 2 (.cons (.var 0) (.cons (.var 1) (.cons (.bin .add (.var 2) (.cst (.int 1))) .nil)))) .nil) (.set 4 (.bin .add (.bin .mul (.var 4) (.cst (.int 10))) (.call 2 (.cons (.var 0) (.cons (.var 1) (.cons (.cst (.int 10)) .nil)))))))
    (.ret (.tup (.cons (.ifx (.cmp .eq (.call 2 (.cons (.var 0) (.cons (.var 1) (.cons (.cst (.int 2)) .nil)))) (.cst (.int 0))) (.var 4) (.bin .sub (.cst (.int 0)) (.var 4))) (.cons (.var 5) .nil))))))⟩
def f_l_written : Fn := ⟨1, 5, (.seq (.setT [1, 2] (.var 0))
    (.seq (.set 3 (.blt .str (.cons (.blt .abs (.cons (.var 1) .nil)) .nil)))
    (.seq (.set 3 (.bin .add (.bin .mul (.cst (.str [48])) (.bin .sub (.bin .add (.var 2) (.cst (.int 1))) (.blt .len (.cons (.var 3) .nil)))) (.var 3)))
    (.seq (.set 4 (.bin .add (.slc (.var 3) .no (.bin .sub (.blt .len (.cons (.var 3) .nil)) (.var 2))) (.ifx (.cmp .gt (.var 2) (.cst (.int 0))) (.bin .add (.cst (.str [46])) (.slc (.var 3) (.bin .sub (.blt .len (.cons (.var 3) .nil)) (.var 2)) .no)) (.cst (.str [])))))
    (.ret (.ifx (.cmp .lt (.var 1) (.cst (.int 0))) (.bin .add (.cst (.str [45])) (.var 4)) (.var 4)))))))⟩
def f_law : Fn := ⟨1, 12, (.seq (.set 1 (.call 3 .nil))
    (.seq (.for_ (.one 2) .rng1 (.cons (.cst (.int 3)) .nil) (.seq (.set 3 (.call 6 (.cons (.var 0) (.cons (.var 1) (.cons (.cst (.int 9)) (.cons (.cst (.int 9)) .nil))))))
    (.seq (.set 9 (.call 7 (.cons (.var 3) .nil)))
    (.seq (.ite (.or (.cmp .ne (.call 0 (.cons (.var 3) .nil)) (.var 9)) (.cmp .ne (.call 1 (.cons (.var 9) .nil)) (.var 3))) (.ret (.cst (.bl false))) .pas)
    (.for_ (.one 4) .rng1 (.cons (.cst (.int 6)) .nil) (.seq (.par [5, 6] (.cons (.call 2 (.cons (.var 0) (.cons (.var 1) (.cons (.bin .add (.blt .len (.cons (.var 9) .nil)) (.cst (.int 1))) .nil)))) (.cons (.idx (.cst (.str [48, 49, 50, 51, 46, 45, 45, 32, 97])) (.call 2 (.cons (.var 0) (.cons (.var 1) (.cons (.cst (.int 9)) .nil))))) .nil)))
    (.for_ (.one 10) .val (.cons (.lst (.cons (.bin .add (.bin .add (.slc (.var 9) .no (.var 5)) (.var 6)) (.slc (.var 9) (.var 5) .no)) (.cons (.bin .add (.slc (.var 9) .no (.var 5)) (.slc (.var 9) (.bin .add (.var 5) (.cst (.int 1))) .no)) (.cons (.bin .add (.bin .add (.slc (.var 9) .no (.var 5)) (.var 6)) (.slc (.var 9) (.bin .add (.var 5) (.cst (.int 1))) .no)) .nil)))) .nil) (.seq (.set 7 (.hrd 5 .nil (.call 1 (.cons (.var 10) .nil))))
    (.seq (.ite (.and (.cmp .eq (.idx (.var 7) (.cst (.int 0))) (.cst (.str [116, 111, 108, 100]))) (.cmp .ne (.call 7 (.cons (.idx (.var 7) (.cst (.int 1))) .nil)) (.var 10))) (.ret (.cst (.bl false))) .pas)
    (.ite (.cmp .nin (.idx (.var 7) (.cst (.int 0))) (.tup (.cons (.cst (.str [116, 111, 108, 100])) (.cons (.cst (.str [110, 111, 32, 116, 101, 120, 116])) .nil)))) (.ret (.cst (.bl false))) .pas))))))))))
    (.seq (.set 8 (.lst (.cons (.cst (.str [])) (.cons (.cst (.str [45])) (.cons (.cst (.str [46])) (.cons (.cst (.str [49, 46])) (.cons (.cst (.str [46, 53])) (.cons (.cst (.str [45, 46, 53])) (.cons (.cst (.str [48, 49])) (.cons (.cst (.str [48, 48, 46, 49])) (.cons (.cst (.str [45, 48])) (.cons (.cst (.str [45, 48, 46, 48, 48])) (.cons (.cst (.str [43, 49])) (.cons (.cst (.str [49, 46, 50, 46, 51])) (.cons (.cst (.str [49, 32])) (.cons (.cst (.str [32, 49])) (.cons (.cst (.str [45, 45, 49])) (.cons (.cst (.str [49, 45])) (.cons (.cst (.str [49, 44, 53])) .nil)))))))))))))))))))
    (.seq (.set 8 (.bin .add (.var 8) (.lst (.cons (.bin .add (.cst (.str [48, 46])) (.bin .mul (.cst (.str [49])) (.cst (.int 19)))) (.cons (.cst (.str [97])) (.cons (.cst (.str [49, 101, 51])) .nil))))))
    (.seq (.ite (.cmp .ne (.lc (.one 9) .val (.cons (.var 8) .nil) (.cst (.bl true)) (.hrd 5 .nil (.call 1 (.cons (.var 9) .nil))) [11, 9]) (.lc (.one 9) .val (.cons (.var 8) .nil) (.cst (.bl true)) (.tup (.cons (.cst (.str [110, 111, 32, 116, 101, 120, 116])) .nil)) [11, 9])) (.ret (.cst (.bl false))) .pas)
    (.seq (.ite (.cmp .ne (.call 1 (.cons (.bin .add (.cst (.str [48, 46])) (.bin .mul (.cst (.str [49])) (.cst (.int 18)))) .nil)) (.tup (.cons (.blt .int (.cons (.bin .mul (.cst (.str [49])) (.cst (.int 18))) .nil)) (.cons (.cst (.int 18)) .nil)))) (.ret (.cst (.bl false))) .pas)
    (.ret (.and (.cmp .eq (.call 1 (.cons (.cst (.str [45, 48, 46, 53, 48])) .nil)) (.tup (.cons (.neg (.cst (.int 50))) (.cons (.cst (.int 2)) .nil)))) (.and (.cmp .eq (.call 1 (.cons (.cst (.str [48])) .nil)) (.tup (.cons (.cst (.int 0)) (.cons (.cst (.int 0)) .nil)))) (.cmp .eq (.call 0 (.cons (.tup (.cons (.cst (.int 5)) (.cons (.cst (.int 3)) .nil))) .nil)) (.cst (.str [48, 46, 48, 48, 53]))))))))))))⟩
def fns : List Fn := [f_amount_text, f_read_amount, f_l_draw, f_l_begun, f_l_class, f_l_heard, f_l_an_amount, f_l_written, f_law]
abbrev i_amount_text : Nat := 0
abbrev i_read_amount : Nat := 1
abbrev i_l_draw : Nat := 2
abbrev i_l_begun : Nat := 3
abbrev i_l_class : Nat := 4
abbrev i_l_heard : Nat := 5
abbrev i_l_an_amount : Nat := 6
abbrev i_l_written : Nat := 7
abbrev i_law : Nat := 8
def pg : Pg := { fns := fns, sub := fun i j => if i < 15 ∧ j < 15 then some (decide (i = j) || decide (j = 0)) else none, wf := 1000000000 }
end K02

set_option Elab.async false
set_option linter.all false
set_option autoImplicit false
set_option maxRecDepth 100000
set_option maxHeartbeats 1000000
/-! K02L: the law's run. -/
namespace K02
open Mi
section
variable {n : Nat} {o : M D} {h : Sto}
abbrev am (u : Int) (p : Nat) : D := .tup [.int u, .int p]
theorem len_str (s : List Nat) : bfD .len [.str s] = ret (.int s.length) := by
  funext h
  rfl
theorem lim40 {n : Nat} (h : n ≤ 1000000) : n ≤ lim := by unfold lim; omega
theorem ten500 {n : Nat} (h : n < 10 ^ 30) : n < 10 ^ 500 := Nat.lt_of_lt_of_le h (Nat.pow_le_pow_right (by decide) (by decide))
theorem amountText {u : Int} {p : Nat} (hu : u.natAbs < 10 ^ 30) (hp : p ≤ 100) : wp (callS pg (n + 1) 0 i_amount_text [am u p] o) h fun d h' => d = .str (textA u p) ∧ h' = h := by
  refine wp_def (fn := f_amount_text) (by rfl) (by rfl) ?_
  have eS : start f_amount_text.slots [am u p] = [some (am u p), none, none, none, none] := rfl
  rw [eS]
  have hl := fA_le (p := p) hu (by decide)
  have hl2 := fA_len u.natAbs p
  have ab : (u.natAbs : Int).natAbs = u.natAbs := by omega
  simp only [f_amount_text, wpS_seq, wpS_set, wpS_setT, wpS_par, wpS_ret, wpS_ite, wpS_pas, wpS_exp, wpS_setI, seqK, evE, evA, wp_bnd, wp_ofO, wp_ret, wp_look, getV_cons_zero, getV_cons_succ, List.set_cons_zero, List.set_cons_succ, Option.some.injEq, exists_eq_left', Option.map_some, bin_add, bin_sub, bin_mul, bin_fdiv, bin_mod, bin_pow, wp_ite_ret, endK, idx_t0, idx_t1, idx_t2, cmp_lt, cmp_le, cmp_gt, cmp_ge, cmp_eqI, cmp_neI, truth_bl, truth_int, truth_str, truth_tup, truth_non, bf_abs, bf_max, tup_ok, setTg, setMany, List.cons_append, List.nil_append, gcall, wpS_rai, eqD_t2, eqD_s1, eqD_st, eqD_int, eqD_bl, eqD_str, cmp_eqD, cmp_neD, gOf_low, wp_fmt, wp_fnil, wp_fcons, wp_asB, wp_asN, isNo, sl_str, wp_guard, bmOk_sw, bmOk_sp, bmOk_jn, bmOk_zf, bm_sw, bm_zf, bm_sp, wpS_setS, textOf_s, D.int.injEq, wp_alloc, wp_ifb, abs_i, bf_str, ab, decide_eq_true_eq]
  refine ⟨⟨by omega, ten500 hu⟩, ?_⟩
  rw [zfill_fA]
  have sg : (if u < 0 then (D.str [45]) else D.str []) = D.str (if u < 0 then [45] else []) := by split <;> rfl
  have fin : ∀ (s : List Nat), s.length ≤ 1 → s = (if u < 0 then [45] else []) → wpS (seqS (exS (gOf pg n o) (.ite (.cmp .eq (.var 2) (.cst (.int 0))) (.ret (.bin .add (.var 4) (.var 3))) .pas)) (exS (gOf pg n o) (.ret (.fmt (.cons (.var 4) (.cons (.slc (.var 3) .no (.bin .sub (.blt .len (.cons (.var 3) .nil)) (.var 2))) (.cons (.cst (.str [46])) (.cons (.slc (.var 3) (.bin .sub (.blt .len (.cons (.var 3) .nil)) (.var 2)) .no) .nil)))))))) [some (am u p), some (.int u), some (.int p), some (.str (fA u.natAbs p)), some (.str s)] h (endK fun d h' => d = .str (textA u p) ∧ h' = h) := fun s hs es => by
    simp only [wpS_seqS, wpS_seq, wpS_set, wpS_setT, wpS_par, wpS_ret, wpS_ite, wpS_pas, wpS_exp, wpS_setI, seqK, evE, evA, wp_bnd, wp_ofO, wp_ret, wp_look, getV_cons_zero, getV_cons_succ, List.set_cons_zero, List.set_cons_succ, Option.some.injEq, exists_eq_left', Option.map_some, bin_add, bin_sub, bin_mul, bin_fdiv, bin_mod, bin_pow, wp_ite_ret, endK, idx_t0, idx_t1, idx_t2, cmp_lt, cmp_le, cmp_gt, cmp_ge, cmp_eqI, cmp_neI, truth_bl, truth_int, truth_str, truth_tup, truth_non, bf_abs, bf_max, tup_ok, setTg, setMany, List.cons_append, List.nil_append, gcall, wpS_rai, eqD_t2, eqD_s1, eqD_st, eqD_int, eqD_bl, eqD_str, cmp_eqD, cmp_neD, gOf_low, wp_fmt, wp_fnil, wp_fcons, wp_asB, wp_asN, isNo, sl_str, wp_guard, bmOk_sw, bmOk_sp, bmOk_jn, bmOk_zf, bm_sw, bm_zf, bm_sp, wpS_setS, textOf_s, D.int.injEq, wp_alloc, wp_ifb, beq_iff_eq]
    have tx : textA u p = s ++ (if p = 0 then fA u.natAbs p else (fA u.natAbs p).take ((fA u.natAbs p).length - p) ++ [46] ++ (fA u.natAbs p).drop ((fA u.natAbs p).length - p)) := by rw [es]; rfl
    by_cases c : (p : Int) = 0
    · rw [if_pos c]
      simp only [wpS_seq, wpS_set, wpS_setT, wpS_par, wpS_ret, wpS_ite, wpS_pas, wpS_exp, wpS_setI, seqK, evE, evA, wp_bnd, wp_ofO, wp_ret, wp_look, getV_cons_zero, getV_cons_succ, List.set_cons_zero, List.set_cons_succ, Option.some.injEq, exists_eq_left', Option.map_some, bin_add, bin_sub, bin_mul, bin_fdiv, bin_mod, bin_pow, wp_ite_ret, endK, idx_t0, idx_t1, idx_t2, cmp_lt, cmp_le, cmp_gt, cmp_ge, cmp_eqI, cmp_neI, truth_bl, truth_int, truth_str, truth_tup, truth_non, bf_abs, bf_max, tup_ok, setTg, setMany, List.cons_append, List.nil_append, gcall, wpS_rai, eqD_t2, eqD_s1, eqD_st, eqD_int, eqD_bl, eqD_str, cmp_eqD, cmp_neD, gOf_low, wp_fmt, wp_fnil, wp_fcons, wp_asB, wp_asN, isNo, sl_str, wp_guard, bmOk_sw, bmOk_sp, bmOk_jn, bmOk_zf, bm_sw, bm_zf, bm_sp, wpS_setS, textOf_s, D.int.injEq, wp_alloc, wp_ifb, bin_addS]
      rw [tx, if_pos (by omega)]
      exact ⟨lim40 (by omega), rfl, trivial⟩
    · rw [if_neg c]
      simp only [wpS_seq, wpS_set, wpS_setT, wpS_par, wpS_ret, wpS_ite, wpS_pas, wpS_exp, wpS_setI, seqK, evE, evA, wp_bnd, wp_ofO, wp_ret, wp_look, getV_cons_zero, getV_cons_succ, List.set_cons_zero, List.set_cons_succ, Option.some.injEq, exists_eq_left', Option.map_some, bin_add, bin_sub, bin_mul, bin_fdiv, bin_mod, bin_pow, wp_ite_ret, endK, idx_t0, idx_t1, idx_t2, cmp_lt, cmp_le, cmp_gt, cmp_ge, cmp_eqI, cmp_neI, truth_bl, truth_int, truth_str, truth_tup, truth_non, bf_abs, bf_max, tup_ok, setTg, setMany, List.cons_append, List.nil_append, gcall, wpS_rai, eqD_t2, eqD_s1, eqD_st, eqD_int, eqD_bl, eqD_str, cmp_eqD, cmp_neD, gOf_low, wp_fmt, wp_fnil, wp_fcons, wp_asB, wp_asN, isNo, sl_str, wp_guard, bmOk_sw, bmOk_sp, bmOk_jn, bmOk_zf, bm_sw, bm_zf, bm_sp, wpS_setS, textOf_s, D.int.injEq, wp_alloc, wp_ifb, len_str]
      have e1 : ((fA u.natAbs p).length : Int) - (p : Int) = (((fA u.natAbs p).length - p : Nat) : Int) := by omega
      simp only [e1, slice_hi _ (show (0 : Int) ≤ (((fA u.natAbs p).length - p : Nat) : Int) by omega), slice_lo _ (show (0 : Int) ≤ (((fA u.natAbs p).length - p : Nat) : Int) by omega), Int.toNat_natCast]
      refine ⟨lim40 (by simp; omega), lim40 (by simp; omega), lim40 (by simp; omega), lim40 (by simp; omega), ?_, trivial⟩
      rw [tx, if_neg (by omega)]
      simp
  by_cases c : u < 0
  · simp only [c, decide_true, if_true, wpS_seq, wpS_set, wpS_setT, wpS_par, wpS_ret, wpS_ite, wpS_pas, wpS_exp, wpS_setI, seqK, evE, evA, wp_bnd, wp_ofO, wp_ret, wp_look, getV_cons_zero, getV_cons_succ, List.set_cons_zero, List.set_cons_succ, Option.some.injEq, exists_eq_left', Option.map_some, bin_add, bin_sub, bin_mul, bin_fdiv, bin_mod, bin_pow, wp_ite_ret, endK, idx_t0, idx_t1, idx_t2, cmp_lt, cmp_le, cmp_gt, cmp_ge, cmp_eqI, cmp_neI, truth_bl, truth_int, truth_str, truth_tup, truth_non, bf_abs, bf_max, tup_ok, setTg, setMany, List.cons_append, List.nil_append, gcall, wpS_rai, eqD_t2, eqD_s1, eqD_st, eqD_int, eqD_bl, eqD_str, cmp_eqD, cmp_neD, gOf_low, wp_fmt, wp_fnil, wp_fcons, wp_asB, wp_asN, isNo, sl_str, wp_guard, bmOk_sw, bmOk_sp, bmOk_jn, bmOk_zf, bm_sw, bm_zf, bm_sp, wpS_setS, textOf_s, D.int.injEq, wp_alloc, wp_ifb]
    have := fin [45] (by simp) (by rw [if_pos c])
    simp only [wpS_seqS, wpS_seq, wpS_set, wpS_setT, wpS_par, wpS_ret, wpS_ite, wpS_pas, wpS_exp, wpS_setI, seqK, evE, evA, wp_bnd, wp_ofO, wp_ret, wp_look, getV_cons_zero, getV_cons_succ, List.set_cons_zero, List.set_cons_succ, Option.some.injEq, exists_eq_left', Option.map_some, bin_add, bin_sub, bin_mul, bin_fdiv, bin_mod, bin_pow, wp_ite_ret, endK, idx_t0, idx_t1, idx_t2, cmp_lt, cmp_le, cmp_gt, cmp_ge, cmp_eqI, cmp_neI, truth_bl, truth_int, truth_str, truth_tup, truth_non, bf_abs, bf_max, tup_ok, setTg, setMany, List.cons_append, List.nil_append, gcall, wpS_rai, eqD_t2, eqD_s1, eqD_st, eqD_int, eqD_bl, eqD_str, cmp_eqD, cmp_neD, gOf_low, wp_fmt, wp_fnil, wp_fcons, wp_asB, wp_asN, isNo, sl_str, wp_guard, bmOk_sw, bmOk_sp, bmOk_jn, bmOk_zf, bm_sw, bm_zf, bm_sp, wpS_setS, textOf_s, D.int.injEq, wp_alloc, wp_ifb] at this
    exact ⟨trivial, ⟨by omega, by omega⟩, this⟩
  · simp only [c, decide_false, Bool.false_eq_true, if_false, wpS_seq, wpS_set, wpS_setT, wpS_par, wpS_ret, wpS_ite, wpS_pas, wpS_exp, wpS_setI, seqK, evE, evA, wp_bnd, wp_ofO, wp_ret, wp_look, getV_cons_zero, getV_cons_succ, List.set_cons_zero, List.set_cons_succ, Option.some.injEq, exists_eq_left', Option.map_some, bin_add, bin_sub, bin_mul, bin_fdiv, bin_mod, bin_pow, wp_ite_ret, endK, idx_t0, idx_t1, idx_t2, cmp_lt, cmp_le, cmp_gt, cmp_ge, cmp_eqI, cmp_neI, truth_bl, truth_int, truth_str, truth_tup, truth_non, bf_abs, bf_max, tup_ok, setTg, setMany, List.cons_append, List.nil_append, gcall, wpS_rai, eqD_t2, eqD_s1, eqD_st, eqD_int, eqD_bl, eqD_str, cmp_eqD, cmp_neD, gOf_low, wp_fmt, wp_fnil, wp_fcons, wp_asB, wp_asN, isNo, sl_str, wp_guard, bmOk_sw, bmOk_sp, bmOk_jn, bmOk_zf, bm_sw, bm_zf, bm_sp, wpS_setS, textOf_s, D.int.injEq, wp_alloc, wp_ifb]
    have := fin [] (by simp) (by rw [if_neg c])
    simp only [wpS_seqS, wpS_seq, wpS_set, wpS_setT, wpS_par, wpS_ret, wpS_ite, wpS_pas, wpS_exp, wpS_setI, seqK, evE, evA, wp_bnd, wp_ofO, wp_ret, wp_look, getV_cons_zero, getV_cons_succ, List.set_cons_zero, List.set_cons_succ, Option.some.injEq, exists_eq_left', Option.map_some, bin_add, bin_sub, bin_mul, bin_fdiv, bin_mod, bin_pow, wp_ite_ret, endK, idx_t0, idx_t1, idx_t2, cmp_lt, cmp_le, cmp_gt, cmp_ge, cmp_eqI, cmp_neI, truth_bl, truth_int, truth_str, truth_tup, truth_non, bf_abs, bf_max, tup_ok, setTg, setMany, List.cons_append, List.nil_append, gcall, wpS_rai, eqD_t2, eqD_s1, eqD_st, eqD_int, eqD_bl, eqD_str, cmp_eqD, cmp_neD, gOf_low, wp_fmt, wp_fnil, wp_fcons, wp_asB, wp_asN, isNo, sl_str, wp_guard, bmOk_sw, bmOk_sp, bmOk_jn, bmOk_zf, bm_sw, bm_zf, bm_sp, wpS_setS, textOf_s, D.int.injEq, wp_alloc, wp_ifb] at this
    exact ⟨trivial, ⟨by omega, by omega⟩, this⟩
theorem rep1 (a k : Nat) : rep [a] k = List.replicate k a := by
  unfold rep
  induction k with
  | zero => rfl
  | succ k ih => rw [List.replicate_succ, List.flatten_cons, ih]; rfl
theorem written {u : Int} {p : Nat} (hu : u.natAbs < 10 ^ 30) (hp : p ≤ 100) : wp (callS pg (n + 1) 0 i_l_written [am u p] o) h fun d h' => d = .str (textA u p) ∧ h' = h := by
  refine wp_def (fn := f_l_written) (by rfl) (by rfl) ?_
  have eS : start f_l_written.slots [am u p] = [some (am u p), none, none, none, none] := rfl
  rw [eS]
  have hl := fA_le (p := p) hu (by decide)
  have hl2 := fA_len u.natAbs p
  have hl3 := strN_len hu (by decide)
  have ab : (u.natAbs : Int).natAbs = u.natAbs := by omega
  have e0 : rep [48] ((p : Int) + 1 - ((strN u.natAbs).length : Int)).toNat ++ strN u.natAbs = fA u.natAbs p := by
    rw [rep1]
    unfold fA
    rw [show ((p : Int) + 1 - ((strN u.natAbs).length : Int)).toNat = p + 1 - (strN u.natAbs).length by omega]
  have e1 : ((fA u.natAbs p).length : Int) - (p : Int) = (((fA u.natAbs p).length - p : Nat) : Int) := by omega
  have c0 : (0 : Int) ≤ (((fA u.natAbs p).length - p : Nat) : Int) := by omega
  have rl : (rep [48] ((p : Int) + 1 - ((strN u.natAbs).length : Int)).toNat).length + (strN u.natAbs).length = (fA u.natAbs p).length := by rw [← e0, List.length_append]
  simp only [f_l_written, wpS_seq, wpS_set, wpS_setT, wpS_par, wpS_ret, wpS_ite, wpS_pas, wpS_exp, wpS_setI, seqK, evE, evA, wp_bnd, wp_ofO, wp_ret, wp_look, getV_cons_zero, getV_cons_succ, List.set_cons_zero, List.set_cons_succ, Option.some.injEq, exists_eq_left', Option.map_some, bin_add, bin_sub, bin_mul, bin_fdiv, bin_mod, bin_pow, wp_ite_ret, endK, idx_t0, idx_t1, idx_t2, cmp_lt, cmp_le, cmp_gt, cmp_ge, cmp_eqI, cmp_neI, truth_bl, truth_int, truth_str, truth_tup, truth_non, bf_abs, bf_max, tup_ok, setTg, setMany, List.cons_append, List.nil_append, gcall, wpS_rai, eqD_t2, eqD_s1, eqD_st, eqD_int, eqD_bl, eqD_str, cmp_eqD, cmp_neD, gOf_low, wp_fmt, wp_fnil, wp_fcons, wp_asB, wp_asN, isNo, sl_str, wp_guard, bmOk_sw, bmOk_sp, bmOk_jn, bmOk_zf, bm_sw, bm_zf, bm_sp, wpS_setS, textOf_s, D.int.injEq, wp_alloc, wp_ifb, abs_i, bf_str, ab, decide_eq_true_eq, bin_mulS, bin_addS, len_str, rl, e0, e1, slice_hi _ c0, slice_lo _ c0, Int.toNat_natCast]
  refine ⟨⟨by omega, ten500 hu⟩, ⟨lim40 (by simp only [List.length_cons, List.length_nil]; omega), by omega, by omega⟩, lim40 (by omega), ?_⟩
  have tk : ((fA u.natAbs p).take ((fA u.natAbs p).length - p)).length = (fA u.natAbs p).length - p := by simp
  by_cases c : p = 0
  · rw [if_neg (by omega)]
    simp only [wpS_seq, wpS_set, wpS_setT, wpS_par, wpS_ret, wpS_ite, wpS_pas, wpS_exp, wpS_setI, seqK, evE, evA, wp_bnd, wp_ofO, wp_ret, wp_look, getV_cons_zero, getV_cons_succ, List.set_cons_zero, List.set_cons_succ, Option.some.injEq, exists_eq_left', Option.map_some, bin_add, bin_sub, bin_mul, bin_fdiv, bin_mod, bin_pow, wp_ite_ret, endK, idx_t0, idx_t1, idx_t2, cmp_lt, cmp_le, cmp_gt, cmp_ge, cmp_eqI, cmp_neI, truth_bl, truth_int, truth_str, truth_tup, truth_non, bf_abs, bf_max, tup_ok, setTg, setMany, List.cons_append, List.nil_append, gcall, wpS_rai, eqD_t2, eqD_s1, eqD_st, eqD_int, eqD_bl, eqD_str, cmp_eqD, cmp_neD, gOf_low, wp_fmt, wp_fnil, wp_fcons, wp_asB, wp_asN, isNo, sl_str, wp_guard, bmOk_sw, bmOk_sp, bmOk_jn, bmOk_zf, bm_sw, bm_zf, bm_sp, wpS_setS, textOf_s, D.int.injEq, wp_alloc, wp_ifb, bin_addS, decide_eq_true_eq]
    refine ⟨lim40 (by simp; omega), ?_⟩
    have tx : textA u p = (if u < 0 then [45] else []) ++ ((fA u.natAbs p).take ((fA u.natAbs p).length - p) ++ []) := by
      unfold textA
      rw [if_pos c, c]
      simp
    by_cases c2 : u < 0
    · rw [if_pos c2]
      simp only [wpS_seq, wpS_set, wpS_setT, wpS_par, wpS_ret, wpS_ite, wpS_pas, wpS_exp, wpS_setI, seqK, evE, evA, wp_bnd, wp_ofO, wp_ret, wp_look, getV_cons_zero, getV_cons_succ, List.set_cons_zero, List.set_cons_succ, Option.some.injEq, exists_eq_left', Option.map_some, bin_add, bin_sub, bin_mul, bin_fdiv, bin_mod, bin_pow, wp_ite_ret, endK, idx_t0, idx_t1, idx_t2, cmp_lt, cmp_le, cmp_gt, cmp_ge, cmp_eqI, cmp_neI, truth_bl, truth_int, truth_str, truth_tup, truth_non, bf_abs, bf_max, tup_ok, setTg, setMany, List.cons_append, List.nil_append, gcall, wpS_rai, eqD_t2, eqD_s1, eqD_st, eqD_int, eqD_bl, eqD_str, cmp_eqD, cmp_neD, gOf_low, wp_fmt, wp_fnil, wp_fcons, wp_asB, wp_asN, isNo, sl_str, wp_guard, bmOk_sw, bmOk_sp, bmOk_jn, bmOk_zf, bm_sw, bm_zf, bm_sp, wpS_setS, textOf_s, D.int.injEq, wp_alloc, wp_ifb, bin_addS]
      rw [tx, if_pos c2]
      exact ⟨lim40 (by simp; omega), rfl, trivial⟩
    · rw [if_neg c2]
      simp only [wpS_seq, wpS_set, wpS_setT, wpS_par, wpS_ret, wpS_ite, wpS_pas, wpS_exp, wpS_setI, seqK, evE, evA, wp_bnd, wp_ofO, wp_ret, wp_look, getV_cons_zero, getV_cons_succ, List.set_cons_zero, List.set_cons_succ, Option.some.injEq, exists_eq_left', Option.map_some, bin_add, bin_sub, bin_mul, bin_fdiv, bin_mod, bin_pow, wp_ite_ret, endK, idx_t0, idx_t1, idx_t2, cmp_lt, cmp_le, cmp_gt, cmp_ge, cmp_eqI, cmp_neI, truth_bl, truth_int, truth_str, truth_tup, truth_non, bf_abs, bf_max, tup_ok, setTg, setMany, List.cons_append, List.nil_append, gcall, wpS_rai, eqD_t2, eqD_s1, eqD_st, eqD_int, eqD_bl, eqD_str, cmp_eqD, cmp_neD, gOf_low, wp_fmt, wp_fnil, wp_fcons, wp_asB, wp_asN, isNo, sl_str, wp_guard, bmOk_sw, bmOk_sp, bmOk_jn, bmOk_zf, bm_sw, bm_zf, bm_sp, wpS_setS, textOf_s, D.int.injEq, wp_alloc, wp_ifb]
      rw [tx, if_neg c2]
      exact ⟨rfl, trivial⟩
  · rw [if_pos (by omega)]
    simp only [wpS_seq, wpS_set, wpS_setT, wpS_par, wpS_ret, wpS_ite, wpS_pas, wpS_exp, wpS_setI, seqK, evE, evA, wp_bnd, wp_ofO, wp_ret, wp_look, getV_cons_zero, getV_cons_succ, List.set_cons_zero, List.set_cons_succ, Option.some.injEq, exists_eq_left', Option.map_some, bin_add, bin_sub, bin_mul, bin_fdiv, bin_mod, bin_pow, wp_ite_ret, endK, idx_t0, idx_t1, idx_t2, cmp_lt, cmp_le, cmp_gt, cmp_ge, cmp_eqI, cmp_neI, truth_bl, truth_int, truth_str, truth_tup, truth_non, bf_abs, bf_max, tup_ok, setTg, setMany, List.cons_append, List.nil_append, gcall, wpS_rai, eqD_t2, eqD_s1, eqD_st, eqD_int, eqD_bl, eqD_str, cmp_eqD, cmp_neD, gOf_low, wp_fmt, wp_fnil, wp_fcons, wp_asB, wp_asN, isNo, sl_str, wp_guard, bmOk_sw, bmOk_sp, bmOk_jn, bmOk_zf, bm_sw, bm_zf, bm_sp, wpS_setS, textOf_s, D.int.injEq, wp_alloc, wp_ifb, bin_addS, len_str, decide_eq_true_eq, e1, slice_hi _ c0, slice_lo _ c0, Int.toNat_natCast]
    refine ⟨lim40 (by simp; omega), lim40 (by simp; omega), ?_⟩
    have tx : textA u p = (if u < 0 then [45] else []) ++ ((fA u.natAbs p).take ((fA u.natAbs p).length - p) ++ ([46] ++ (fA u.natAbs p).drop ((fA u.natAbs p).length - p))) := by
      unfold textA
      rw [if_neg c]
      simp
    by_cases c2 : u < 0
    · rw [if_pos c2]
      simp only [wpS_seq, wpS_set, wpS_setT, wpS_par, wpS_ret, wpS_ite, wpS_pas, wpS_exp, wpS_setI, seqK, evE, evA, wp_bnd, wp_ofO, wp_ret, wp_look, getV_cons_zero, getV_cons_succ, List.set_cons_zero, List.set_cons_succ, Option.some.injEq, exists_eq_left', Option.map_some, bin_add, bin_sub, bin_mul, bin_fdiv, bin_mod, bin_pow, wp_ite_ret, endK, idx_t0, idx_t1, idx_t2, cmp_lt, cmp_le, cmp_gt, cmp_ge, cmp_eqI, cmp_neI, truth_bl, truth_int, truth_str, truth_tup, truth_non, bf_abs, bf_max, tup_ok, setTg, setMany, List.cons_append, List.nil_append, gcall, wpS_rai, eqD_t2, eqD_s1, eqD_st, eqD_int, eqD_bl, eqD_str, cmp_eqD, cmp_neD, gOf_low, wp_fmt, wp_fnil, wp_fcons, wp_asB, wp_asN, isNo, sl_str, wp_guard, bmOk_sw, bmOk_sp, bmOk_jn, bmOk_zf, bm_sw, bm_zf, bm_sp, wpS_setS, textOf_s, D.int.injEq, wp_alloc, wp_ifb, bin_addS]
      rw [tx, if_pos c2]
      exact ⟨lim40 (by simp; omega), rfl, trivial⟩
    · rw [if_neg c2]
      simp only [wpS_seq, wpS_set, wpS_setT, wpS_par, wpS_ret, wpS_ite, wpS_pas, wpS_exp, wpS_setI, seqK, evE, evA, wp_bnd, wp_ofO, wp_ret, wp_look, getV_cons_zero, getV_cons_succ, List.set_cons_zero, List.set_cons_succ, Option.some.injEq, exists_eq_left', Option.map_some, bin_add, bin_sub, bin_mul, bin_fdiv, bin_mod, bin_pow, wp_ite_ret, endK, idx_t0, idx_t1, idx_t2, cmp_lt, cmp_le, cmp_gt, cmp_ge, cmp_eqI, cmp_neI, truth_bl, truth_int, truth_str, truth_tup, truth_non, bf_abs, bf_max, tup_ok, setTg, setMany, List.cons_append, List.nil_append, gcall, wpS_rai, eqD_t2, eqD_s1, eqD_st, eqD_int, eqD_bl, eqD_str, cmp_eqD, cmp_neD, gOf_low, wp_fmt, wp_fnil, wp_fcons, wp_asB, wp_asN, isNo, sl_str, wp_guard, bmOk_sw, bmOk_sp, bmOk_jn, bmOk_zf, bm_sw, bm_zf, bm_sp, wpS_setS, textOf_s, D.int.injEq, wp_alloc, wp_ifb]
      rw [tx, if_neg c2]
      exact ⟨rfl, trivial⟩
end
end K02

set_option Elab.async false
set_option linter.all false
set_option autoImplicit false
set_option maxRecDepth 100000
set_option maxHeartbeats 1000000
/-! K02M: reading. -/
namespace K02
open Mi
def condE : E := (.or (.cmp .gt (.blt .len (.cons (.var 3) .nil)) (.cst (.int 1))) (.or (.cmp .eq (.var 2) (.cst (.str []))) (.or (.cmp .eq (.var 3) (.lst (.cons (.cst (.str [])) .nil))) (.not (.blt .all (.cons (.lc (.one 8) .val (.cons (.var 4) .nil) (.cst (.bl true)) (.cmp .inn (.var 8) (.cst (.str [48, 49, 50, 51, 52, 53, 54, 55, 56, 57]))) [7, 8]) .nil))))))
def tailS : S := (.seq (.set 5 (.ifx (.var 3) (.blt .len (.cons (.idx (.var 3) (.cst (.int 0))) .nil)) (.cst (.int 0))))
    (.seq (.set 6 (.tup (.cons (.ifx (.bmt .startswith (.var 0) (.cons (.cst (.str [45])) .nil)) (.neg (.blt .int (.cons (.var 4) .nil))) (.blt .int (.cons (.var 4) .nil))) (.cons (.var 5) .nil))))
    (.seq (.ite (.or (.cmp .gt (.var 5) (.cst (.int 18))) (.cmp .ne (.call 0 (.cons (.var 6) .nil)) (.var 0))) (.rai 4) .pas)
    (.ret (.var 6)))))
def readS : S := (.seq (.setS [2, 3] 1 (.bmt .split (.var 1) (.cons (.cst (.str [46])) .nil)))
    (.seq (.set 4 (.bmt .join (.cst (.str [])) (.cons (.bin .add (.lst (.cons (.var 2) .nil)) (.var 3)) .nil)))
    (.seq (.ite condE (.rai 4) .pas)
    tailS)))
theorem read_body : f_read_amount.body = .seq (.set 1 (.ifx (.bmt .startswith (.var 0) (.cons (.cst (.str [45])) .nil)) (.slc (.var 0) (.cst (.int 1)) .no) (.var 0))) readS := rfl
section
variable {n : Nat} {o : M D} {h : Sto} {X : Nat → Sto → Prop}
theorem len_ref {l : Nat} {ds : List D} {Q : D → Sto → Prop} (e : h[l]? = some (.lst ds)) : wq X (bfD .len [.ref l]) h Q ↔ Q (.int ds.length) h := by
  have e2 : lenD h (.ref l) = some ds.length := by
    unfold lenD
    dsimp only
    rw [e]
  have e3 : bfD .len [.ref l] h = .ok (.int ds.length) h := by
    unfold bfD lookS
    simp only [e2]
    rfl
  exact wp_eq e3
theorem seq_last (ds : List D) : seqOf (h ++ [.lst ds]) (.ref h.length) = some ds := by
  unfold seqOf
  simp
theorem all_ref {l : Nat} {bs : List Bool} {Q : D → Sto → Prop} (e : h[l]? = some (.lst (bs.map .bl))) : wq X (bfD .all [.ref l]) h Q ↔ Q (.bl (bs.all id)) h := by
  have b : ∀ bs : List Bool, boolsD (bs.map .bl) = some bs := by
    intro bs
    induction bs with
    | nil => rfl
    | cons a r ih =>
      show (boolsD (r.map .bl)).map (a :: ·) = _
      rw [ih]
      rfl
  have : bfD .all [.ref l] = lookS fun h => match h[l]? with
    | some (.lst ds) => (boolsD ds).map fun bs => .bl (bs.all id)
    | _ => none := rfl
  rw [this, wp_look]
  rw [e]
  dsimp only
  rw [b]
  constructor
  · rintro ⟨a, e3, q⟩
    cases e3
    exact q
  · exact fun q => ⟨_, rfl, q⟩
theorem strs_map : ∀ ss : List (List Nat), strsD (ss.map .str) = some ss
  | [] => rfl
  | s :: ss => by
    show (strsD (ss.map .str)).map (s :: ·) = _
    rw [strs_map ss]
    rfl
theorem deep_strs (k : Nat) : ∀ ss : List (List Nat), (ss.map D.str).mapM (deep h (k + 1)) = some (ss.map D.str)
  | [] => rfl
  | s :: ss => by
    rw [List.map_cons, List.mapM_cons, deep_strs k ss]
    rfl
theorem eqvs_strs : ∀ a b : List (List Nat), eqvs (a.map D.str) (b.map D.str) = decide (a = b)
  | [], [] => by simp [eqvs]
  | [], _ :: _ => by simp [eqvs]
  | _ :: _, [] => by simp [eqvs]
  | a :: as, b :: bs => by
    have := eqvs_strs as bs
    simp [eqvs, eqv, this]
theorem eq_refs {l k : Nat} {a b : List (List Nat)} (e1 : h[l]? = some (.lst (a.map .str))) (e2 : h[k]? = some (.lst (b.map .str))) : eqD h (.ref l) (.ref k) = some (decide (a = b)) := by
  have d : ∀ {l : Nat} {a : List (List Nat)}, h[l]? = some (.lst (a.map .str)) → deep h 60 (.ref l) = some (.lst (a.map .str)) := fun {l a} e => by
    show (match h[l]? with
      | some (.lst ds) => (ds.mapM (deep h 59)).map D.lst
      | _ => none) = _
    rw [e]
    show ((a.map D.str).mapM (deep h 59)).map D.lst = _
    rw [deep_strs 58]
    rfl
  unfold eqD
  rw [d e1, d e2]
  show some (eqv (.lst _) (.lst _)) = _
  show some (eqvs _ _) = _
  rw [eqvs_strs]
def digits : List Nat := [48, 49, 50, 51, 52, 53, 54, 55, 56, 57]
theorem dig_mem (c : Nat) : decide (c ∈ [48, 49, 50, 51, 52, 53, 54, 55, 56, 57]) = dig c := by
  unfold dig
  rw [Bool.eq_iff_iff, decide_eq_true_eq, decide_eq_true_eq]
  constructor
  · intro h
    simp at h
    omega
  · intro h
    simp
    omega
/-- the test of all signs -/
theorem allDig {a0 a1 a2 a3 a5 a6 : Option D} {fig : List Nat} (hl : fig.length ≤ 1000) : wp (evE (gOf pg n o) (.lc (.one 8) .val (.cons (.var 4) .nil) (.cst (.bl true)) (.cmp .inn (.var 8) (.cst (.str [48, 49, 50, 51, 52, 53, 54, 55, 56, 57]))) [7, 8]) [a0, a1, a2, a3, some (.str fig), a5, a6, none, none]) h fun d h' => d = .ref h.length ∧ h' = h ++ [.lst ((fig.map dig).map .bl)] := by
  unfold wp
  rw [wp_lc]
  simp only [wpS_seq, wpS_set, wpS_setT, wpS_par, wpS_ret, wpS_ite, wpS_pas, wpS_exp, wpS_setI, seqK, evE, evA, wp_bnd, wp_ofO, wp_ret, wp_look, getV_cons_zero, getV_cons_succ, List.set_cons_zero, List.set_cons_succ, Option.some.injEq, exists_eq_left', Option.map_some, bin_add, bin_sub, bin_mul, bin_fdiv, bin_mod, bin_pow, wp_ite_ret, endK, idx_t0, idx_t1, idx_t2, cmp_lt, cmp_le, cmp_gt, cmp_ge, cmp_eqI, cmp_neI, truth_bl, truth_int, truth_str, truth_tup, truth_non, bf_abs, bf_max, tup_ok, setTg, setMany, List.cons_append, List.nil_append, gcall, wpS_rai, eqD_t2, eqD_s1, eqD_st, eqD_int, eqD_bl, eqD_str, cmp_eqD, cmp_neD, gOf_low, wp_fmt, wp_fnil, wp_fcons, wp_asB, wp_asN, isNo, sl_str, wp_guard, bmOk_sw, bmOk_sp, bmOk_jn, bmOk_zf, bm_sw, bm_zf, bm_sp, wpS_setS, textOf_s, D.int.injEq, wp_alloc, wp_ifb]
  refine ⟨_, rfl, ?_⟩
  refine wp_lcL (N := fig.length) (fun i acc h' => acc = ((fig.take i).map dig).map .bl ∧ h' = h) ⟨by simp, rfl⟩ (by show fig.length < 1000000000; omega) (fun i acc h' hi ⟨e1, e2⟩ => ?_) (fun acc h' ⟨e1, e2⟩ => ?_)
  · subst e1 e2
    refine ⟨.str [fig[i]], [a0, a1, a2, a3, some (.str fig), a5, a6, none, some (.str [fig[i]])], by simp [hi], rfl, ?_⟩
    have ei : inD h' (.str [fig[i]]) (.str [48, 49, 50, 51, 52, 53, 54, 55, 56, 57]) = some (dig fig[i]) := by
      show some (decide (fig[i] ∈ _)) = _
      rw [dig_mem]
    simp only [wp_evT, wpS_seq, wpS_set, wpS_setT, wpS_par, wpS_ret, wpS_ite, wpS_pas, wpS_exp, wpS_setI, seqK, evE, evA, wp_bnd, wp_ofO, wp_ret, wp_look, getV_cons_zero, getV_cons_succ, List.set_cons_zero, List.set_cons_succ, Option.some.injEq, exists_eq_left', Option.map_some, bin_add, bin_sub, bin_mul, bin_fdiv, bin_mod, bin_pow, wp_ite_ret, endK, idx_t0, idx_t1, idx_t2, cmp_lt, cmp_le, cmp_gt, cmp_ge, cmp_eqI, cmp_neI, truth_bl, truth_int, truth_str, truth_tup, truth_non, bf_abs, bf_max, tup_ok, setTg, setMany, List.cons_append, List.nil_append, gcall, wpS_rai, eqD_t2, eqD_s1, eqD_st, eqD_int, eqD_bl, eqD_str, cmp_eqD, cmp_neD, gOf_low, wp_fmt, wp_fnil, wp_fcons, wp_asB, wp_asN, isNo, sl_str, wp_guard, bmOk_sw, bmOk_sp, bmOk_jn, bmOk_zf, bm_sw, bm_zf, bm_sp, wpS_setS, textOf_s, D.int.injEq, wp_alloc, wp_ifb, if_true, cmpD, ei]
    refine ⟨by simp only [List.length_map, List.length_take]; exact Nat.lt_of_lt_of_le (show _ < 1001 by omega) (by unfold lim; omega), ?_, trivial⟩
    rw [List.take_succ_eq_append_getElem hi, List.map_append, List.map_append]
    rfl
  · subst e1 e2
    refine ⟨by simp, ?_⟩
    rw [List.take_length]
    exact ⟨rfl, rfl⟩
theorem val_lt : ∀ (s : List Nat) (k : Nat), s.all dig = true → valN s k < (k + 1) * 10 ^ s.length
  | [], k, _ => by simp [valN]
  | c :: r, k, h => by
    simp only [List.all_cons, Bool.and_eq_true] at h
    have h1 : 48 ≤ c ∧ c ≤ 57 := of_decide_eq_true h.1
    have ih := val_lt r (k * 10 + (c - 48)) h.2
    show valN r (k * 10 + (c - 48)) < _
    refine Nat.lt_of_lt_of_le ih ?_
    rw [List.length_cons, Nat.pow_succ, Nat.mul_comm (10 ^ r.length) 10, ← Nat.mul_assoc]
    exact Nat.mul_le_mul_right _ (by omega)
theorem all_id (fig : List Nat) : (fig.map dig).all id = fig.all dig := by
  induction fig with
  | nil => rfl
  | cons a r ih => rw [List.map_cons, List.all_cons, List.all_cons, ih]; rfl
/-- the refusal's test -/
theorem cond {a0 a1 a5 a6 : Option D} {w : List Nat} {rs : List (List Nat)} {l : Nat} (e : h[l]? = some (.lst (rs.map .str))) (hl : (w ++ rs.flatten).length ≤ 1000) :
    wp (evE (gOf pg n o) condE [a0, a1, some (.str w), some (.ref l), some (.str (w ++ rs.flatten)), a5, a6, none, none]) h fun d h' => d = .bl (decide (1 < rs.length ∨ w = [] ∨ rs = [[]] ∨ (w ++ rs.flatten).all dig = false)) ∧ ∃ m, h' = h ++ m := by
  have lt : l < h.length := (List.getElem?_eq_some_iff.mp e).1
  simp only [condE, wpS_seq, wpS_set, wpS_setT, wpS_par, wpS_ret, wpS_ite, wpS_pas, wpS_exp, wpS_setI, seqK, evE, evA, wp_bnd, wp_ofO, wp_ret, wp_look, getV_cons_zero, getV_cons_succ, List.set_cons_zero, List.set_cons_succ, Option.some.injEq, exists_eq_left', Option.map_some, bin_add, bin_sub, bin_mul, bin_fdiv, bin_mod, bin_pow, wp_ite_ret, endK, idx_t0, idx_t1, idx_t2, cmp_lt, cmp_le, cmp_gt, cmp_ge, cmp_eqI, cmp_neI, truth_bl, truth_int, truth_str, truth_tup, truth_non, bf_abs, bf_max, tup_ok, setTg, setMany, List.cons_append, List.nil_append, gcall, wpS_rai, eqD_t2, eqD_s1, eqD_st, eqD_int, eqD_bl, eqD_str, cmp_eqD, cmp_neD, gOf_low, wp_fmt, wp_fnil, wp_fcons, wp_asB, wp_asN, isNo, sl_str, wp_guard, bmOk_sw, bmOk_sp, bmOk_jn, bmOk_zf, bm_sw, bm_zf, bm_sp, wpS_setS, textOf_s, D.int.injEq, wp_alloc, wp_ifb]
  refine (len_ref e).mpr ?_
  simp only [wpS_seq, wpS_set, wpS_setT, wpS_par, wpS_ret, wpS_ite, wpS_pas, wpS_exp, wpS_setI, seqK, evE, evA, wp_bnd, wp_ofO, wp_ret, wp_look, getV_cons_zero, getV_cons_succ, List.set_cons_zero, List.set_cons_succ, Option.some.injEq, exists_eq_left', Option.map_some, bin_add, bin_sub, bin_mul, bin_fdiv, bin_mod, bin_pow, wp_ite_ret, endK, idx_t0, idx_t1, idx_t2, cmp_lt, cmp_le, cmp_gt, cmp_ge, cmp_eqI, cmp_neI, truth_bl, truth_int, truth_str, truth_tup, truth_non, bf_abs, bf_max, tup_ok, setTg, setMany, List.cons_append, List.nil_append, gcall, wpS_rai, eqD_t2, eqD_s1, eqD_st, eqD_int, eqD_bl, eqD_str, cmp_eqD, cmp_neD, gOf_low, wp_fmt, wp_fnil, wp_fcons, wp_asB, wp_asN, isNo, sl_str, wp_guard, bmOk_sw, bmOk_sp, bmOk_jn, bmOk_zf, bm_sw, bm_zf, bm_sp, wpS_setS, textOf_s, D.int.injEq, wp_alloc, wp_ifb, List.length_map, decide_eq_true_eq]
  by_cases c1 : 1 < rs.length
  · rw [if_pos (by omega)]
    simp only [wpS_seq, wpS_set, wpS_setT, wpS_par, wpS_ret, wpS_ite, wpS_pas, wpS_exp, wpS_setI, seqK, evE, evA, wp_bnd, wp_ofO, wp_ret, wp_look, getV_cons_zero, getV_cons_succ, List.set_cons_zero, List.set_cons_succ, Option.some.injEq, exists_eq_left', Option.map_some, bin_add, bin_sub, bin_mul, bin_fdiv, bin_mod, bin_pow, wp_ite_ret, endK, idx_t0, idx_t1, idx_t2, cmp_lt, cmp_le, cmp_gt, cmp_ge, cmp_eqI, cmp_neI, truth_bl, truth_int, truth_str, truth_tup, truth_non, bf_abs, bf_max, tup_ok, setTg, setMany, List.cons_append, List.nil_append, gcall, wpS_rai, eqD_t2, eqD_s1, eqD_st, eqD_int, eqD_bl, eqD_str, cmp_eqD, cmp_neD, gOf_low, wp_fmt, wp_fnil, wp_fcons, wp_asB, wp_asN, isNo, sl_str, wp_guard, bmOk_sw, bmOk_sp, bmOk_jn, bmOk_zf, bm_sw, bm_zf, bm_sp, wpS_setS, textOf_s, D.int.injEq, wp_alloc, wp_ifb, c1, true_or, decide_true]
    refine ⟨?_, [], by simp⟩
    rw [decide_eq_true (by omega)]
  · rw [if_neg (by omega)]
    simp only [wpS_seq, wpS_set, wpS_setT, wpS_par, wpS_ret, wpS_ite, wpS_pas, wpS_exp, wpS_setI, seqK, evE, evA, wp_bnd, wp_ofO, wp_ret, wp_look, getV_cons_zero, getV_cons_succ, List.set_cons_zero, List.set_cons_succ, Option.some.injEq, exists_eq_left', Option.map_some, bin_add, bin_sub, bin_mul, bin_fdiv, bin_mod, bin_pow, wp_ite_ret, endK, idx_t0, idx_t1, idx_t2, cmp_lt, cmp_le, cmp_gt, cmp_ge, cmp_eqI, cmp_neI, truth_bl, truth_int, truth_str, truth_tup, truth_non, bf_abs, bf_max, tup_ok, setTg, setMany, List.cons_append, List.nil_append, gcall, wpS_rai, eqD_t2, eqD_s1, eqD_st, eqD_int, eqD_bl, eqD_str, cmp_eqD, cmp_neD, gOf_low, wp_fmt, wp_fnil, wp_fcons, wp_asB, wp_asN, isNo, sl_str, wp_guard, bmOk_sw, bmOk_sp, bmOk_jn, bmOk_zf, bm_sw, bm_zf, bm_sp, wpS_setS, textOf_s, D.int.injEq, wp_alloc, wp_ifb, decide_eq_true_eq]
    by_cases c2 : w = []
    · rw [if_pos c2]
      simp only [wpS_seq, wpS_set, wpS_setT, wpS_par, wpS_ret, wpS_ite, wpS_pas, wpS_exp, wpS_setI, seqK, evE, evA, wp_bnd, wp_ofO, wp_ret, wp_look, getV_cons_zero, getV_cons_succ, List.set_cons_zero, List.set_cons_succ, Option.some.injEq, exists_eq_left', Option.map_some, bin_add, bin_sub, bin_mul, bin_fdiv, bin_mod, bin_pow, wp_ite_ret, endK, idx_t0, idx_t1, idx_t2, cmp_lt, cmp_le, cmp_gt, cmp_ge, cmp_eqI, cmp_neI, truth_bl, truth_int, truth_str, truth_tup, truth_non, bf_abs, bf_max, tup_ok, setTg, setMany, List.cons_append, List.nil_append, gcall, wpS_rai, eqD_t2, eqD_s1, eqD_st, eqD_int, eqD_bl, eqD_str, cmp_eqD, cmp_neD, gOf_low, wp_fmt, wp_fnil, wp_fcons, wp_asB, wp_asN, isNo, sl_str, wp_guard, bmOk_sw, bmOk_sp, bmOk_jn, bmOk_zf, bm_sw, bm_zf, bm_sp, wpS_setS, textOf_s, D.int.injEq, wp_alloc, wp_ifb, c2, true_or, or_true, decide_true]
      exact ⟨trivial, [], by simp⟩
    · rw [if_neg c2]
      simp only [wpS_seq, wpS_set, wpS_setT, wpS_par, wpS_ret, wpS_ite, wpS_pas, wpS_exp, wpS_setI, seqK, evE, evA, wp_bnd, wp_ofO, wp_ret, wp_look, getV_cons_zero, getV_cons_succ, List.set_cons_zero, List.set_cons_succ, Option.some.injEq, exists_eq_left', Option.map_some, bin_add, bin_sub, bin_mul, bin_fdiv, bin_mod, bin_pow, wp_ite_ret, endK, idx_t0, idx_t1, idx_t2, cmp_lt, cmp_le, cmp_gt, cmp_ge, cmp_eqI, cmp_neI, truth_bl, truth_int, truth_str, truth_tup, truth_non, bf_abs, bf_max, tup_ok, setTg, setMany, List.cons_append, List.nil_append, gcall, wpS_rai, eqD_t2, eqD_s1, eqD_st, eqD_int, eqD_bl, eqD_str, cmp_eqD, cmp_neD, gOf_low, wp_fmt, wp_fnil, wp_fcons, wp_asB, wp_asN, isNo, sl_str, wp_guard, bmOk_sw, bmOk_sp, bmOk_jn, bmOk_zf, bm_sw, bm_zf, bm_sp, wpS_setS, textOf_s, D.int.injEq, wp_alloc, wp_ifb]
      have e1 : (h ++ [Obj.lst [D.str []]])[l]? = some (.lst (rs.map .str)) := by rw [List.getElem?_append_left lt]; exact e
      have e2 : (h ++ [Obj.lst [D.str []]])[h.length]? = some (.lst ([[]].map .str)) := by simp
      refine ⟨lim_ok (by simp), ?_⟩
      simp only [wpS_seq, wpS_set, wpS_setT, wpS_par, wpS_ret, wpS_ite, wpS_pas, wpS_exp, wpS_setI, seqK, evE, evA, wp_bnd, wp_ofO, wp_ret, wp_look, getV_cons_zero, getV_cons_succ, List.set_cons_zero, List.set_cons_succ, Option.some.injEq, exists_eq_left', Option.map_some, bin_add, bin_sub, bin_mul, bin_fdiv, bin_mod, bin_pow, wp_ite_ret, endK, idx_t0, idx_t1, idx_t2, cmp_lt, cmp_le, cmp_gt, cmp_ge, cmp_eqI, cmp_neI, truth_bl, truth_int, truth_str, truth_tup, truth_non, bf_abs, bf_max, tup_ok, setTg, setMany, List.cons_append, List.nil_append, gcall, wpS_rai, eqD_t2, eqD_s1, eqD_st, eqD_int, eqD_bl, eqD_str, cmp_eqD, cmp_neD, gOf_low, wp_fmt, wp_fnil, wp_fcons, wp_asB, wp_asN, isNo, sl_str, wp_guard, bmOk_sw, bmOk_sp, bmOk_jn, bmOk_zf, bm_sw, bm_zf, bm_sp, wpS_setS, textOf_s, D.int.injEq, wp_alloc, wp_ifb, eq_refs e1 e2, decide_eq_true_eq]
      by_cases c3 : rs = [[]]
      · rw [if_pos c3]
        simp only [wpS_seq, wpS_set, wpS_setT, wpS_par, wpS_ret, wpS_ite, wpS_pas, wpS_exp, wpS_setI, seqK, evE, evA, wp_bnd, wp_ofO, wp_ret, wp_look, getV_cons_zero, getV_cons_succ, List.set_cons_zero, List.set_cons_succ, Option.some.injEq, exists_eq_left', Option.map_some, bin_add, bin_sub, bin_mul, bin_fdiv, bin_mod, bin_pow, wp_ite_ret, endK, idx_t0, idx_t1, idx_t2, cmp_lt, cmp_le, cmp_gt, cmp_ge, cmp_eqI, cmp_neI, truth_bl, truth_int, truth_str, truth_tup, truth_non, bf_abs, bf_max, tup_ok, setTg, setMany, List.cons_append, List.nil_append, gcall, wpS_rai, eqD_t2, eqD_s1, eqD_st, eqD_int, eqD_bl, eqD_str, cmp_eqD, cmp_neD, gOf_low, wp_fmt, wp_fnil, wp_fcons, wp_asB, wp_asN, isNo, sl_str, wp_guard, bmOk_sw, bmOk_sp, bmOk_jn, bmOk_zf, bm_sw, bm_zf, bm_sp, wpS_setS, textOf_s, D.int.injEq, wp_alloc, wp_ifb, c3, true_or, or_true, decide_true]
        exact ⟨trivial, _, rfl⟩
      · rw [if_neg c3]
        simp only [wpS_seq, wpS_set, wpS_setT, wpS_par, wpS_ret, wpS_ite, wpS_pas, wpS_exp, wpS_setI, seqK, evE, evA, wp_bnd, wp_ofO, wp_ret, wp_look, getV_cons_zero, getV_cons_succ, List.set_cons_zero, List.set_cons_succ, Option.some.injEq, exists_eq_left', Option.map_some, bin_add, bin_sub, bin_mul, bin_fdiv, bin_mod, bin_pow, wp_ite_ret, endK, idx_t0, idx_t1, idx_t2, cmp_lt, cmp_le, cmp_gt, cmp_ge, cmp_eqI, cmp_neI, truth_bl, truth_int, truth_str, truth_tup, truth_non, bf_abs, bf_max, tup_ok, setTg, setMany, List.cons_append, List.nil_append, gcall, wpS_rai, eqD_t2, eqD_s1, eqD_st, eqD_int, eqD_bl, eqD_str, cmp_eqD, cmp_neD, gOf_low, wp_fmt, wp_fnil, wp_fcons, wp_asB, wp_asN, isNo, sl_str, wp_guard, bmOk_sw, bmOk_sp, bmOk_jn, bmOk_zf, bm_sw, bm_zf, bm_sp, wpS_setS, textOf_s, D.int.injEq, wp_alloc, wp_ifb]
        refine (allDig hl).mono fun d h' ⟨e3, e4⟩ => ?_
        subst e3 e4
        refine (all_ref (bs := (w ++ rs.flatten).map dig) (by simp)).mpr ?_
        simp only [wpS_seq, wpS_set, wpS_setT, wpS_par, wpS_ret, wpS_ite, wpS_pas, wpS_exp, wpS_setI, seqK, evE, evA, wp_bnd, wp_ofO, wp_ret, wp_look, getV_cons_zero, getV_cons_succ, List.set_cons_zero, List.set_cons_succ, Option.some.injEq, exists_eq_left', Option.map_some, bin_add, bin_sub, bin_mul, bin_fdiv, bin_mod, bin_pow, wp_ite_ret, endK, idx_t0, idx_t1, idx_t2, cmp_lt, cmp_le, cmp_gt, cmp_ge, cmp_eqI, cmp_neI, truth_bl, truth_int, truth_str, truth_tup, truth_non, bf_abs, bf_max, tup_ok, setTg, setMany, List.cons_append, List.nil_append, gcall, wpS_rai, eqD_t2, eqD_s1, eqD_st, eqD_int, eqD_bl, eqD_str, cmp_eqD, cmp_neD, gOf_low, wp_fmt, wp_fnil, wp_fcons, wp_asB, wp_asN, isNo, sl_str, wp_guard, bmOk_sw, bmOk_sp, bmOk_jn, bmOk_zf, bm_sw, bm_zf, bm_sp, wpS_setS, textOf_s, D.int.injEq, wp_alloc, wp_ifb, all_id]
        refine ⟨?_, _, by rw [List.append_assoc]⟩
        cases q : (w ++ rs.flatten).all dig <;> simp [c1, c2, c3]
theorem truth_ref {l : Nat} {ds : List D} (e : h[l]? = some (.lst ds)) : truth h (.ref l) = some (!ds.isEmpty) := by
  unfold truth
  dsimp only
  rw [e]
theorem idx_ref0 {l : Nat} {d : D} {ds : List D} (e : h[l]? = some (.lst (d :: ds))) : idxD h (.ref l) (.int 0) = some d := by
  unfold idxD
  dsimp only
  rw [e]
  exact atI_0 d ds
/-- what follows the refusal's test -/
theorem tail {t w : List Nat} {bare : D} {rs : List (List Nat)} {l : Nat} {Q : D → Sto → Prop} (e : h[l]? = some (.lst (rs.map .str))) (hl : (w ++ rs.flatten).length ≤ 28) (h1 : rs.length ≤ 1) (h2 : w ≠ []) (h4 : (w ++ rs.flatten).all dig = true)
    (q : match finA (if [45].isPrefixOf t then -(valN (w ++ rs.flatten) 0 : Int) else valN (w ++ rs.flatten) 0) (rs.headD []).length t with
      | some (u, p) => Q (am u p) h
      | none => X 4 h) :
    wqS (fun c _ h1 => X c h1) (exS (gOf pg (n + 1) o) tailS) [some (.str t), some bare, some (.str w), some (.ref l), some (.str (w ++ rs.flatten)), none, none, none, none] h (endK Q) := by
  generalize hf : w ++ rs.flatten = fig at *
  have hf0 : 1 ≤ fig.length := by
    rw [← hf]
    cases w with
    | nil => exact absurd rfl h2
    | cons a r => simp
  have hi : intS fig = some (valN fig 0 : Int) := by
    unfold intS
    have : (fig.all fun c => decide (48 ≤ c ∧ c ≤ 57)) = true := h4
    rw [if_pos ⟨hf0, by omega, this⟩]
  have hv : valN fig 0 < 10 ^ 28 := by
    have := val_lt fig 0 h4
    have h3 : 10 ^ fig.length ≤ 10 ^ 28 := Nat.pow_le_pow_right (by decide) hl
    omega
  have hp : (rs.headD []).length ≤ 28 := by
    rw [← hf] at hl
    cases rs with
    | nil => simp
    | cons r rs => simp at hl ⊢; omega
  generalize hP : (rs.headD []).length = p at *
  have s5 : wp (if (!(rs.map D.str).isEmpty) = true then bnd (bnd (bnd (ofO (some (D.ref l))) fun x => bnd (ret (D.int 0)) fun y => lookS fun h => idxD h x y) fun d => bnd (ret []) fun ds => ret (d :: ds)) fun ds => bfD .len ds else ret (.int 0)) h fun d h' => d = .int p ∧ h' = h := by
    cases rs with
    | nil =>
      simp only [List.map_nil, List.isEmpty_nil, Bool.not_true, Bool.false_eq_true, if_false, wp_ret]
      exact ⟨by rw [← hP]; rfl, trivial⟩
    | cons r rs =>
      have e0 := idx_ref0 (d := .str r) (ds := rs.map .str) e
      simp only [List.map_cons, List.isEmpty_cons, Bool.not_false, if_true, wpS_seq, wpS_set, wpS_setT, wpS_par, wpS_ret, wpS_ite, wpS_pas, wpS_exp, wpS_setI, seqK, evE, evA, wp_bnd, wp_ofO, wp_ret, wp_look, getV_cons_zero, getV_cons_succ, List.set_cons_zero, List.set_cons_succ, Option.some.injEq, exists_eq_left', Option.map_some, bin_add, bin_sub, bin_mul, bin_fdiv, bin_mod, bin_pow, wp_ite_ret, endK, idx_t0, idx_t1, idx_t2, cmp_lt, cmp_le, cmp_gt, cmp_ge, cmp_eqI, cmp_neI, truth_bl, truth_int, truth_str, truth_tup, truth_non, bf_abs, bf_max, tup_ok, setTg, setMany, List.cons_append, List.nil_append, gcall, wpS_rai, eqD_t2, eqD_s1, eqD_st, eqD_int, eqD_bl, eqD_str, cmp_eqD, cmp_neD, gOf_low, wp_fmt, wp_fnil, wp_fcons, wp_asB, wp_asN, isNo, sl_str, wp_guard, bmOk_sw, bmOk_sp, bmOk_jn, bmOk_zf, bm_sw, bm_zf, bm_sp, wpS_setS, textOf_s, D.int.injEq, wp_alloc, wp_ifb, e0, len_str]
      exact ⟨by rw [← hP]; rfl, trivial⟩
  simp only [tailS, wpS_seq, wpS_set, wpS_setT, wpS_par, wpS_ret, wpS_ite, wpS_pas, wpS_exp, wpS_setI, seqK, evE, evA, wp_bnd, wp_ofO, wp_ret, wp_look, getV_cons_zero, getV_cons_succ, List.set_cons_zero, List.set_cons_succ, Option.some.injEq, exists_eq_left', Option.map_some, bin_add, bin_sub, bin_mul, bin_fdiv, bin_mod, bin_pow, wp_ite_ret, endK, idx_t0, idx_t1, idx_t2, cmp_lt, cmp_le, cmp_gt, cmp_ge, cmp_eqI, cmp_neI, truth_bl, truth_int, truth_str, truth_tup, truth_non, bf_abs, bf_max, tup_ok, setTg, setMany, List.cons_append, List.nil_append, gcall, wpS_rai, eqD_t2, eqD_s1, eqD_st, eqD_int, eqD_bl, eqD_str, cmp_eqD, cmp_neD, gOf_low, wp_fmt, wp_fnil, wp_fcons, wp_asB, wp_asN, isNo, sl_str, wp_guard, bmOk_sw, bmOk_sp, bmOk_jn, bmOk_zf, bm_sw, bm_zf, bm_sp, wpS_setS, textOf_s, D.int.injEq, wp_alloc, wp_ifb, truth_ref e]
  refine s5.mono fun d h' ⟨e3, e4⟩ => ?_
  subst e3 e4
  simp only [wpS_seq, wpS_set, wpS_setT, wpS_par, wpS_ret, wpS_ite, wpS_pas, wpS_exp, wpS_setI, seqK, evE, evA, wp_bnd, wp_ofO, wp_ret, wp_look, getV_cons_zero, getV_cons_succ, List.set_cons_zero, List.set_cons_succ, Option.some.injEq, exists_eq_left', Option.map_some, bin_add, bin_sub, bin_mul, bin_fdiv, bin_mod, bin_pow, wp_ite_ret, endK, idx_t0, idx_t1, idx_t2, cmp_lt, cmp_le, cmp_gt, cmp_ge, cmp_eqI, cmp_neI, truth_bl, truth_int, truth_str, truth_tup, truth_non, bf_abs, bf_max, tup_ok, setTg, setMany, List.cons_append, List.nil_append, gcall, wpS_rai, eqD_t2, eqD_s1, eqD_st, eqD_int, eqD_bl, eqD_str, cmp_eqD, cmp_neD, gOf_low, wp_fmt, wp_fnil, wp_fcons, wp_asB, wp_asN, isNo, sl_str, wp_guard, bmOk_sw, bmOk_sp, bmOk_jn, bmOk_zf, bm_sw, bm_zf, bm_sp, wpS_setS, textOf_s, D.int.injEq, wp_alloc, wp_ifb]
  have fin : ∀ u : Int, u = (if [45].isPrefixOf t then -(valN fig 0 : Int) else valN fig 0) → wqS (fun c _ h1 => X c h1) (exS (gOf pg (n + 1) o) (.seq (.ite (.or (.cmp .gt (.var 5) (.cst (.int 18))) (.cmp .ne (.call 0 (.cons (.var 6) .nil)) (.var 0))) (.rai 4) .pas) (.ret (.var 6)))) [some (.str t), some bare, some (.str w), some (.ref l), some (.str fig), some (.int p), some (am u p), none, none] h' (endK Q) := fun u hu => by
    rw [← hu] at q
    have hu2 : u.natAbs < 10 ^ 30 := by
      rw [hu]
      split <;> omega
    simp only [wpS_seq, wpS_set, wpS_setT, wpS_par, wpS_ret, wpS_ite, wpS_pas, wpS_exp, wpS_setI, seqK, evE, evA, wp_bnd, wp_ofO, wp_ret, wp_look, getV_cons_zero, getV_cons_succ, List.set_cons_zero, List.set_cons_succ, Option.some.injEq, exists_eq_left', Option.map_some, bin_add, bin_sub, bin_mul, bin_fdiv, bin_mod, bin_pow, wp_ite_ret, endK, idx_t0, idx_t1, idx_t2, cmp_lt, cmp_le, cmp_gt, cmp_ge, cmp_eqI, cmp_neI, truth_bl, truth_int, truth_str, truth_tup, truth_non, bf_abs, bf_max, tup_ok, setTg, setMany, List.cons_append, List.nil_append, gcall, wpS_rai, eqD_t2, eqD_s1, eqD_st, eqD_int, eqD_bl, eqD_str, cmp_eqD, cmp_neD, gOf_low, wp_fmt, wp_fnil, wp_fcons, wp_asB, wp_asN, isNo, sl_str, wp_guard, bmOk_sw, bmOk_sp, bmOk_jn, bmOk_zf, bm_sw, bm_zf, bm_sp, wpS_setS, textOf_s, D.int.injEq, wp_alloc, wp_ifb, decide_eq_true_eq]
    by_cases c : 18 < p
    · have q0 : finA u p t = none := by unfold finA; rw [if_pos (.inl c)]
      rw [q0] at q
      rw [if_pos (by omega)]
      simp only [wpS_seq, wpS_set, wpS_setT, wpS_par, wpS_ret, wpS_ite, wpS_pas, wpS_exp, wpS_setI, seqK, evE, evA, wp_bnd, wp_ofO, wp_ret, wp_look, getV_cons_zero, getV_cons_succ, List.set_cons_zero, List.set_cons_succ, Option.some.injEq, exists_eq_left', Option.map_some, bin_add, bin_sub, bin_mul, bin_fdiv, bin_mod, bin_pow, wp_ite_ret, endK, idx_t0, idx_t1, idx_t2, cmp_lt, cmp_le, cmp_gt, cmp_ge, cmp_eqI, cmp_neI, truth_bl, truth_int, truth_str, truth_tup, truth_non, bf_abs, bf_max, tup_ok, setTg, setMany, List.cons_append, List.nil_append, gcall, wpS_rai, eqD_t2, eqD_s1, eqD_st, eqD_int, eqD_bl, eqD_str, cmp_eqD, cmp_neD, gOf_low, wp_fmt, wp_fnil, wp_fcons, wp_asB, wp_asN, isNo, sl_str, wp_guard, bmOk_sw, bmOk_sp, bmOk_jn, bmOk_zf, bm_sw, bm_zf, bm_sp, wpS_setS, textOf_s, D.int.injEq, wp_alloc, wp_ifb, if_true]
      rw [decide_eq_true (show (18 : Int) < p by omega)]
      simp only [if_true, wpS_seq, wpS_set, wpS_setT, wpS_par, wpS_ret, wpS_ite, wpS_pas, wpS_exp, wpS_setI, seqK, evE, evA, wp_bnd, wp_ofO, wp_ret, wp_look, getV_cons_zero, getV_cons_succ, List.set_cons_zero, List.set_cons_succ, Option.some.injEq, exists_eq_left', Option.map_some, bin_add, bin_sub, bin_mul, bin_fdiv, bin_mod, bin_pow, wp_ite_ret, endK, idx_t0, idx_t1, idx_t2, cmp_lt, cmp_le, cmp_gt, cmp_ge, cmp_eqI, cmp_neI, truth_bl, truth_int, truth_str, truth_tup, truth_non, bf_abs, bf_max, tup_ok, setTg, setMany, List.cons_append, List.nil_append, gcall, wpS_rai, eqD_t2, eqD_s1, eqD_st, eqD_int, eqD_bl, eqD_str, cmp_eqD, cmp_neD, gOf_low, wp_fmt, wp_fnil, wp_fcons, wp_asB, wp_asN, isNo, sl_str, wp_guard, bmOk_sw, bmOk_sp, bmOk_jn, bmOk_zf, bm_sw, bm_zf, bm_sp, wpS_setS, textOf_s, D.int.injEq, wp_alloc, wp_ifb]
      exact q
    · rw [if_neg (by omega)]
      simp only [wpS_seq, wpS_set, wpS_setT, wpS_par, wpS_ret, wpS_ite, wpS_pas, wpS_exp, wpS_setI, seqK, evE, evA, wp_bnd, wp_ofO, wp_ret, wp_look, getV_cons_zero, getV_cons_succ, List.set_cons_zero, List.set_cons_succ, Option.some.injEq, exists_eq_left', Option.map_some, bin_add, bin_sub, bin_mul, bin_fdiv, bin_mod, bin_pow, wp_ite_ret, endK, idx_t0, idx_t1, idx_t2, cmp_lt, cmp_le, cmp_gt, cmp_ge, cmp_eqI, cmp_neI, truth_bl, truth_int, truth_str, truth_tup, truth_non, bf_abs, bf_max, tup_ok, setTg, setMany, List.cons_append, List.nil_append, gcall, wpS_rai, eqD_t2, eqD_s1, eqD_st, eqD_int, eqD_bl, eqD_str, cmp_eqD, cmp_neD, gOf_low, wp_fmt, wp_fnil, wp_fcons, wp_asB, wp_asN, isNo, sl_str, wp_guard, bmOk_sw, bmOk_sp, bmOk_jn, bmOk_zf, bm_sw, bm_zf, bm_sp, wpS_setS, textOf_s, D.int.injEq, wp_alloc, wp_ifb]
      refine (amountText hu2 (by omega)).mono fun d h1 ⟨e3, e4⟩ => ?_
      subst e3 e4
      simp only [wpS_seq, wpS_set, wpS_setT, wpS_par, wpS_ret, wpS_ite, wpS_pas, wpS_exp, wpS_setI, seqK, evE, evA, wp_bnd, wp_ofO, wp_ret, wp_look, getV_cons_zero, getV_cons_succ, List.set_cons_zero, List.set_cons_succ, Option.some.injEq, exists_eq_left', Option.map_some, bin_add, bin_sub, bin_mul, bin_fdiv, bin_mod, bin_pow, wp_ite_ret, endK, idx_t0, idx_t1, idx_t2, cmp_lt, cmp_le, cmp_gt, cmp_ge, cmp_eqI, cmp_neI, truth_bl, truth_int, truth_str, truth_tup, truth_non, bf_abs, bf_max, tup_ok, setTg, setMany, List.cons_append, List.nil_append, gcall, wpS_rai, eqD_t2, eqD_s1, eqD_st, eqD_int, eqD_bl, eqD_str, cmp_eqD, cmp_neD, gOf_low, wp_fmt, wp_fnil, wp_fcons, wp_asB, wp_asN, isNo, sl_str, wp_guard, bmOk_sw, bmOk_sp, bmOk_jn, bmOk_zf, bm_sw, bm_zf, bm_sp, wpS_setS, textOf_s, D.int.injEq, wp_alloc, wp_ifb, Bool.not_eq_true', decide_eq_false_iff_not]
      by_cases c2 : textA u p = t
      · have q0 : finA u p t = some (u, p) := by unfold finA; rw [if_neg (by simp [c2]; omega)]
        rw [q0] at q
        rw [if_neg (by simp [c2])]
        simp only [wpS_seq, wpS_set, wpS_setT, wpS_par, wpS_ret, wpS_ite, wpS_pas, wpS_exp, wpS_setI, seqK, evE, evA, wp_bnd, wp_ofO, wp_ret, wp_look, getV_cons_zero, getV_cons_succ, List.set_cons_zero, List.set_cons_succ, Option.some.injEq, exists_eq_left', Option.map_some, bin_add, bin_sub, bin_mul, bin_fdiv, bin_mod, bin_pow, wp_ite_ret, endK, idx_t0, idx_t1, idx_t2, cmp_lt, cmp_le, cmp_gt, cmp_ge, cmp_eqI, cmp_neI, truth_bl, truth_int, truth_str, truth_tup, truth_non, bf_abs, bf_max, tup_ok, setTg, setMany, List.cons_append, List.nil_append, gcall, wpS_rai, eqD_t2, eqD_s1, eqD_st, eqD_int, eqD_bl, eqD_str, cmp_eqD, cmp_neD, gOf_low, wp_fmt, wp_fnil, wp_fcons, wp_asB, wp_asN, isNo, sl_str, wp_guard, bmOk_sw, bmOk_sp, bmOk_jn, bmOk_zf, bm_sw, bm_zf, bm_sp, wpS_setS, textOf_s, D.int.injEq, wp_alloc, wp_ifb]
        exact q
      · have q0 : finA u p t = none := by unfold finA; rw [if_pos (.inr c2)]
        rw [q0] at q
        rw [if_pos (by simp [c2])]
        simp only [wpS_seq, wpS_set, wpS_setT, wpS_par, wpS_ret, wpS_ite, wpS_pas, wpS_exp, wpS_setI, seqK, evE, evA, wp_bnd, wp_ofO, wp_ret, wp_look, getV_cons_zero, getV_cons_succ, List.set_cons_zero, List.set_cons_succ, Option.some.injEq, exists_eq_left', Option.map_some, bin_add, bin_sub, bin_mul, bin_fdiv, bin_mod, bin_pow, wp_ite_ret, endK, idx_t0, idx_t1, idx_t2, cmp_lt, cmp_le, cmp_gt, cmp_ge, cmp_eqI, cmp_neI, truth_bl, truth_int, truth_str, truth_tup, truth_non, bf_abs, bf_max, tup_ok, setTg, setMany, List.cons_append, List.nil_append, gcall, wpS_rai, eqD_t2, eqD_s1, eqD_st, eqD_int, eqD_bl, eqD_str, cmp_eqD, cmp_neD, gOf_low, wp_fmt, wp_fnil, wp_fcons, wp_asB, wp_asN, isNo, sl_str, wp_guard, bmOk_sw, bmOk_sp, bmOk_jn, bmOk_zf, bm_sw, bm_zf, bm_sp, wpS_setS, textOf_s, D.int.injEq, wp_alloc, wp_ifb]
        exact q
  cases hN : [45].isPrefixOf t with
  | true =>
    rw [hN] at fin
    simp only [if_true, wpS_seq, wpS_set, wpS_setT, wpS_par, wpS_ret, wpS_ite, wpS_pas, wpS_exp, wpS_setI, seqK, evE, evA, wp_bnd, wp_ofO, wp_ret, wp_look, getV_cons_zero, getV_cons_succ, List.set_cons_zero, List.set_cons_succ, Option.some.injEq, exists_eq_left', Option.map_some, bin_add, bin_sub, bin_mul, bin_fdiv, bin_mod, bin_pow, wp_ite_ret, endK, idx_t0, idx_t1, idx_t2, cmp_lt, cmp_le, cmp_gt, cmp_ge, cmp_eqI, cmp_neI, truth_bl, truth_int, truth_str, truth_tup, truth_non, bf_abs, bf_max, tup_ok, setTg, setMany, List.cons_append, List.nil_append, gcall, wpS_rai, eqD_t2, eqD_s1, eqD_st, eqD_int, eqD_bl, eqD_str, cmp_eqD, cmp_neD, gOf_low, wp_fmt, wp_fnil, wp_fcons, wp_asB, wp_asN, isNo, sl_str, wp_guard, bmOk_sw, bmOk_sp, bmOk_jn, bmOk_zf, bm_sw, bm_zf, bm_sp, wpS_setS, textOf_s, D.int.injEq, wp_alloc, wp_ifb, bf_int, hi]
    have := fin _ rfl
    simp only [wpS_seq, wpS_set, wpS_setT, wpS_par, wpS_ret, wpS_ite, wpS_pas, wpS_exp, wpS_setI, seqK, evE, evA, wp_bnd, wp_ofO, wp_ret, wp_look, getV_cons_zero, getV_cons_succ, List.set_cons_zero, List.set_cons_succ, Option.some.injEq, exists_eq_left', Option.map_some, bin_add, bin_sub, bin_mul, bin_fdiv, bin_mod, bin_pow, wp_ite_ret, endK, idx_t0, idx_t1, idx_t2, cmp_lt, cmp_le, cmp_gt, cmp_ge, cmp_eqI, cmp_neI, truth_bl, truth_int, truth_str, truth_tup, truth_non, bf_abs, bf_max, tup_ok, setTg, setMany, List.cons_append, List.nil_append, gcall, wpS_rai, eqD_t2, eqD_s1, eqD_st, eqD_int, eqD_bl, eqD_str, cmp_eqD, cmp_neD, gOf_low, wp_fmt, wp_fnil, wp_fcons, wp_asB, wp_asN, isNo, sl_str, wp_guard, bmOk_sw, bmOk_sp, bmOk_jn, bmOk_zf, bm_sw, bm_zf, bm_sp, wpS_setS, textOf_s, D.int.injEq, wp_alloc, wp_ifb, if_true] at this
    first
      | exact ⟨trivial, this⟩
      | exact ⟨trivial, lim_ok (by simp), this⟩
  | false =>
    rw [hN] at fin
    simp only [Bool.false_eq_true, if_false, wpS_seq, wpS_set, wpS_setT, wpS_par, wpS_ret, wpS_ite, wpS_pas, wpS_exp, wpS_setI, seqK, evE, evA, wp_bnd, wp_ofO, wp_ret, wp_look, getV_cons_zero, getV_cons_succ, List.set_cons_zero, List.set_cons_succ, Option.some.injEq, exists_eq_left', Option.map_some, bin_add, bin_sub, bin_mul, bin_fdiv, bin_mod, bin_pow, wp_ite_ret, endK, idx_t0, idx_t1, idx_t2, cmp_lt, cmp_le, cmp_gt, cmp_ge, cmp_eqI, cmp_neI, truth_bl, truth_int, truth_str, truth_tup, truth_non, bf_abs, bf_max, tup_ok, setTg, setMany, List.cons_append, List.nil_append, gcall, wpS_rai, eqD_t2, eqD_s1, eqD_st, eqD_int, eqD_bl, eqD_str, cmp_eqD, cmp_neD, gOf_low, wp_fmt, wp_fnil, wp_fcons, wp_asB, wp_asN, isNo, sl_str, wp_guard, bmOk_sw, bmOk_sp, bmOk_jn, bmOk_zf, bm_sw, bm_zf, bm_sp, wpS_setS, textOf_s, D.int.injEq, wp_alloc, wp_ifb, bf_int, hi]
    have := fin _ rfl
    simp only [wpS_seq, wpS_set, wpS_setT, wpS_par, wpS_ret, wpS_ite, wpS_pas, wpS_exp, wpS_setI, seqK, evE, evA, wp_bnd, wp_ofO, wp_ret, wp_look, getV_cons_zero, getV_cons_succ, List.set_cons_zero, List.set_cons_succ, Option.some.injEq, exists_eq_left', Option.map_some, bin_add, bin_sub, bin_mul, bin_fdiv, bin_mod, bin_pow, wp_ite_ret, endK, idx_t0, idx_t1, idx_t2, cmp_lt, cmp_le, cmp_gt, cmp_ge, cmp_eqI, cmp_neI, truth_bl, truth_int, truth_str, truth_tup, truth_non, bf_abs, bf_max, tup_ok, setTg, setMany, List.cons_append, List.nil_append, gcall, wpS_rai, eqD_t2, eqD_s1, eqD_st, eqD_int, eqD_bl, eqD_str, cmp_eqD, cmp_neD, gOf_low, wp_fmt, wp_fnil, wp_fcons, wp_asB, wp_asN, isNo, sl_str, wp_guard, bmOk_sw, bmOk_sp, bmOk_jn, bmOk_zf, bm_sw, bm_zf, bm_sp, wpS_setS, textOf_s, D.int.injEq, wp_alloc, wp_ifb, Bool.false_eq_true, if_false] at this
    first
      | exact ⟨trivial, this⟩
      | exact ⟨trivial, lim_ok (by simp), this⟩
theorem split_parts (c : Nat) (s : List Nat) : ∃ w rs, splitC c s = w :: rs ∧ (w ++ rs.flatten).length ≤ s.length := by
  induction s with
  | nil => exact ⟨[], [], rfl, by simp⟩
  | cons x r ih =>
    obtain ⟨w, rs, e, hl⟩ := ih
    rw [splitC]
    by_cases k : x = c
    · rw [if_pos k, e]
      exact ⟨[], w :: rs, rfl, by simp at hl ⊢; omega⟩
    · rw [if_neg k, e]
      exact ⟨x :: w, rs, rfl, by simp at hl ⊢; omega⟩
theorem sum_len : ∀ ps : List (List Nat), (ps.map (·.length)).sum = ps.flatten.length
  | [] => rfl
  | p :: ps => by rw [List.map_cons, List.sum_cons, sum_len ps, List.flatten_cons, List.length_append]
theorem split_len (c : Nat) (s : List Nat) : (splitC c s).length ≤ s.length + 1 := by
  induction s with
  | nil => simp [splitC]
  | cons x r ih =>
    rw [splitC]
    by_cases k : x = c
    · rw [if_pos k]; simp; omega
    · rw [if_neg k]
      split <;> rename_i e
      · simp
      · rw [e] at ih; simp at ih ⊢; omega
theorem readRest {t bare : List Nat} {Q : D → Sto → Prop} (hb : bare = if [45].isPrefixOf t then t.drop 1 else t) (hl : t.length ≤ 28)
    (q : ∀ m, match readA t with
      | some (u, p) => Q (am u p) (h ++ m)
      | none => X 4 (h ++ m)) :
    wqS (fun c _ h1 => X c h1) (exS (gOf pg (n + 1) o) readS) [some (.str t), some (.str bare), none, none, none, none, none, none, none] h (endK Q) := by
  have hbl : bare.length ≤ 28 := by
    rw [hb]
    split
    · simp; omega
    · exact hl
  obtain ⟨w, rs, ew, hw⟩ := split_parts 46 bare
  have hn := split_len 46 bare
  have hq : readA t = if 1 < rs.length ∨ w = [] ∨ rs = [[]] ∨ (w ++ rs.flatten).all dig = false then none else finA (if [45].isPrefixOf t then -(valN (w ++ rs.flatten) 0 : Int) else valN (w ++ rs.flatten) 0) (rs.headD []).length t := by
    unfold readA
    dsimp only
    rw [← hb, ew]
    rfl
  simp only [readS, wpS_seq, wpS_set, wpS_setT, wpS_par, wpS_ret, wpS_ite, wpS_pas, wpS_exp, wpS_setI, seqK, evE, evA, wp_bnd, wp_ofO, wp_ret, wp_look, getV_cons_zero, getV_cons_succ, List.set_cons_zero, List.set_cons_succ, Option.some.injEq, exists_eq_left', Option.map_some, bin_add, bin_sub, bin_mul, bin_fdiv, bin_mod, bin_pow, wp_ite_ret, endK, idx_t0, idx_t1, idx_t2, cmp_lt, cmp_le, cmp_gt, cmp_ge, cmp_eqI, cmp_neI, truth_bl, truth_int, truth_str, truth_tup, truth_non, bf_abs, bf_max, tup_ok, setTg, setMany, List.cons_append, List.nil_append, gcall, wpS_rai, eqD_t2, eqD_s1, eqD_st, eqD_int, eqD_bl, eqD_str, cmp_eqD, cmp_neD, gOf_low, wp_fmt, wp_fnil, wp_fcons, wp_asB, wp_asN, isNo, sl_str, wp_guard, bmOk_sw, bmOk_sp, bmOk_jn, bmOk_zf, bm_sw, bm_zf, bm_sp, wpS_setS, textOf_s, D.int.injEq, wp_alloc, wp_ifb, ew]
  refine ⟨trivial, lim40 (by omega), _, seq_last _, ⟨by simp, by decide⟩, ?_⟩
  have hlr : (h ++ [Obj.lst ((w :: rs).map D.str)] ++ [Obj.lst (rs.map D.str)])[(h ++ [Obj.lst ((w :: rs).map D.str)]).length]? = some (.lst (rs.map .str)) := by simp
  have em : starMid 2 1 ((w :: rs).map D.str) = rs.map D.str := by
    unfold starMid
    simp only [List.map_cons, List.drop_succ_cons, List.drop_zero, List.length_cons, List.length_map]
    rw [List.take_of_length_le (by simp)]
  have es : (starD 2 1 (h ++ [Obj.lst ((w :: rs).map D.str)]).length ((w :: rs).map D.str)) = [.str w, .ref (h ++ [Obj.lst ((w :: rs).map D.str)]).length] := by
    unfold starD
    simp
  have e2 : [2, 3].length = 2 := rfl
  rw [e2, em, es]
  generalize hH : h ++ [Obj.lst ((w :: rs).map D.str)] ++ [Obj.lst (rs.map D.str)] = H at *
  generalize (h ++ [Obj.lst ((w :: rs).map D.str)]).length = l at *
  have hHm : ∃ m, H = h ++ m := ⟨_, by rw [← hH, List.append_assoc]⟩
  clear hH es em
  refine ⟨_, rfl, ?_⟩
  have lt : l < H.length := (List.getElem?_eq_some_iff.mp hlr).1
  have hla : ∀ m : Sto, (H ++ m)[l]? = some (.lst (rs.map .str)) := fun m => by rw [List.getElem?_append_left lt]; exact hlr
  simp only [wpS_seq, wpS_set, wpS_setT, wpS_par, wpS_ret, wpS_ite, wpS_pas, wpS_exp, wpS_setI, seqK, evE, evA, wp_bnd, wp_ofO, wp_ret, wp_look, getV_cons_zero, getV_cons_succ, List.set_cons_zero, List.set_cons_succ, Option.some.injEq, exists_eq_left', Option.map_some, bin_add, bin_sub, bin_mul, bin_fdiv, bin_mod, bin_pow, wp_ite_ret, endK, idx_t0, idx_t1, idx_t2, cmp_lt, cmp_le, cmp_gt, cmp_ge, cmp_eqI, cmp_neI, truth_bl, truth_int, truth_str, truth_tup, truth_non, bf_abs, bf_max, tup_ok, setTg, setMany, List.cons_append, List.nil_append, gcall, wpS_rai, eqD_t2, eqD_s1, eqD_st, eqD_int, eqD_bl, eqD_str, cmp_eqD, cmp_neD, gOf_low, wp_fmt, wp_fnil, wp_fcons, wp_asB, wp_asN, isNo, sl_str, wp_guard, bmOk_sw, bmOk_sp, bmOk_jn, bmOk_zf, bm_sw, bm_zf, bm_sp, wpS_setS, textOf_s, D.int.injEq, wp_alloc, wp_ifb]
  refine ⟨trivial, lim_ok (by simp), ?_⟩
  refine add_ref (last_get _ _) (hla _) (by simp; simp [ew] at hn; omega) ?_
  have ej : joinS [] (w :: rs) = w ++ rs.flatten := by rw [joinS_nil, List.flatten_cons]
  refine wp_join (ds := .str w :: rs.map .str) (ss := w :: rs) (by simp) (strs_map (w :: rs)) (by
    rw [sum_len, List.flatten_cons]
    exact lim40 (by simp only [List.length_nil, Nat.mul_zero]; omega)) ?_
  rw [ej]
  simp only [wpS_seq, wpS_set, wpS_setT, wpS_par, wpS_ret, wpS_ite, wpS_pas, wpS_exp, wpS_setI, seqK, evE, evA, wp_bnd, wp_ofO, wp_ret, wp_look, getV_cons_zero, getV_cons_succ, List.set_cons_zero, List.set_cons_succ, Option.some.injEq, exists_eq_left', Option.map_some, bin_add, bin_sub, bin_mul, bin_fdiv, bin_mod, bin_pow, wp_ite_ret, endK, idx_t0, idx_t1, idx_t2, cmp_lt, cmp_le, cmp_gt, cmp_ge, cmp_eqI, cmp_neI, truth_bl, truth_int, truth_str, truth_tup, truth_non, bf_abs, bf_max, tup_ok, setTg, setMany, List.cons_append, List.nil_append, gcall, wpS_rai, eqD_t2, eqD_s1, eqD_st, eqD_int, eqD_bl, eqD_str, cmp_eqD, cmp_neD, gOf_low, wp_fmt, wp_fnil, wp_fcons, wp_asB, wp_asN, isNo, sl_str, wp_guard, bmOk_sw, bmOk_sp, bmOk_jn, bmOk_zf, bm_sw, bm_zf, bm_sp, wpS_setS, textOf_s, D.int.injEq, wp_alloc, wp_ifb]
  refine (cond (e := by rw [List.append_assoc]; exact hla _) (by omega)).mono fun d h1 ⟨e3, m, e4⟩ => ?_
  subst e3
  obtain ⟨m0, eH⟩ := hHm
  have hh : ∃ m, h1 = h ++ m := ⟨_, by rw [e4, eH]; simp only [List.append_assoc]; rfl⟩
  have hl1 : h1[l]? = some (.lst (rs.map .str)) := by rw [e4, List.append_assoc, List.append_assoc]; exact hla _
  obtain ⟨m1, eh1⟩ := hh
  have q1 := q m1
  rw [← eh1] at q1
  rw [hq] at q1
  simp only [wpS_seq, wpS_set, wpS_setT, wpS_par, wpS_ret, wpS_ite, wpS_pas, wpS_exp, wpS_setI, seqK, evE, evA, wp_bnd, wp_ofO, wp_ret, wp_look, getV_cons_zero, getV_cons_succ, List.set_cons_zero, List.set_cons_succ, Option.some.injEq, exists_eq_left', Option.map_some, bin_add, bin_sub, bin_mul, bin_fdiv, bin_mod, bin_pow, wp_ite_ret, endK, idx_t0, idx_t1, idx_t2, cmp_lt, cmp_le, cmp_gt, cmp_ge, cmp_eqI, cmp_neI, truth_bl, truth_int, truth_str, truth_tup, truth_non, bf_abs, bf_max, tup_ok, setTg, setMany, List.cons_append, List.nil_append, gcall, wpS_rai, eqD_t2, eqD_s1, eqD_st, eqD_int, eqD_bl, eqD_str, cmp_eqD, cmp_neD, gOf_low, wp_fmt, wp_fnil, wp_fcons, wp_asB, wp_asN, isNo, sl_str, wp_guard, bmOk_sw, bmOk_sp, bmOk_jn, bmOk_zf, bm_sw, bm_zf, bm_sp, wpS_setS, textOf_s, D.int.injEq, wp_alloc, wp_ifb, decide_eq_true_eq]
  by_cases k : 1 < rs.length ∨ w = [] ∨ rs = [[]] ∨ (w ++ rs.flatten).all dig = false
  · rw [if_pos k] at q1 ⊢
    simp only [wpS_seq, wpS_set, wpS_setT, wpS_par, wpS_ret, wpS_ite, wpS_pas, wpS_exp, wpS_setI, seqK, evE, evA, wp_bnd, wp_ofO, wp_ret, wp_look, getV_cons_zero, getV_cons_succ, List.set_cons_zero, List.set_cons_succ, Option.some.injEq, exists_eq_left', Option.map_some, bin_add, bin_sub, bin_mul, bin_fdiv, bin_mod, bin_pow, wp_ite_ret, endK, idx_t0, idx_t1, idx_t2, cmp_lt, cmp_le, cmp_gt, cmp_ge, cmp_eqI, cmp_neI, truth_bl, truth_int, truth_str, truth_tup, truth_non, bf_abs, bf_max, tup_ok, setTg, setMany, List.cons_append, List.nil_append, gcall, wpS_rai, eqD_t2, eqD_s1, eqD_st, eqD_int, eqD_bl, eqD_str, cmp_eqD, cmp_neD, gOf_low, wp_fmt, wp_fnil, wp_fcons, wp_asB, wp_asN, isNo, sl_str, wp_guard, bmOk_sw, bmOk_sp, bmOk_jn, bmOk_zf, bm_sw, bm_zf, bm_sp, wpS_setS, textOf_s, D.int.injEq, wp_alloc, wp_ifb]
    exact q1
  · rw [if_neg k] at q1 ⊢
    simp only [wpS_seq, wpS_set, wpS_setT, wpS_par, wpS_ret, wpS_ite, wpS_pas, wpS_exp, wpS_setI, seqK, evE, evA, wp_bnd, wp_ofO, wp_ret, wp_look, getV_cons_zero, getV_cons_succ, List.set_cons_zero, List.set_cons_succ, Option.some.injEq, exists_eq_left', Option.map_some, bin_add, bin_sub, bin_mul, bin_fdiv, bin_mod, bin_pow, wp_ite_ret, endK, idx_t0, idx_t1, idx_t2, cmp_lt, cmp_le, cmp_gt, cmp_ge, cmp_eqI, cmp_neI, truth_bl, truth_int, truth_str, truth_tup, truth_non, bf_abs, bf_max, tup_ok, setTg, setMany, List.cons_append, List.nil_append, gcall, wpS_rai, eqD_t2, eqD_s1, eqD_st, eqD_int, eqD_bl, eqD_str, cmp_eqD, cmp_neD, gOf_low, wp_fmt, wp_fnil, wp_fcons, wp_asB, wp_asN, isNo, sl_str, wp_guard, bmOk_sw, bmOk_sp, bmOk_jn, bmOk_zf, bm_sw, bm_zf, bm_sp, wpS_setS, textOf_s, D.int.injEq, wp_alloc, wp_ifb]
    simp only [not_or, Bool.not_eq_false] at k
    exact tail hl1 (by omega) (by omega) k.2.1 k.2.2.2 q1
theorem readAmount {t : List Nat} {Q : D → Sto → Prop} (hl : t.length ≤ 28)
    (q : ∀ m, match readA t with
      | some (u, p) => Q (am u p) (h ++ m)
      | none => X 4 (h ++ m)) :
    wq X (callS pg (n + 2) 0 i_read_amount [.str t] o) h Q := by
  refine wp_def (fn := f_read_amount) (by rfl) (by rfl) ?_
  have eS : start f_read_amount.slots [.str t] = [some (.str t), none, none, none, none, none, none, none, none] := rfl
  rw [eS, read_body]
  have sl : slice t (some 1) none = t.drop 1 := slice_lo t (by omega)
  simp only [wpS_seq, wpS_set, wpS_setT, wpS_par, wpS_ret, wpS_ite, wpS_pas, wpS_exp, wpS_setI, seqK, evE, evA, wp_bnd, wp_ofO, wp_ret, wp_look, getV_cons_zero, getV_cons_succ, List.set_cons_zero, List.set_cons_succ, Option.some.injEq, exists_eq_left', Option.map_some, bin_add, bin_sub, bin_mul, bin_fdiv, bin_mod, bin_pow, wp_ite_ret, endK, idx_t0, idx_t1, idx_t2, cmp_lt, cmp_le, cmp_gt, cmp_ge, cmp_eqI, cmp_neI, truth_bl, truth_int, truth_str, truth_tup, truth_non, bf_abs, bf_max, tup_ok, setTg, setMany, List.cons_append, List.nil_append, gcall, wpS_rai, eqD_t2, eqD_s1, eqD_st, eqD_int, eqD_bl, eqD_str, cmp_eqD, cmp_neD, gOf_low, wp_fmt, wp_fnil, wp_fcons, wp_asB, wp_asN, isNo, sl_str, wp_guard, bmOk_sw, bmOk_sp, bmOk_jn, bmOk_zf, bm_sw, bm_zf, bm_sp, wpS_setS, textOf_s, D.int.injEq, wp_alloc, wp_ifb]
  cases hN : [45].isPrefixOf t with
  | true =>
    simp only [if_true, wpS_seq, wpS_set, wpS_setT, wpS_par, wpS_ret, wpS_ite, wpS_pas, wpS_exp, wpS_setI, seqK, evE, evA, wp_bnd, wp_ofO, wp_ret, wp_look, getV_cons_zero, getV_cons_succ, List.set_cons_zero, List.set_cons_succ, Option.some.injEq, exists_eq_left', Option.map_some, bin_add, bin_sub, bin_mul, bin_fdiv, bin_mod, bin_pow, wp_ite_ret, endK, idx_t0, idx_t1, idx_t2, cmp_lt, cmp_le, cmp_gt, cmp_ge, cmp_eqI, cmp_neI, truth_bl, truth_int, truth_str, truth_tup, truth_non, bf_abs, bf_max, tup_ok, setTg, setMany, List.cons_append, List.nil_append, gcall, wpS_rai, eqD_t2, eqD_s1, eqD_st, eqD_int, eqD_bl, eqD_str, cmp_eqD, cmp_neD, gOf_low, wp_fmt, wp_fnil, wp_fcons, wp_asB, wp_asN, isNo, sl_str, wp_guard, bmOk_sw, bmOk_sp, bmOk_jn, bmOk_zf, bm_sw, bm_zf, bm_sp, wpS_setS, textOf_s, D.int.injEq, wp_alloc, wp_ifb, sl]
    exact ⟨trivial, readRest (by rw [hN]; rfl) hl q⟩
  | false =>
    simp only [Bool.false_eq_true, if_false, wpS_seq, wpS_set, wpS_setT, wpS_par, wpS_ret, wpS_ite, wpS_pas, wpS_exp, wpS_setI, seqK, evE, evA, wp_bnd, wp_ofO, wp_ret, wp_look, getV_cons_zero, getV_cons_succ, List.set_cons_zero, List.set_cons_succ, Option.some.injEq, exists_eq_left', Option.map_some, bin_add, bin_sub, bin_mul, bin_fdiv, bin_mod, bin_pow, wp_ite_ret, endK, idx_t0, idx_t1, idx_t2, cmp_lt, cmp_le, cmp_gt, cmp_ge, cmp_eqI, cmp_neI, truth_bl, truth_int, truth_str, truth_tup, truth_non, bf_abs, bf_max, tup_ok, setTg, setMany, List.cons_append, List.nil_append, gcall, wpS_rai, eqD_t2, eqD_s1, eqD_st, eqD_int, eqD_bl, eqD_str, cmp_eqD, cmp_neD, gOf_low, wp_fmt, wp_fnil, wp_fcons, wp_asB, wp_asN, isNo, sl_str, wp_guard, bmOk_sw, bmOk_sp, bmOk_jn, bmOk_zf, bm_sw, bm_zf, bm_sp, wpS_setS, textOf_s, D.int.injEq, wp_alloc, wp_ifb]
    exact ⟨trivial, readRest (by rw [hN]; rfl) hl q⟩
end
end K02

set_option Elab.async false
set_option linter.all false
set_option autoImplicit false
set_option maxRecDepth 100000
set_option maxHeartbeats 1000000
/-! K02N: the law's loops. -/
namespace K02
open Mi
def innerS : S := (.seq (.set 7 (.hrd 5 .nil (.call 1 (.cons (.var 10) .nil))))
    (.seq (.ite (.and (.cmp .eq (.idx (.var 7) (.cst (.int 0))) (.cst (.str [116, 111, 108, 100]))) (.cmp .ne (.call 7 (.cons (.idx (.var 7) (.cst (.int 1))) .nil)) (.var 10))) (.ret (.cst (.bl false))) .pas)
    (.ite (.cmp .nin (.idx (.var 7) (.cst (.int 0))) (.tup (.cons (.cst (.str [116, 111, 108, 100])) (.cons (.cst (.str [110, 111, 32, 116, 101, 120, 116])) .nil)))) (.ret (.cst (.bl false))) .pas)))
def midS : S := (.seq (.par [5, 6] (.cons (.call 2 (.cons (.var 0) (.cons (.var 1) (.cons (.bin .add (.blt .len (.cons (.var 9) .nil)) (.cst (.int 1))) .nil)))) (.cons (.idx (.cst (.str [48, 49, 50, 51, 46, 45, 45, 32, 97])) (.call 2 (.cons (.var 0) (.cons (.var 1) (.cons (.cst (.int 9)) .nil))))) .nil)))
    (.for_ (.one 10) .val (.cons (.lst (.cons (.bin .add (.bin .add (.slc (.var 9) .no (.var 5)) (.var 6)) (.slc (.var 9) (.var 5) .no)) (.cons (.bin .add (.slc (.var 9) .no (.var 5)) (.slc (.var 9) (.bin .add (.var 5) (.cst (.int 1))) .no)) (.cons (.bin .add (.bin .add (.slc (.var 9) .no (.var 5)) (.var 6)) (.slc (.var 9) (.bin .add (.var 5) (.cst (.int 1))) .no)) .nil)))) .nil) innerS))
def outS : S := (.seq (.set 3 (.call 6 (.cons (.var 0) (.cons (.var 1) (.cons (.cst (.int 9)) (.cons (.cst (.int 9)) .nil))))))
    (.seq (.set 9 (.call 7 (.cons (.var 3) .nil)))
    (.seq (.ite (.or (.cmp .ne (.call 0 (.cons (.var 3) .nil)) (.var 9)) (.cmp .ne (.call 1 (.cons (.var 9) .nil)) (.var 3))) (.ret (.cst (.bl false))) .pas)
    (.for_ (.one 4) .rng1 (.cons (.cst (.int 6)) .nil) midS))))
def endS : S := (.seq (.ite (.cmp .ne (.lc (.one 9) .val (.cons (.var 8) .nil) (.cst (.bl true)) (.hrd 5 .nil (.call 1 (.cons (.var 9) .nil))) [11, 9]) (.lc (.one 9) .val (.cons (.var 8) .nil) (.cst (.bl true)) (.tup (.cons (.cst (.str [110, 111, 32, 116, 101, 120, 116])) .nil)) [11, 9])) (.ret (.cst (.bl false))) .pas)
    (.seq (.ite (.cmp .ne (.call 1 (.cons (.bin .add (.cst (.str [48, 46])) (.bin .mul (.cst (.str [49])) (.cst (.int 18)))) .nil)) (.tup (.cons (.blt .int (.cons (.bin .mul (.cst (.str [49])) (.cst (.int 18))) .nil)) (.cons (.cst (.int 18)) .nil)))) (.ret (.cst (.bl false))) .pas)
    (.ret (.and (.cmp .eq (.call 1 (.cons (.cst (.str [45, 48, 46, 53, 48])) .nil)) (.tup (.cons (.neg (.cst (.int 50))) (.cons (.cst (.int 2)) .nil)))) (.and (.cmp .eq (.call 1 (.cons (.cst (.str [48])) .nil)) (.tup (.cons (.cst (.int 0)) (.cons (.cst (.int 0)) .nil)))) (.cmp .eq (.call 0 (.cons (.tup (.cons (.cst (.int 5)) (.cons (.cst (.int 3)) .nil))) .nil)) (.cst (.str [48, 46, 48, 48, 53]))))))))
def badS : S := (.seq (.set 8 (.lst (.cons (.cst (.str [])) (.cons (.cst (.str [45])) (.cons (.cst (.str [46])) (.cons (.cst (.str [49, 46])) (.cons (.cst (.str [46, 53])) (.cons (.cst (.str [45, 46, 53])) (.cons (.cst (.str [48, 49])) (.cons (.cst (.str [48, 48, 46, 49])) (.cons (.cst (.str [45, 48])) (.cons (.cst (.str [45, 48, 46, 48, 48])) (.cons (.cst (.str [43, 49])) (.cons (.cst (.str [49, 46, 50, 46, 51])) (.cons (.cst (.str [49, 32])) (.cons (.cst (.str [32, 49])) (.cons (.cst (.str [45, 45, 49])) (.cons (.cst (.str [49, 45])) (.cons (.cst (.str [49, 44, 53])) .nil)))))))))))))))))))
    (.seq (.set 8 (.bin .add (.var 8) (.lst (.cons (.bin .add (.cst (.str [48, 46])) (.bin .mul (.cst (.str [49])) (.cst (.int 19)))) (.cons (.cst (.str [97])) (.cons (.cst (.str [49, 101, 51])) .nil))))))
    endS))
theorem law_body : f_law.body = (.seq (.set 1 (.call 3 .nil))
    (.seq (.for_ (.one 2) .rng1 (.cons (.cst (.int 3)) .nil) outS)
    badS)) := rfl
section
variable {n : Nat} {o : M D} {h : Sto}
theorem draw {sv : D} {ns : List Int} {t r b : Nat} {many : Int} (hm : 0 < many) (hm2 : many ≤ 1000000000) (hn : ns.length ≤ 63) (L : Lw (b + 1) ns sv t r h) :
    wp (callS pg (n + 1) 0 i_l_draw [sv, .ref t, .int many] o) h fun d h' => ∃ v : Nat, d = .int v ∧ (v : Int) < many ∧ Lw b ns sv t r h' ∧ Kp t r h h' := draw_spec (by rfl) hm hm2 hn L
theorem anAmount {sv : D} {ns : List Int} {t r b : Nat} (hn : ns.length ≤ 63) (L : Lw (b + 12) ns sv t r h) :
    wp (callS pg (n + 2) 0 i_l_an_amount [sv, .ref t, .int 9, .int 9] o) h fun d h' => ∃ (u : Int) (p : Nat), d = am u p ∧ u.natAbs < 10 ^ 9 ∧ p ≤ 9 ∧ Lw b ns sv t r h' := by
  refine wp_def (fn := f_l_an_amount) (by rfl) (by rfl) ?_
  have eS : start f_l_an_amount.slots [sv, .ref t, .int 9, .int 9] = [some sv, some (.ref t), some (.int 9), some (.int 9), none, none, none] := rfl
  rw [eS]
  simp only [f_l_an_amount, wpS_seq, wpS_set, wpS_setT, wpS_par, wpS_ret, wpS_ite, wpS_pas, wpS_exp, wpS_setI, seqK, evE, evA, wp_bnd, wp_ofO, wp_ret, wp_look, getV_cons_zero, getV_cons_succ, List.set_cons_zero, List.set_cons_succ, Option.some.injEq, exists_eq_left', Option.map_some, bin_add, bin_sub, bin_mul, bin_fdiv, bin_mod, bin_pow, wp_ite_ret, endK, idx_t0, idx_t1, idx_t2, cmp_lt, cmp_le, cmp_gt, cmp_ge, cmp_eqI, cmp_neI, truth_bl, truth_int, truth_str, truth_tup, truth_non, bf_abs, bf_max, tup_ok, setTg, setMany, List.cons_append, List.nil_append, gcall, wpS_rai, eqD_t2, eqD_s1, eqD_st, eqD_int, eqD_bl, eqD_str, cmp_eqD, cmp_neD, gOf_low, wp_fmt, wp_fnil, wp_fcons, wp_asB, wp_asN, isNo, sl_str, wp_guard, bmOk_sw, bmOk_sp, bmOk_jn, bmOk_zf, bm_sw, bm_zf, bm_sp, wpS_setS, textOf_s, D.int.injEq, wp_alloc, wp_ifb]
  refine (draw (b := b + 11) (by omega) (by omega) hn L).mono fun d h1 ⟨pl, e1, hpl, L1, _⟩ => ?_
  subst e1
  simp only [wpS_seq, wpS_set, wpS_setT, wpS_par, wpS_ret, wpS_ite, wpS_pas, wpS_exp, wpS_setI, seqK, evE, evA, wp_bnd, wp_ofO, wp_ret, wp_look, getV_cons_zero, getV_cons_succ, List.set_cons_zero, List.set_cons_succ, Option.some.injEq, exists_eq_left', Option.map_some, bin_add, bin_sub, bin_mul, bin_fdiv, bin_mod, bin_pow, wp_ite_ret, endK, idx_t0, idx_t1, idx_t2, cmp_lt, cmp_le, cmp_gt, cmp_ge, cmp_eqI, cmp_neI, truth_bl, truth_int, truth_str, truth_tup, truth_non, bf_abs, bf_max, tup_ok, setTg, setMany, List.cons_append, List.nil_append, gcall, wpS_rai, eqD_t2, eqD_s1, eqD_st, eqD_int, eqD_bl, eqD_str, cmp_eqD, cmp_neD, gOf_low, wp_fmt, wp_fnil, wp_fcons, wp_asB, wp_asN, isNo, sl_str, wp_guard, bmOk_sw, bmOk_sp, bmOk_jn, bmOk_zf, bm_sw, bm_zf, bm_sp, wpS_setS, textOf_s, D.int.injEq, wp_alloc, wp_ifb, wpS_for]
  refine (draw (b := b + 10) (by omega) (by omega) hn L1).mono fun d h2 ⟨m, e1, hm, L2, _⟩ => ?_
  subst e1
  simp only [wpS_seq, wpS_set, wpS_setT, wpS_par, wpS_ret, wpS_ite, wpS_pas, wpS_exp, wpS_setI, seqK, evE, evA, wp_bnd, wp_ofO, wp_ret, wp_look, getV_cons_zero, getV_cons_succ, List.set_cons_zero, List.set_cons_succ, Option.some.injEq, exists_eq_left', Option.map_some, bin_add, bin_sub, bin_mul, bin_fdiv, bin_mod, bin_pow, wp_ite_ret, endK, idx_t0, idx_t1, idx_t2, cmp_lt, cmp_le, cmp_gt, cmp_ge, cmp_eqI, cmp_neI, truth_bl, truth_int, truth_str, truth_tup, truth_non, bf_abs, bf_max, tup_ok, setTg, setMany, List.cons_append, List.nil_append, gcall, wpS_rai, eqD_t2, eqD_s1, eqD_st, eqD_int, eqD_bl, eqD_str, cmp_eqD, cmp_neD, gOf_low, wp_fmt, wp_fnil, wp_fcons, wp_asB, wp_asN, isNo, sl_str, wp_guard, bmOk_sw, bmOk_sp, bmOk_jn, bmOk_zf, bm_sw, bm_zf, bm_sp, wpS_setS, textOf_s, D.int.injEq, wp_alloc, wp_ifb, curOf]
  rw [if_pos (by constructor <;> omega)]
  refine ⟨_, rfl, ?_⟩
  refine wpS_loop (N := m) (fun i σ h' => ∃ (u : Nat) (x : Option D), σ = [some sv, some (.ref t), some (.int 9), some (.int 9), some (.int u), some (.int pl), x] ∧ u < 10 ^ i ∧ Lw (b + 10 - i) ns sv t r h') ⟨0, none, rfl, by decide, L2⟩ (by show m < 1000000000; omega) (fun i σ h' hi ⟨u, x, hs, hu, L3⟩ => ?_) (fun σ h' ⟨u, x, hs, hu, L3⟩ => ?_)
  · subst hs
    refine ⟨.int i, [some sv, some (.ref t), some (.int 9), some (.int 9), some (.int u), some (.int pl), some (.int i)], by rw [if_pos (by omega)], rfl, ?_⟩
    have hlog : (u : Int).natAbs.log2 < 36 := by
      have : u < 10 ^ 9 := Nat.lt_of_lt_of_le hu (Nat.pow_le_pow_right (by omega) (by omega))
      exact log2_ab (by simp only [Int.natAbs_natCast]; omega) (by omega)
    have h10 : (10 : Int).natAbs.log2 = 3 := by decide
    simp only [wpS_seq, wpS_set, wpS_setT, wpS_par, wpS_ret, wpS_ite, wpS_pas, wpS_exp, wpS_setI, seqK, evE, evA, wp_bnd, wp_ofO, wp_ret, wp_look, getV_cons_zero, getV_cons_succ, List.set_cons_zero, List.set_cons_succ, Option.some.injEq, exists_eq_left', Option.map_some, bin_add, bin_sub, bin_mul, bin_fdiv, bin_mod, bin_pow, wp_ite_ret, endK, idx_t0, idx_t1, idx_t2, cmp_lt, cmp_le, cmp_gt, cmp_ge, cmp_eqI, cmp_neI, truth_bl, truth_int, truth_str, truth_tup, truth_non, bf_abs, bf_max, tup_ok, setTg, setMany, List.cons_append, List.nil_append, gcall, wpS_rai, eqD_t2, eqD_s1, eqD_st, eqD_int, eqD_bl, eqD_str, cmp_eqD, cmp_neD, gOf_low, wp_fmt, wp_fnil, wp_fcons, wp_asB, wp_asN, isNo, sl_str, wp_guard, bmOk_sw, bmOk_sp, bmOk_jn, bmOk_zf, bm_sw, bm_zf, bm_sp, wpS_setS, textOf_s, D.int.injEq, wp_alloc, wp_ifb]
    refine ⟨by omega, ?_⟩
    have eb : b + 10 - i = (b + 10 - (i + 1)) + 1 := by omega
    rw [eb] at L3
    refine (draw (by omega) (by omega) hn L3).mono fun d h4 ⟨v, e1, hv, L4, _⟩ => ?_
    subst e1
    simp only [wpS_seq, wpS_set, wpS_setT, wpS_par, wpS_ret, wpS_ite, wpS_pas, wpS_exp, wpS_setI, seqK, evE, evA, wp_bnd, wp_ofO, wp_ret, wp_look, getV_cons_zero, getV_cons_succ, List.set_cons_zero, List.set_cons_succ, Option.some.injEq, exists_eq_left', Option.map_some, bin_add, bin_sub, bin_mul, bin_fdiv, bin_mod, bin_pow, wp_ite_ret, endK, idx_t0, idx_t1, idx_t2, cmp_lt, cmp_le, cmp_gt, cmp_ge, cmp_eqI, cmp_neI, truth_bl, truth_int, truth_str, truth_tup, truth_non, bf_abs, bf_max, tup_ok, setTg, setMany, List.cons_append, List.nil_append, gcall, wpS_rai, eqD_t2, eqD_s1, eqD_st, eqD_int, eqD_bl, eqD_str, cmp_eqD, cmp_neD, gOf_low, wp_fmt, wp_fnil, wp_fcons, wp_asB, wp_asN, isNo, sl_str, wp_guard, bmOk_sw, bmOk_sp, bmOk_jn, bmOk_zf, bm_sw, bm_zf, bm_sp, wpS_setS, textOf_s, D.int.injEq, wp_alloc, wp_ifb, turnK]
    refine ⟨u * 10 + v, some (.int i), by simp, by rw [Nat.pow_succ]; omega, L4⟩
  · subst hs
    refine ⟨by rw [if_neg (by omega)], ?_⟩
    simp only [wpS_seq, wpS_set, wpS_setT, wpS_par, wpS_ret, wpS_ite, wpS_pas, wpS_exp, wpS_setI, seqK, evE, evA, wp_bnd, wp_ofO, wp_ret, wp_look, getV_cons_zero, getV_cons_succ, List.set_cons_zero, List.set_cons_succ, Option.some.injEq, exists_eq_left', Option.map_some, bin_add, bin_sub, bin_mul, bin_fdiv, bin_mod, bin_pow, wp_ite_ret, endK, idx_t0, idx_t1, idx_t2, cmp_lt, cmp_le, cmp_gt, cmp_ge, cmp_eqI, cmp_neI, truth_bl, truth_int, truth_str, truth_tup, truth_non, bf_abs, bf_max, tup_ok, setTg, setMany, List.cons_append, List.nil_append, gcall, wpS_rai, eqD_t2, eqD_s1, eqD_st, eqD_int, eqD_bl, eqD_str, cmp_eqD, cmp_neD, gOf_low, wp_fmt, wp_fnil, wp_fcons, wp_asB, wp_asN, isNo, sl_str, wp_guard, bmOk_sw, bmOk_sp, bmOk_jn, bmOk_zf, bm_sw, bm_zf, bm_sp, wpS_setS, textOf_s, D.int.injEq, wp_alloc, wp_ifb]
    refine (draw (b := b) (by omega) (by omega) hn (L3.less (by omega))).mono fun d h4 ⟨v, e1, hv, L4, _⟩ => ?_
    subst e1
    have hu8 : u < 10 ^ 9 := Nat.lt_of_lt_of_le hu (Nat.pow_le_pow_right (by omega) (by omega))
    simp only [wpS_seq, wpS_set, wpS_setT, wpS_par, wpS_ret, wpS_ite, wpS_pas, wpS_exp, wpS_setI, seqK, evE, evA, wp_bnd, wp_ofO, wp_ret, wp_look, getV_cons_zero, getV_cons_succ, List.set_cons_zero, List.set_cons_succ, Option.some.injEq, exists_eq_left', Option.map_some, bin_add, bin_sub, bin_mul, bin_fdiv, bin_mod, bin_pow, wp_ite_ret, endK, idx_t0, idx_t1, idx_t2, cmp_lt, cmp_le, cmp_gt, cmp_ge, cmp_eqI, cmp_neI, truth_bl, truth_int, truth_str, truth_tup, truth_non, bf_abs, bf_max, tup_ok, setTg, setMany, List.cons_append, List.nil_append, gcall, wpS_rai, eqD_t2, eqD_s1, eqD_st, eqD_int, eqD_bl, eqD_str, cmp_eqD, cmp_neD, gOf_low, wp_fmt, wp_fnil, wp_fcons, wp_asB, wp_asN, isNo, sl_str, wp_guard, bmOk_sw, bmOk_sp, bmOk_jn, bmOk_zf, bm_sw, bm_zf, bm_sp, wpS_setS, textOf_s, D.int.injEq, wp_alloc, wp_ifb, beq_iff_eq]
    by_cases c : (v : Int) = 0
    · simp only [if_pos c, wpS_seq, wpS_set, wpS_setT, wpS_par, wpS_ret, wpS_ite, wpS_pas, wpS_exp, wpS_setI, seqK, evE, evA, wp_bnd, wp_ofO, wp_ret, wp_look, getV_cons_zero, getV_cons_succ, List.set_cons_zero, List.set_cons_succ, Option.some.injEq, exists_eq_left', Option.map_some, bin_add, bin_sub, bin_mul, bin_fdiv, bin_mod, bin_pow, wp_ite_ret, endK, idx_t0, idx_t1, idx_t2, cmp_lt, cmp_le, cmp_gt, cmp_ge, cmp_eqI, cmp_neI, truth_bl, truth_int, truth_str, truth_tup, truth_non, bf_abs, bf_max, tup_ok, setTg, setMany, List.cons_append, List.nil_append, gcall, wpS_rai, eqD_t2, eqD_s1, eqD_st, eqD_int, eqD_bl, eqD_str, cmp_eqD, cmp_neD, gOf_low, wp_fmt, wp_fnil, wp_fcons, wp_asB, wp_asN, isNo, sl_str, wp_guard, bmOk_sw, bmOk_sp, bmOk_jn, bmOk_zf, bm_sw, bm_zf, bm_sp, wpS_setS, textOf_s, D.int.injEq, wp_alloc, wp_ifb]
      exact ⟨lim_ok (by simp), u, pl, rfl, by simpa using hu8, by omega, L4⟩
    · simp only [if_neg c, wpS_seq, wpS_set, wpS_setT, wpS_par, wpS_ret, wpS_ite, wpS_pas, wpS_exp, wpS_setI, seqK, evE, evA, wp_bnd, wp_ofO, wp_ret, wp_look, getV_cons_zero, getV_cons_succ, List.set_cons_zero, List.set_cons_succ, Option.some.injEq, exists_eq_left', Option.map_some, bin_add, bin_sub, bin_mul, bin_fdiv, bin_mod, bin_pow, wp_ite_ret, endK, idx_t0, idx_t1, idx_t2, cmp_lt, cmp_le, cmp_gt, cmp_ge, cmp_eqI, cmp_neI, truth_bl, truth_int, truth_str, truth_tup, truth_non, bf_abs, bf_max, tup_ok, setTg, setMany, List.cons_append, List.nil_append, gcall, wpS_rai, eqD_t2, eqD_s1, eqD_st, eqD_int, eqD_bl, eqD_str, cmp_eqD, cmp_neD, gOf_low, wp_fmt, wp_fnil, wp_fcons, wp_asB, wp_asN, isNo, sl_str, wp_guard, bmOk_sw, bmOk_sp, bmOk_jn, bmOk_zf, bm_sw, bm_zf, bm_sp, wpS_setS, textOf_s, D.int.injEq, wp_alloc, wp_ifb]
      exact ⟨lim_ok (by simp), 0 - u, pl, rfl, by omega, by omega, L4⟩

theorem hear {σ : Fr} {i : Nat} {x : List Nat} {Q : D → Sto → Prop} (hx : getV σ i = some (.str x)) (hl : x.length ≤ 28)
    (q : ∀ m, match readA x with
      | some (u, p) => Q (.tup [.str [116, 111, 108, 100], am u p]) (h ++ m)
      | none => Q (.tup [.str [110, 111, 32, 116, 101, 120, 116]]) (h ++ m)) :
    wp (evE (gOf pg (n + 4) o) (.hrd 5 .nil (.call 1 (.cons (.var i) .nil))) σ) h Q := by
  simp only [wpS_seq, wpS_set, wpS_setT, wpS_par, wpS_ret, wpS_ite, wpS_pas, wpS_exp, wpS_setI, seqK, evE, evA, wp_bnd, wp_ofO, wp_ret, wp_look, getV_cons_zero, getV_cons_succ, List.set_cons_zero, List.set_cons_succ, Option.some.injEq, exists_eq_left', Option.map_some, bin_add, bin_sub, bin_mul, bin_fdiv, bin_mod, bin_pow, wp_ite_ret, endK, idx_t0, idx_t1, idx_t2, cmp_lt, cmp_le, cmp_gt, cmp_ge, cmp_eqI, cmp_neI, truth_bl, truth_int, truth_str, truth_tup, truth_non, bf_abs, bf_max, tup_ok, setTg, setMany, List.cons_append, List.nil_append, gcall, wpS_rai, eqD_t2, eqD_s1, eqD_st, eqD_int, eqD_bl, eqD_str, cmp_eqD, cmp_neD, gOf_low, wp_fmt, wp_fnil, wp_fcons, wp_asB, wp_asN, isNo, sl_str, wp_guard, bmOk_sw, bmOk_sp, bmOk_jn, bmOk_zf, bm_sw, bm_zf, bm_sp, wpS_setS, textOf_s, D.int.injEq, wp_alloc, wp_ifb, hx]
  refine heard (n := n + 2) (ic := i_l_class) (by rfl) (by rfl) (by rfl) ?_
  simp only [wpS_seq, wpS_set, wpS_setT, wpS_par, wpS_ret, wpS_ite, wpS_pas, wpS_exp, wpS_setI, seqK, evE, evA, wp_bnd, wp_ofO, wp_ret, wp_look, getV_cons_zero, getV_cons_succ, List.set_cons_zero, List.set_cons_succ, Option.some.injEq, exists_eq_left', Option.map_some, bin_add, bin_sub, bin_mul, bin_fdiv, bin_mod, bin_pow, wp_ite_ret, endK, idx_t0, idx_t1, idx_t2, cmp_lt, cmp_le, cmp_gt, cmp_ge, cmp_eqI, cmp_neI, truth_bl, truth_int, truth_str, truth_tup, truth_non, bf_abs, bf_max, tup_ok, setTg, setMany, List.cons_append, List.nil_append, gcall, wpS_rai, eqD_t2, eqD_s1, eqD_st, eqD_int, eqD_bl, eqD_str, cmp_eqD, cmp_neD, gOf_low, wp_fmt, wp_fnil, wp_fcons, wp_asB, wp_asN, isNo, sl_str, wp_guard, bmOk_sw, bmOk_sp, bmOk_jn, bmOk_zf, bm_sw, bm_zf, bm_sp, wpS_setS, textOf_s, D.int.injEq, wp_alloc, wp_ifb]
  refine readAmount (n := n + 1) hl fun m => ?_
  have := q m
  cases e : readA x with
  | none =>
    rw [e] at this
    refine ⟨by omega, by omega, fun m2 => ?_⟩
    have z := q (m ++ m2)
    rw [e] at z
    rw [List.append_assoc]
    exact z
  | some z =>
    obtain ⟨u, p⟩ := z
    rw [e] at this
    exact this
theorem atI_nat {α : Type} {xs : List α} {k : Nat} (hk : k < xs.length) : atI xs (k : Int) = some xs[k] := by
  unfold atI place
  rw [if_pos (by omega), if_pos (by omega)]
  simp [hk]
/-- one text tried -/
theorem inner {sv : D} {ns : List Int} {t r b l : Nat} {x : List Nat} {ds : List D} {a2 a3 a4 a5 a6 a7 a8 a9 a11 : Option D} {R : Flow → Fr → Sto → Prop} (hl : x.length ≤ 28) (L : Lw b ns sv t r h) (hx : h[l]? = some (.lst ds))
    (k : ∀ h' y7, Lw b ns sv t r h' → h'[l]? = some (.lst ds) → R .next [some sv, some (.ref t), a2, a3, a4, a5, a6, y7, a8, a9, some (.str x), a11] h') :
    wpS (exS (gOf pg (n + 4) o) innerS) [some sv, some (.ref t), a2, a3, a4, a5, a6, a7, a8, a9, some (.str x), a11] h R := by
  have lt : l < h.length := (List.getElem?_eq_some_iff.mp hx).1
  have kp : ∀ m : Sto, (h ++ m)[l]? = some (.lst ds) := fun m => by rw [List.getElem?_append_left lt]; exact hx
  simp only [innerS, wpS_seq, wpS_set]
  refine hear (i := 10) (x := x) rfl hl fun m => ?_
  cases e : readA x with
  | none =>
    simp only [wpS_seq, wpS_set, wpS_setT, wpS_par, wpS_ret, wpS_ite, wpS_pas, wpS_exp, wpS_setI, seqK, evE, evA, wp_bnd, wp_ofO, wp_ret, wp_look, getV_cons_zero, getV_cons_succ, List.set_cons_zero, List.set_cons_succ, Option.some.injEq, exists_eq_left', Option.map_some, bin_add, bin_sub, bin_mul, bin_fdiv, bin_mod, bin_pow, wp_ite_ret, endK, idx_t0, idx_t1, idx_t2, cmp_lt, cmp_le, cmp_gt, cmp_ge, cmp_eqI, cmp_neI, truth_bl, truth_int, truth_str, truth_tup, truth_non, bf_abs, bf_max, tup_ok, setTg, setMany, List.cons_append, List.nil_append, gcall, wpS_rai, eqD_t2, eqD_s1, eqD_st, eqD_int, eqD_bl, eqD_str, cmp_eqD, cmp_neD, gOf_low, wp_fmt, wp_fnil, wp_fcons, wp_asB, wp_asN, isNo, sl_str, wp_guard, bmOk_sw, bmOk_sp, bmOk_jn, bmOk_zf, bm_sw, bm_zf, bm_sp, wpS_setS, textOf_s, D.int.injEq, wp_alloc, wp_ifb]
    have e1 : decide (([110, 111, 32, 116, 101, 120, 116] : List Nat) = [116, 111, 108, 100]) = false := by decide
    have e2 : inD (h ++ m) (.str [110, 111, 32, 116, 101, 120, 116]) (.tup [.str [116, 111, 108, 100], .str [110, 111, 32, 116, 101, 120, 116]]) = some true := by
      simp [inD, flat, eqv]
    have e3 : ∀ z : Bool, inD (h ++ m) (.str [110, 111, 32, 116, 101, 120, 116]) (.tup [.str [116, 111, 108, 100], .str [110, 111, 32, 116, 101, 120, 116]]) = some true := fun _ => e2
    simp only [wpS_seq, wpS_set, wpS_setT, wpS_par, wpS_ret, wpS_ite, wpS_pas, wpS_exp, wpS_setI, seqK, evE, evA, wp_bnd, wp_ofO, wp_ret, wp_look, getV_cons_zero, getV_cons_succ, List.set_cons_zero, List.set_cons_succ, Option.some.injEq, exists_eq_left', Option.map_some, bin_add, bin_sub, bin_mul, bin_fdiv, bin_mod, bin_pow, wp_ite_ret, endK, idx_t0, idx_t1, idx_t2, cmp_lt, cmp_le, cmp_gt, cmp_ge, cmp_eqI, cmp_neI, truth_bl, truth_int, truth_str, truth_tup, truth_non, bf_abs, bf_max, tup_ok, setTg, setMany, List.cons_append, List.nil_append, gcall, wpS_rai, eqD_t2, eqD_s1, eqD_st, eqD_int, eqD_bl, eqD_str, cmp_eqD, cmp_neD, gOf_low, wp_fmt, wp_fnil, wp_fcons, wp_asB, wp_asN, isNo, sl_str, wp_guard, bmOk_sw, bmOk_sp, bmOk_jn, bmOk_zf, bm_sw, bm_zf, bm_sp, wpS_setS, textOf_s, D.int.injEq, wp_alloc, wp_ifb, e1, Bool.false_eq_true, if_false, cmpD, e2, Bool.not_true]
    exact ⟨lim_ok (by simp), k _ _ (L.app m) (kp m)⟩
  | some z =>
    obtain ⟨u, p⟩ := z
    obtain ⟨tx, hp⟩ := readA_text e
    have hu : u.natAbs < 10 ^ 30 := by
      unfold readA at e
      obtain ⟨k1, e⟩ := none_else e
      unfold finA at e
      obtain ⟨_, e⟩ := none_else e
      simp only [not_or, Bool.not_eq_false] at k1
      have hlen : ((splitC 46 (if [45].isPrefixOf x = true then x.drop 1 else x)).headD [] ++ ((splitC 46 (if [45].isPrefixOf x = true then x.drop 1 else x)).drop 1).flatten).length ≤ 28 := by
        have hb : (if [45].isPrefixOf x = true then x.drop 1 else x).length ≤ 28 := by
          split
          · simp; omega
          · exact hl
        obtain ⟨w, rs, ew, hw⟩ := split_parts 46 (if [45].isPrefixOf x = true then x.drop 1 else x)
        rw [ew]
        exact Nat.le_trans hw hb
      have key : ∀ F : List Nat, F.length ≤ 28 → F.all dig = true → ∀ g : Bool, ((if g = true then -(valN F 0 : Int) else (valN F 0 : Int)) : Int).natAbs < 10 ^ 30 := fun F h1 h2 g => by
        have hv := val_lt F 0 h2
        have h3 := Nat.pow_le_pow_right (show 0 < 10 by decide) h1
        split <;> omega
      cases e
      exact key _ hlen k1.2.2.2 _
    have e1 : decide (([116, 111, 108, 100] : List Nat) = [116, 111, 108, 100]) = true := by decide
    have e2 : inD (h ++ m) (.str [116, 111, 108, 100]) (.tup [.str [116, 111, 108, 100], .str [110, 111, 32, 116, 101, 120, 116]]) = some true := by
      simp [inD, flat, eqv]
    simp only [wpS_seq, wpS_set, wpS_setT, wpS_par, wpS_ret, wpS_ite, wpS_pas, wpS_exp, wpS_setI, seqK, evE, evA, wp_bnd, wp_ofO, wp_ret, wp_look, getV_cons_zero, getV_cons_succ, List.set_cons_zero, List.set_cons_succ, Option.some.injEq, exists_eq_left', Option.map_some, bin_add, bin_sub, bin_mul, bin_fdiv, bin_mod, bin_pow, wp_ite_ret, endK, idx_t0, idx_t1, idx_t2, cmp_lt, cmp_le, cmp_gt, cmp_ge, cmp_eqI, cmp_neI, truth_bl, truth_int, truth_str, truth_tup, truth_non, bf_abs, bf_max, tup_ok, setTg, setMany, List.cons_append, List.nil_append, gcall, wpS_rai, eqD_t2, eqD_s1, eqD_st, eqD_int, eqD_bl, eqD_str, cmp_eqD, cmp_neD, gOf_low, wp_fmt, wp_fnil, wp_fcons, wp_asB, wp_asN, isNo, sl_str, wp_guard, bmOk_sw, bmOk_sp, bmOk_jn, bmOk_zf, bm_sw, bm_zf, bm_sp, wpS_setS, textOf_s, D.int.injEq, wp_alloc, wp_ifb, e1, if_true]
    simp only [wpS_seq, wpS_set, wpS_setT, wpS_par, wpS_ret, wpS_ite, wpS_pas, wpS_exp, wpS_setI, seqK, evE, evA, wp_bnd, wp_ofO, wp_ret, wp_look, getV_cons_zero, getV_cons_succ, List.set_cons_zero, List.set_cons_succ, Option.some.injEq, exists_eq_left', Option.map_some, bin_add, bin_sub, bin_mul, bin_fdiv, bin_mod, bin_pow, wp_ite_ret, endK, idx_t0, idx_t1, idx_t2, cmp_lt, cmp_le, cmp_gt, cmp_ge, cmp_eqI, cmp_neI, truth_bl, truth_int, truth_str, truth_tup, truth_non, bf_abs, bf_max, tup_ok, setTg, setMany, List.cons_append, List.nil_append, gcall, wpS_rai, eqD_t2, eqD_s1, eqD_st, eqD_int, eqD_bl, eqD_str, cmp_eqD, cmp_neD, gOf_low, wp_fmt, wp_fnil, wp_fcons, wp_asB, wp_asN, isNo, sl_str, wp_guard, bmOk_sw, bmOk_sp, bmOk_jn, bmOk_zf, bm_sw, bm_zf, bm_sp, wpS_setS, textOf_s, D.int.injEq, wp_alloc, wp_ifb, decide_true, if_true]
    refine (written hu (by omega)).mono fun d h' ⟨e3, e4⟩ => ?_
    subst e3 e4
    simp only [wpS_seq, wpS_set, wpS_setT, wpS_par, wpS_ret, wpS_ite, wpS_pas, wpS_exp, wpS_setI, seqK, evE, evA, wp_bnd, wp_ofO, wp_ret, wp_look, getV_cons_zero, getV_cons_succ, List.set_cons_zero, List.set_cons_succ, Option.some.injEq, exists_eq_left', Option.map_some, bin_add, bin_sub, bin_mul, bin_fdiv, bin_mod, bin_pow, wp_ite_ret, endK, idx_t0, idx_t1, idx_t2, cmp_lt, cmp_le, cmp_gt, cmp_ge, cmp_eqI, cmp_neI, truth_bl, truth_int, truth_str, truth_tup, truth_non, bf_abs, bf_max, tup_ok, setTg, setMany, List.cons_append, List.nil_append, gcall, wpS_rai, eqD_t2, eqD_s1, eqD_st, eqD_int, eqD_bl, eqD_str, cmp_eqD, cmp_neD, gOf_low, wp_fmt, wp_fnil, wp_fcons, wp_asB, wp_asN, isNo, sl_str, wp_guard, bmOk_sw, bmOk_sp, bmOk_jn, bmOk_zf, bm_sw, bm_zf, bm_sp, wpS_setS, textOf_s, D.int.injEq, wp_alloc, wp_ifb, tx, decide_true, Bool.not_true, Bool.false_eq_true, if_false, cmpD, e2]
    exact ⟨lim_ok (by simp), k _ _ (L.app m) (kp m)⟩
theorem curOf_last {ds : List D} : curOf (h ++ [.lst ds]) .val [.ref h.length] = some (fun h' i => match h'[h.length]? with
    | some (.lst ds) => some ds[i]?
    | _ => none) := by
  have e : (h ++ [Obj.lst ds])[h.length]? = some (.lst ds) := by simp
  show (match (h ++ [Obj.lst ds])[h.length]? with
    | some (.lst _) => some (fun (h' : Sto) (i : Nat) => (match h'[h.length]? with
      | some (.lst ds) => some ds[i]?
      | _ => none))
    | _ => none) = _
  rw [e]
/-- one place, one sign -/
theorem mid {sv : D} {ns : List Int} {t r b : Nat} {x : List Nat} {a2 a3 a4 a5 a6 a7 a8 a10 a11 : Option D} {R : Flow → Fr → Sto → Prop} (hn : ns.length ≤ 63) (hl : x.length ≤ 25) (L : Lw (b + 2) ns sv t r h)
    (k : ∀ h' y5 y6 y7 y10, Lw b ns sv t r h' → R .next [some sv, some (.ref t), a2, a3, a4, y5, y6, y7, a8, some (.str x), y10, a11] h') :
    wpS (exS (gOf pg (n + 4) o) midS) [some sv, some (.ref t), a2, a3, a4, a5, a6, a7, a8, some (.str x), a10, a11] h R := by
  simp only [midS, wpS_seq, wpS_set, wpS_setT, wpS_par, wpS_ret, wpS_ite, wpS_pas, wpS_exp, wpS_setI, seqK, evE, evA, wp_bnd, wp_ofO, wp_ret, wp_look, getV_cons_zero, getV_cons_succ, List.set_cons_zero, List.set_cons_succ, Option.some.injEq, exists_eq_left', Option.map_some, bin_add, bin_sub, bin_mul, bin_fdiv, bin_mod, bin_pow, wp_ite_ret, endK, idx_t0, idx_t1, idx_t2, cmp_lt, cmp_le, cmp_gt, cmp_ge, cmp_eqI, cmp_neI, truth_bl, truth_int, truth_str, truth_tup, truth_non, bf_abs, bf_max, tup_ok, setTg, setMany, List.cons_append, List.nil_append, gcall, wpS_rai, eqD_t2, eqD_s1, eqD_st, eqD_int, eqD_bl, eqD_str, cmp_eqD, cmp_neD, gOf_low, wp_fmt, wp_fnil, wp_fcons, wp_asB, wp_asN, isNo, sl_str, wp_guard, bmOk_sw, bmOk_sp, bmOk_jn, bmOk_zf, bm_sw, bm_zf, bm_sp, wpS_setS, textOf_s, D.int.injEq, wp_alloc, wp_ifb, len_str]
  refine (draw (b := b + 1) (by omega) (by omega) hn L).mono fun d h1 ⟨v, e1, hv, L1, _⟩ => ?_
  subst e1
  refine (draw (b := b) (by omega) (by omega) hn L1).mono fun d h2 ⟨w, e1, hw, L2, _⟩ => ?_
  subst e1
  have hw2 : w < 9 := by omega
  have ei : idxD h2 (.str [48, 49, 50, 51, 46, 45, 45, 32, 97]) (.int w) = some (.str [([48, 49, 50, 51, 46, 45, 45, 32, 97] : List Nat)[w]]) := by
    show (atI _ _).map _ = _
    rw [atI_nat (show w < ([48, 49, 50, 51, 46, 45, 45, 32, 97] : List Nat).length by simpa using hw2)]
    rfl
  generalize ([48, 49, 50, 51, 46, 45, 45, 32, 97] : List Nat)[w] = c at ei
  have s1 : slice x none (some (v : Int)) = x.take v := by rw [slice_hi x (by omega), Int.toNat_natCast]
  have s2 : slice x (some (v : Int)) none = x.drop v := by rw [slice_lo x (by omega), Int.toNat_natCast]
  have s3 : slice x (some ((v : Int) + 1)) none = x.drop (v + 1) := by rw [slice_lo x (by omega)]; rfl
  have l1 : (x.take v).length ≤ 25 := by simp; omega
  have l2 : (x.drop v).length ≤ 25 := by simp; omega
  have l3 : (x.drop (v + 1)).length ≤ 25 := by simp; omega
  have t1 : (x.take v ++ [c] ++ x.drop v).length ≤ 28 := by simp; omega
  have t2 : (x.take v ++ x.drop (v + 1)).length ≤ 28 := by simp; omega
  have t3 : (x.take v ++ [c] ++ x.drop (v + 1)).length ≤ 28 := by simp; omega
  simp only [wpS_seq, wpS_set, wpS_setT, wpS_par, wpS_ret, wpS_ite, wpS_pas, wpS_exp, wpS_setI, seqK, evE, evA, wp_bnd, wp_ofO, wp_ret, wp_look, getV_cons_zero, getV_cons_succ, List.set_cons_zero, List.set_cons_succ, Option.some.injEq, exists_eq_left', Option.map_some, bin_add, bin_sub, bin_mul, bin_fdiv, bin_mod, bin_pow, wp_ite_ret, endK, idx_t0, idx_t1, idx_t2, cmp_lt, cmp_le, cmp_gt, cmp_ge, cmp_eqI, cmp_neI, truth_bl, truth_int, truth_str, truth_tup, truth_non, bf_abs, bf_max, tup_ok, setTg, setMany, List.cons_append, List.nil_append, gcall, wpS_rai, eqD_t2, eqD_s1, eqD_st, eqD_int, eqD_bl, eqD_str, cmp_eqD, cmp_neD, gOf_low, wp_fmt, wp_fnil, wp_fcons, wp_asB, wp_asN, isNo, sl_str, wp_guard, bmOk_sw, bmOk_sp, bmOk_jn, bmOk_zf, bm_sw, bm_zf, bm_sp, wpS_setS, textOf_s, D.int.injEq, wp_alloc, wp_ifb, ei, wpS_for, s1, s2, s3, bin_addS]
  refine ⟨lim40 (by simp only [List.length_cons, List.length_nil]; omega), lim40 (by simp only [List.length_append, List.length_cons, List.length_nil]; omega), lim40 (by omega), lim40 (by simp only [List.length_cons, List.length_nil]; omega), lim40 (by simp only [List.length_append, List.length_cons, List.length_nil]; omega), lim_ok (by simp), ?_⟩
  refine ⟨_, curOf_last, ?_⟩
  refine wpS_loop (N := 3) (fun i σ h' => ∃ y7 y10, σ = [some sv, some (.ref t), a2, a3, a4, some (.int v), some (.str [c]), y7, a8, some (.str x), y10, a11] ∧ Lw b ns sv t r h' ∧ h'[h2.length]? = some (.lst [.str (x.take v ++ [c] ++ x.drop v), .str (x.take v ++ x.drop (v + 1)), .str (x.take v ++ [c] ++ x.drop (v + 1))])) ⟨_, _, rfl, L2.app _, by simp⟩ (by show 3 < 1000000000; omega) (fun i σ h' hi ⟨y7, y10, hs, L3, hx⟩ => ?_) (fun σ h' ⟨y7, y10, hs, L3, hx⟩ => ?_)
  · subst hs
    have go : ∀ z : List Nat, z.length ≤ 28 → wpS (exS (gOf pg (n + 4) o) innerS) [some sv, some (.ref t), a2, a3, a4, some (.int v), some (.str [c]), y7, a8, some (.str x), some (.str z), a11] h' (turnK (fun i σ h' => ∃ y7 y10, σ = [some sv, some (.ref t), a2, a3, a4, some (.int v), some (.str [c]), y7, a8, some (.str x), y10, a11] ∧ Lw b ns sv t r h' ∧ h'[h2.length]? = some (.lst [.str (x.take v ++ [c] ++ x.drop v), .str (x.take v ++ x.drop (v + 1)), .str (x.take v ++ [c] ++ x.drop (v + 1))])) R i) := fun z hz => by
      refine inner hz L3 hx ?_
      intro h3 z7 L4 hx4
      exact ⟨_, _, rfl, L4, hx4⟩
    have hi : i = 0 ∨ i = 1 ∨ i = 2 := by omega
    rcases hi with rfl | rfl | rfl
    · exact ⟨_, _, by rw [hx]; rfl, rfl, go _ t1⟩
    · exact ⟨_, _, by rw [hx]; rfl, rfl, go _ t2⟩
    · exact ⟨_, _, by rw [hx]; rfl, rfl, go _ t3⟩
  · subst hs
    exact ⟨by rw [hx]; rfl, k _ _ _ _ _ L3⟩
/-- one amount -/
theorem out {sv : D} {ns : List Int} {t r b : Nat} {a2 a3 a4 a5 a6 a7 a8 a9 a10 a11 : Option D} {R : Flow → Fr → Sto → Prop} (hn : ns.length ≤ 63) (L : Lw (b + 12 + 12) ns sv t r h)
    (k : ∀ h' y3 y4 y5 y6 y7 y9 y10, Lw b ns sv t r h' → R .next [some sv, some (.ref t), a2, y3, y4, y5, y6, y7, a8, y9, y10, a11] h') :
    wpS (exS (gOf pg (n + 4) o) outS) [some sv, some (.ref t), a2, a3, a4, a5, a6, a7, a8, a9, a10, a11] h R := by
  simp only [outS, wpS_seq, wpS_set, wpS_setT, wpS_par, wpS_ret, wpS_ite, wpS_pas, wpS_exp, wpS_setI, seqK, evE, evA, wp_bnd, wp_ofO, wp_ret, wp_look, getV_cons_zero, getV_cons_succ, List.set_cons_zero, List.set_cons_succ, Option.some.injEq, exists_eq_left', Option.map_some, bin_add, bin_sub, bin_mul, bin_fdiv, bin_mod, bin_pow, wp_ite_ret, endK, idx_t0, idx_t1, idx_t2, cmp_lt, cmp_le, cmp_gt, cmp_ge, cmp_eqI, cmp_neI, truth_bl, truth_int, truth_str, truth_tup, truth_non, bf_abs, bf_max, tup_ok, setTg, setMany, List.cons_append, List.nil_append, gcall, wpS_rai, eqD_t2, eqD_s1, eqD_st, eqD_int, eqD_bl, eqD_str, cmp_eqD, cmp_neD, gOf_low, wp_fmt, wp_fnil, wp_fcons, wp_asB, wp_asN, isNo, sl_str, wp_guard, bmOk_sw, bmOk_sp, bmOk_jn, bmOk_zf, bm_sw, bm_zf, bm_sp, wpS_setS, textOf_s, D.int.injEq, wp_alloc, wp_ifb]
  refine (anAmount (b := b + 12) hn L).mono fun d h1 ⟨u, p, e1, hu, hp, L1⟩ => ?_
  subst e1
  refine (written (by omega) (by omega)).mono fun d h' ⟨e3, e4⟩ => ?_
  subst e3 e4
  refine (amountText (by omega) (by omega)).mono fun d h' ⟨e3, e4⟩ => ?_
  subst e3 e4
  have hl := textA_len (u := u) (p := p) hu (by decide)
  simp only [wpS_seq, wpS_set, wpS_setT, wpS_par, wpS_ret, wpS_ite, wpS_pas, wpS_exp, wpS_setI, seqK, evE, evA, wp_bnd, wp_ofO, wp_ret, wp_look, getV_cons_zero, getV_cons_succ, List.set_cons_zero, List.set_cons_succ, Option.some.injEq, exists_eq_left', Option.map_some, bin_add, bin_sub, bin_mul, bin_fdiv, bin_mod, bin_pow, wp_ite_ret, endK, idx_t0, idx_t1, idx_t2, cmp_lt, cmp_le, cmp_gt, cmp_ge, cmp_eqI, cmp_neI, truth_bl, truth_int, truth_str, truth_tup, truth_non, bf_abs, bf_max, tup_ok, setTg, setMany, List.cons_append, List.nil_append, gcall, wpS_rai, eqD_t2, eqD_s1, eqD_st, eqD_int, eqD_bl, eqD_str, cmp_eqD, cmp_neD, gOf_low, wp_fmt, wp_fnil, wp_fcons, wp_asB, wp_asN, isNo, sl_str, wp_guard, bmOk_sw, bmOk_sp, bmOk_jn, bmOk_zf, bm_sw, bm_zf, bm_sp, wpS_setS, textOf_s, D.int.injEq, wp_alloc, wp_ifb, decide_true, Bool.not_true, Bool.false_eq_true, if_false]
  refine readAmount (n := n + 2) (by omega) fun m => ?_
  rw [read_textA (by omega)]
  simp only [wpS_seq, wpS_set, wpS_setT, wpS_par, wpS_ret, wpS_ite, wpS_pas, wpS_exp, wpS_setI, seqK, evE, evA, wp_bnd, wp_ofO, wp_ret, wp_look, getV_cons_zero, getV_cons_succ, List.set_cons_zero, List.set_cons_succ, Option.some.injEq, exists_eq_left', Option.map_some, bin_add, bin_sub, bin_mul, bin_fdiv, bin_mod, bin_pow, wp_ite_ret, endK, idx_t0, idx_t1, idx_t2, cmp_lt, cmp_le, cmp_gt, cmp_ge, cmp_eqI, cmp_neI, truth_bl, truth_int, truth_str, truth_tup, truth_non, bf_abs, bf_max, tup_ok, setTg, setMany, List.cons_append, List.nil_append, gcall, wpS_rai, eqD_t2, eqD_s1, eqD_st, eqD_int, eqD_bl, eqD_str, cmp_eqD, cmp_neD, gOf_low, wp_fmt, wp_fnil, wp_fcons, wp_asB, wp_asN, isNo, sl_str, wp_guard, bmOk_sw, bmOk_sp, bmOk_jn, bmOk_zf, bm_sw, bm_zf, bm_sp, wpS_setS, textOf_s, D.int.injEq, wp_alloc, wp_ifb, beq_self_eq_true, Bool.and_self, Bool.not_true, Bool.false_eq_true, if_false, wpS_for, curOf]
  rw [if_pos (by constructor <;> omega)]
  refine ⟨_, rfl, ?_⟩
  refine wpS_loop (N := 6) (fun i σ h' => ∃ y4 y5 y6 y7 y10, σ = [some sv, some (.ref t), a2, some (am u p), y4, y5, y6, y7, a8, some (.str (textA u p)), y10, a11] ∧ Lw (b + 2 * (6 - i)) ns sv t r h') ⟨_, _, _, _, _, rfl, L1.app m⟩ (by show 6 < 1000000000; omega) (fun i σ h' hi ⟨y4, y5, y6, y7, y10, hs, L3⟩ => ?_) (fun σ h' ⟨y4, y5, y6, y7, y10, hs, L3⟩ => ?_)
  · subst hs
    refine ⟨.int i, [some sv, some (.ref t), a2, some (am u p), some (.int i), y5, y6, y7, a8, some (.str (textA u p)), y10, a11], by rw [if_pos (by omega)], rfl, ?_⟩
    have eb : b + 2 * (6 - i) = b + 2 * (6 - (i + 1)) + 2 := by omega
    rw [eb] at L3
    refine mid hn (by omega) L3 ?_
    intro h3 z5 z6 z7 z10 L4
    exact ⟨_, _, _, _, _, rfl, L4⟩
  · subst hs
    exact ⟨by rw [if_neg (by omega)], k _ _ _ _ _ _ _ _ (by simpa using L3)⟩
end
end K02

set_option Elab.async false
set_option linter.all false
set_option autoImplicit false
set_option maxRecDepth 100000
set_option maxHeartbeats 1000000
/-! K02B: texts by hand. -/
namespace K02
open Mi
def bad1 : List (List Nat) := [[], [45], [46], [49, 46], [46, 53], [45, 46, 53], [48, 49], [48, 48, 46, 49], [45, 48], [45, 48, 46, 48, 48], [43, 49], [49, 46, 50, 46, 51], [49, 32], [32, 49], [45, 45, 49], [49, 45], [49, 44, 53]]
def bad2 : List (List Nat) := [[48, 46] ++ rep [49] 19, [97], [49, 101, 51]]
def noT : List Nat := [110, 111, 32, 116, 101, 120, 116]
theorem bad_no : ∀ x ∈ bad1 ++ bad2, readA x = none ∧ x.length ≤ 28 := by decide +kernel
theorem bad_len : (bad1 ++ bad2).length = 20 := by decide +kernel
end K02

set_option Elab.async false
set_option linter.all false
set_option autoImplicit false
set_option maxRecDepth 100000
set_option maxHeartbeats 1000000
/-! K02O: texts by hand, the law. -/
namespace K02
open Mi
section
variable {n : Nat} {o : M D} {h : Sto}
theorem ev_cst {g : G} {d : D} {σ : Fr} : evE g (.cst d) σ = ret d := by rw [evE]
theorem comp1 {sv : D} {t l : Nat} {a2 a3 a4 a5 a6 a7 a9 a10 a11 : Option D} {bs : List (List Nat)} (hb : ∀ x ∈ bs, readA x = none ∧ x.length ≤ 28) (hlen : bs.length = 20) (hx : h[l]? = some (.lst (bs.map .str))) :
    wp (evE (gOf pg (n + 4) o) (.lc (.one 9) .val (.cons (.var 8) .nil) (.cst (.bl true)) (.hrd 5 .nil (.call 1 (.cons (.var 9) .nil))) [11, 9]) [some sv, some (.ref t), a2, a3, a4, a5, a6, a7, some (.ref l), a9, a10, a11]) h fun d h' => ∃ m, d = .ref (h ++ m).length ∧ h' = h ++ m ++ [.lst (List.replicate 20 (.tup [.str noT]))] := by
  have lt : l < h.length := (List.getElem?_eq_some_iff.mp hx).1
  have kp : ∀ m : Sto, (h ++ m)[l]? = some (.lst (bs.map .str)) := fun m => by rw [List.getElem?_append_left lt]; exact hx
  unfold wp
  rw [wp_lc]
  simp only [wpS_seq, wpS_set, wpS_setT, wpS_par, wpS_ret, wpS_ite, wpS_pas, wpS_exp, wpS_setI, seqK, evE, evA, wp_bnd, wp_ofO, wp_ret, wp_look, getV_cons_zero, getV_cons_succ, List.set_cons_zero, List.set_cons_succ, Option.some.injEq, exists_eq_left', Option.map_some, bin_add, bin_sub, bin_mul, bin_fdiv, bin_mod, bin_pow, wp_ite_ret, endK, idx_t0, idx_t1, idx_t2, cmp_lt, cmp_le, cmp_gt, cmp_ge, cmp_eqI, cmp_neI, truth_bl, truth_int, truth_str, truth_tup, truth_non, bf_abs, bf_max, tup_ok, setTg, setMany, List.cons_append, List.nil_append, gcall, wpS_rai, eqD_t2, eqD_s1, eqD_st, eqD_int, eqD_bl, eqD_str, cmp_eqD, cmp_neD, gOf_low, wp_fmt, wp_fnil, wp_fcons, wp_asB, wp_asN, isNo, sl_str, wp_guard, bmOk_sw, bmOk_sp, bmOk_jn, bmOk_zf, bm_sw, bm_zf, bm_sp, wpS_setS, textOf_s, D.int.injEq, wp_alloc, wp_ifb]
  have ec : curOf h .val [.ref l] = some (fun h' i => match h'[l]? with
      | some (.lst ds) => some ds[i]?
      | _ => none) := by
    show (match h[l]? with
      | some (.lst _) => some (fun (h' : Sto) (i : Nat) => (match h'[l]? with
        | some (.lst ds) => some ds[i]?
        | _ => none))
      | _ => none) = _
    rw [hx]
  refine ⟨_, ec, ?_⟩
  refine wp_lcL (N := 20) (fun i acc h' => acc = List.replicate i (.tup [.str noT]) ∧ ∃ m, h' = h ++ m) ⟨rfl, [], by simp⟩ (by show 20 < 1000000000; omega) (fun i acc h' hi ⟨e1, m, e2⟩ => ?_) (fun acc h' ⟨e1, m, e2⟩ => ?_)
  · subst e1 e2
    have hi2 : i < bs.length := by rw [hlen]; exact hi
    obtain ⟨b1, b2⟩ := hb _ (List.getElem_mem hi2)
    refine ⟨.str bs[i], [some sv, some (.ref t), a2, a3, a4, a5, a6, a7, some (.ref l), some (.str bs[i]), a10, none], by
      rw [kp]
      show some ((bs.map D.str)[i]?) = _
      rw [List.getElem?_map, List.getElem?_eq_getElem hi2]
      rfl, rfl, ?_⟩
    simp only [wp_evT, ev_cst, wp_ret, truth_bl, Option.some.injEq, exists_eq_left', if_true]
    refine hear (o := o) (i := 9) (x := bs[i]) (by rfl) b2 fun m2 => ?_
    rw [b1]
    refine ⟨by rw [List.length_replicate]; exact Nat.lt_of_lt_of_le (show i < 1000 by omega) (by unfold lim; omega), by rw [List.replicate_succ']; rfl, _, by rw [List.append_assoc]⟩
  · subst e1 e2
    refine ⟨by
      rw [kp]
      show some ((bs.map D.str)[20]?) = _
      rw [List.getElem?_eq_none (by simp [hlen])], m, rfl, rfl⟩
theorem comp2 {sv : D} {t l : Nat} {a2 a3 a4 a5 a6 a7 a9 a10 a11 : Option D} {bs : List (List Nat)} (hb : ∀ x ∈ bs, readA x = none ∧ x.length ≤ 28) (hlen : bs.length = 20) (hx : h[l]? = some (.lst (bs.map .str))) :
    wp (evE (gOf pg (n + 4) o) (.lc (.one 9) .val (.cons (.var 8) .nil) (.cst (.bl true)) (.tup (.cons (.cst (.str [110, 111, 32, 116, 101, 120, 116])) .nil)) [11, 9]) [some sv, some (.ref t), a2, a3, a4, a5, a6, a7, some (.ref l), a9, a10, a11]) h fun d h' => d = .ref h.length ∧ h' = h ++ [.lst (List.replicate 20 (.tup [.str noT]))] := by
  unfold wp
  rw [wp_lc]
  simp only [wpS_seq, wpS_set, wpS_setT, wpS_par, wpS_ret, wpS_ite, wpS_pas, wpS_exp, wpS_setI, seqK, evE, evA, wp_bnd, wp_ofO, wp_ret, wp_look, getV_cons_zero, getV_cons_succ, List.set_cons_zero, List.set_cons_succ, Option.some.injEq, exists_eq_left', Option.map_some, bin_add, bin_sub, bin_mul, bin_fdiv, bin_mod, bin_pow, wp_ite_ret, endK, idx_t0, idx_t1, idx_t2, cmp_lt, cmp_le, cmp_gt, cmp_ge, cmp_eqI, cmp_neI, truth_bl, truth_int, truth_str, truth_tup, truth_non, bf_abs, bf_max, tup_ok, setTg, setMany, List.cons_append, List.nil_append, gcall, wpS_rai, eqD_t2, eqD_s1, eqD_st, eqD_int, eqD_bl, eqD_str, cmp_eqD, cmp_neD, gOf_low, wp_fmt, wp_fnil, wp_fcons, wp_asB, wp_asN, isNo, sl_str, wp_guard, bmOk_sw, bmOk_sp, bmOk_jn, bmOk_zf, bm_sw, bm_zf, bm_sp, wpS_setS, textOf_s, D.int.injEq, wp_alloc, wp_ifb]
  have ec : curOf h .val [.ref l] = some (fun h' i => match h'[l]? with
      | some (.lst ds) => some ds[i]?
      | _ => none) := by
    show (match h[l]? with
      | some (.lst _) => some (fun (h' : Sto) (i : Nat) => (match h'[l]? with
        | some (.lst ds) => some ds[i]?
        | _ => none))
      | _ => none) = _
    rw [hx]
  refine ⟨_, ec, ?_⟩
  refine wp_lcL (N := 20) (fun i acc h' => acc = List.replicate i (.tup [.str noT]) ∧ h' = h) ⟨rfl, rfl⟩ (by show 20 < 1000000000; omega) (fun i acc h' hi ⟨e1, e2⟩ => ?_) (fun acc h' ⟨e1, e2⟩ => ?_)
  · subst e1 e2
    have hi2 : i < bs.length := by rw [hlen]; exact hi
    refine ⟨.str bs[i], [some sv, some (.ref t), a2, a3, a4, a5, a6, a7, some (.ref l), some (.str bs[i]), a10, none], by
      rw [hx]
      show some ((bs.map D.str)[i]?) = _
      rw [List.getElem?_map, List.getElem?_eq_getElem hi2]
      rfl, rfl, ?_⟩
    simp only [wp_evT, wpS_seq, wpS_set, wpS_setT, wpS_par, wpS_ret, wpS_ite, wpS_pas, wpS_exp, wpS_setI, seqK, evE, evA, wp_bnd, wp_ofO, wp_ret, wp_look, getV_cons_zero, getV_cons_succ, List.set_cons_zero, List.set_cons_succ, Option.some.injEq, exists_eq_left', Option.map_some, bin_add, bin_sub, bin_mul, bin_fdiv, bin_mod, bin_pow, wp_ite_ret, endK, idx_t0, idx_t1, idx_t2, cmp_lt, cmp_le, cmp_gt, cmp_ge, cmp_eqI, cmp_neI, truth_bl, truth_int, truth_str, truth_tup, truth_non, bf_abs, bf_max, tup_ok, setTg, setMany, List.cons_append, List.nil_append, gcall, wpS_rai, eqD_t2, eqD_s1, eqD_st, eqD_int, eqD_bl, eqD_str, cmp_eqD, cmp_neD, gOf_low, wp_fmt, wp_fnil, wp_fcons, wp_asB, wp_asN, isNo, sl_str, wp_guard, bmOk_sw, bmOk_sp, bmOk_jn, bmOk_zf, bm_sw, bm_zf, bm_sp, wpS_setS, textOf_s, D.int.injEq, wp_alloc, wp_ifb, if_true]
    exact ⟨lim_ok (by simp), by rw [List.length_replicate]; exact Nat.lt_of_lt_of_le (show i < 1000 by omega) (by unfold lim; omega), by rw [List.replicate_succ']; rfl, trivial⟩
  · subst e1 e2
    exact ⟨by
      rw [hx]
      show some ((bs.map D.str)[20]?) = _
      rw [List.getElem?_eq_none (by simp [hlen])], rfl, rfl⟩
theorem deep_rep (k : Nat) (s : List Nat) : ∀ m, (List.replicate m (D.tup [.str s])).mapM (deep h (k + 2)) = some (List.replicate m (D.tup [.str s]))
  | 0 => rfl
  | m + 1 => by
    rw [List.replicate_succ, List.mapM_cons, deep_rep k s m]
    rfl
theorem eqvs_rep (s : List Nat) : ∀ m, eqvs (List.replicate m (D.tup [.str s])) (List.replicate m (D.tup [.str s])) = true
  | 0 => rfl
  | m + 1 => by
    have := eqvs_rep s m
    simp [List.replicate_succ, eqvs, eqv, this]
theorem eq_reps {l k m : Nat} {s : List Nat} (e1 : h[l]? = some (.lst (List.replicate m (.tup [.str s])))) (e2 : h[k]? = some (.lst (List.replicate m (.tup [.str s])))) : eqD h (.ref l) (.ref k) = some true := by
  have d : ∀ {l : Nat}, h[l]? = some (.lst (List.replicate m (.tup [.str s]))) → deep h 60 (.ref l) = some (.lst (List.replicate m (.tup [.str s]))) := fun {l} e => by
    show (match h[l]? with
      | some (.lst ds) => (ds.mapM (deep h 59)).map D.lst
      | _ => none) = _
    rw [e]
    show ((List.replicate m (.tup [.str s])).mapM (deep h 59)).map D.lst = _
    rw [deep_rep 57]
    rfl
  unfold eqD
  rw [d e1, d e2]
  show some (eqvs _ _) = _
  rw [eqvs_rep]
end
end K02

set_option Elab.async false
set_option linter.all false
set_option autoImplicit false
set_option maxRecDepth 100000
set_option maxHeartbeats 1000000
/-! K02P: the end. -/
namespace K02
open Mi
section
variable {n : Nat} {o : M D} {h : Sto}
theorem r18 : readA (48 :: 46 :: rep [49] 18) = some (111111111111111111, 18) := by decide +kernel
theorem i18 : intS (rep [49] 18) = some 111111111111111111 := by decide +kernel
theorem r50 : readA [45, 48, 46, 53, 48] = some (-50, 2) := by decide +kernel
theorem r0 : readA [48] = some (0, 0) := by decide +kernel
theorem t53 : textA 5 3 = [48, 46, 48, 48, 53] := by decide +kernel
theorem ends {sv : D} {t l : Nat} {a2 a3 a4 a5 a6 a7 a9 a10 a11 : Option D} {bs : List (List Nat)} (hb : ∀ x ∈ bs, readA x = none ∧ x.length ≤ 28) (hlen : bs.length = 20) (hx : h[l]? = some (.lst (bs.map .str))) :
    wpS (exS (gOf pg (n + 4) o) endS) [some sv, some (.ref t), a2, a3, a4, a5, a6, a7, some (.ref l), a9, a10, a11] h (endK fun d _ => d = .bl true) := by
  have lt : l < h.length := (List.getElem?_eq_some_iff.mp hx).1
  have ec : ∀ (c1 c2 : E) (σ : Fr) (Q : D → Sto → Prop) (h : Sto), wp (evE (gOf pg (n + 4) o) (.cmp .ne c1 c2) σ) h Q ↔ wp (evE (gOf pg (n + 4) o) c1 σ) h fun x h1 => wp (evE (gOf pg (n + 4) o) c2 σ) h1 fun y h2 => ∃ d, (cmpD h2 .ne x y).map D.bl = some d ∧ Q d h2 := fun c1 c2 σ Q h => by
    simp only [evE, wp_bnd, wp_look]
  simp only [endS, wpS_seq, wpS_ite, ec]
  refine (comp1 hb hlen hx).mono fun d h1 ⟨m, e1, e2⟩ => ?_
  subst e1
  have hx1 : h1[l]? = some (.lst (bs.map .str)) := by
    rw [e2, List.append_assoc, List.getElem?_append_left lt]
    exact hx
  refine (comp2 hb hlen hx1).mono fun d h2 ⟨e3, e4⟩ => ?_
  subst e3
  have g1 : h2[(h ++ m).length]? = some (.lst (List.replicate 20 (.tup [.str noT]))) := by
    rw [e4, e2, List.getElem?_append_left (by simp)]
    simp
  have g2 : h2[h1.length]? = some (.lst (List.replicate 20 (.tup [.str noT]))) := by
    rw [e4]
    simp
  refine ⟨_, by rw [cmp_neD, eq_reps g1 g2]; rfl, false, rfl, ?_⟩
  have l18 : (rep [49] 18).length = 18 := by decide +kernel
  simp only [Bool.false_eq_true, if_false, wpS_seq, wpS_set, wpS_setT, wpS_par, wpS_ret, wpS_ite, wpS_pas, wpS_exp, wpS_setI, seqK, evE, evA, wp_bnd, wp_ofO, wp_ret, wp_look, getV_cons_zero, getV_cons_succ, List.set_cons_zero, List.set_cons_succ, Option.some.injEq, exists_eq_left', Option.map_some, bin_add, bin_sub, bin_mul, bin_fdiv, bin_mod, bin_pow, wp_ite_ret, endK, idx_t0, idx_t1, idx_t2, cmp_lt, cmp_le, cmp_gt, cmp_ge, cmp_eqI, cmp_neI, truth_bl, truth_int, truth_str, truth_tup, truth_non, bf_abs, bf_max, tup_ok, setTg, setMany, List.cons_append, List.nil_append, gcall, wpS_rai, eqD_t2, eqD_s1, eqD_st, eqD_int, eqD_bl, eqD_str, cmp_eqD, cmp_neD, gOf_low, wp_fmt, wp_fnil, wp_fcons, wp_asB, wp_asN, isNo, sl_str, wp_guard, bmOk_sw, bmOk_sp, bmOk_jn, bmOk_zf, bm_sw, bm_zf, bm_sp, wpS_setS, textOf_s, D.int.injEq, wp_alloc, wp_ifb, bin_mulS, bin_addS, bf_int]
  refine ⟨⟨lim40 (by simp), by omega, by omega⟩, lim40 (by simp only [List.length_cons, List.length_nil]; rw [show (18 : Int).toNat = 18 from rfl, l18]; omega), ?_⟩
  have e18 : (18 : Int).toNat = 18 := rfl
  refine readAmount (n := n + 2) (by rw [e18]; simp [l18]) fun m2 => ?_
  rw [e18, r18]
  have c18 : (((18 : Nat) : Int) == 18) = true := rfl
  have c2 : (((2 : Nat) : Int) == 2) = true := rfl
  have c0 : (((0 : Nat) : Int) == 0) = true := rfl
  simp only [wpS_seq, wpS_set, wpS_setT, wpS_par, wpS_ret, wpS_ite, wpS_pas, wpS_exp, wpS_setI, seqK, evE, evA, wp_bnd, wp_ofO, wp_ret, wp_look, getV_cons_zero, getV_cons_succ, List.set_cons_zero, List.set_cons_succ, Option.some.injEq, exists_eq_left', Option.map_some, bin_add, bin_sub, bin_mul, bin_fdiv, bin_mod, bin_pow, wp_ite_ret, endK, idx_t0, idx_t1, idx_t2, cmp_lt, cmp_le, cmp_gt, cmp_ge, cmp_eqI, cmp_neI, truth_bl, truth_int, truth_str, truth_tup, truth_non, bf_abs, bf_max, tup_ok, setTg, setMany, List.cons_append, List.nil_append, gcall, wpS_rai, eqD_t2, eqD_s1, eqD_st, eqD_int, eqD_bl, eqD_str, cmp_eqD, cmp_neD, gOf_low, wp_fmt, wp_fnil, wp_fcons, wp_asB, wp_asN, isNo, sl_str, wp_guard, bmOk_sw, bmOk_sp, bmOk_jn, bmOk_zf, bm_sw, bm_zf, bm_sp, wpS_setS, textOf_s, D.int.injEq, wp_alloc, wp_ifb, i18, beq_self_eq_true, c18, Bool.and_self, Bool.not_true, Bool.false_eq_true, if_false]
  refine ⟨⟨lim40 (by simp), by omega, by omega⟩, lim_ok (by simp), ?_⟩
  refine readAmount (n := n + 2) (by simp) fun m3 => ?_
  rw [r50]
  simp only [wpS_seq, wpS_set, wpS_setT, wpS_par, wpS_ret, wpS_ite, wpS_pas, wpS_exp, wpS_setI, seqK, evE, evA, wp_bnd, wp_ofO, wp_ret, wp_look, getV_cons_zero, getV_cons_succ, List.set_cons_zero, List.set_cons_succ, Option.some.injEq, exists_eq_left', Option.map_some, bin_add, bin_sub, bin_mul, bin_fdiv, bin_mod, bin_pow, wp_ite_ret, endK, idx_t0, idx_t1, idx_t2, cmp_lt, cmp_le, cmp_gt, cmp_ge, cmp_eqI, cmp_neI, truth_bl, truth_int, truth_str, truth_tup, truth_non, bf_abs, bf_max, tup_ok, setTg, setMany, List.cons_append, List.nil_append, gcall, wpS_rai, eqD_t2, eqD_s1, eqD_st, eqD_int, eqD_bl, eqD_str, cmp_eqD, cmp_neD, gOf_low, wp_fmt, wp_fnil, wp_fcons, wp_asB, wp_asN, isNo, sl_str, wp_guard, bmOk_sw, bmOk_sp, bmOk_jn, bmOk_zf, bm_sw, bm_zf, bm_sp, wpS_setS, textOf_s, D.int.injEq, wp_alloc, wp_ifb, beq_self_eq_true, c2, Bool.and_self, if_true]
  refine ⟨lim_ok (by simp), ?_⟩
  refine readAmount (n := n + 2) (by simp) fun m4 => ?_
  rw [r0]
  simp only [wpS_seq, wpS_set, wpS_setT, wpS_par, wpS_ret, wpS_ite, wpS_pas, wpS_exp, wpS_setI, seqK, evE, evA, wp_bnd, wp_ofO, wp_ret, wp_look, getV_cons_zero, getV_cons_succ, List.set_cons_zero, List.set_cons_succ, Option.some.injEq, exists_eq_left', Option.map_some, bin_add, bin_sub, bin_mul, bin_fdiv, bin_mod, bin_pow, wp_ite_ret, endK, idx_t0, idx_t1, idx_t2, cmp_lt, cmp_le, cmp_gt, cmp_ge, cmp_eqI, cmp_neI, truth_bl, truth_int, truth_str, truth_tup, truth_non, bf_abs, bf_max, tup_ok, setTg, setMany, List.cons_append, List.nil_append, gcall, wpS_rai, eqD_t2, eqD_s1, eqD_st, eqD_int, eqD_bl, eqD_str, cmp_eqD, cmp_neD, gOf_low, wp_fmt, wp_fnil, wp_fcons, wp_asB, wp_asN, isNo, sl_str, wp_guard, bmOk_sw, bmOk_sp, bmOk_jn, bmOk_zf, bm_sw, bm_zf, bm_sp, wpS_setS, textOf_s, D.int.injEq, wp_alloc, wp_ifb, beq_self_eq_true, c0, Bool.and_self, if_true]
  refine ⟨lim_ok (by simp), lim_ok (by simp), ?_⟩
  refine (amountText (u := 5) (p := 3) (by decide) (by omega)).mono fun d h' ⟨e3, e4⟩ => ?_
  subst e3 e4
  simp only [wpS_seq, wpS_set, wpS_setT, wpS_par, wpS_ret, wpS_ite, wpS_pas, wpS_exp, wpS_setI, seqK, evE, evA, wp_bnd, wp_ofO, wp_ret, wp_look, getV_cons_zero, getV_cons_succ, List.set_cons_zero, List.set_cons_succ, Option.some.injEq, exists_eq_left', Option.map_some, bin_add, bin_sub, bin_mul, bin_fdiv, bin_mod, bin_pow, wp_ite_ret, endK, idx_t0, idx_t1, idx_t2, cmp_lt, cmp_le, cmp_gt, cmp_ge, cmp_eqI, cmp_neI, truth_bl, truth_int, truth_str, truth_tup, truth_non, bf_abs, bf_max, tup_ok, setTg, setMany, List.cons_append, List.nil_append, gcall, wpS_rai, eqD_t2, eqD_s1, eqD_st, eqD_int, eqD_bl, eqD_str, cmp_eqD, cmp_neD, gOf_low, wp_fmt, wp_fnil, wp_fcons, wp_asB, wp_asN, isNo, sl_str, wp_guard, bmOk_sw, bmOk_sp, bmOk_jn, bmOk_zf, bm_sw, bm_zf, bm_sp, wpS_setS, textOf_s, D.int.injEq, wp_alloc, wp_ifb, t53, decide_true]
end
end K02

set_option Elab.async false
set_option linter.all false
set_option autoImplicit false
set_option maxRecDepth 100000
set_option maxHeartbeats 1000000
/-! K02Q: the law. -/
namespace K02
open Mi
section
variable {n : Nat} {o : M D} {h : Sto}
abbrev lvl : Nat := 60
abbrev lamL : Bool := true
theorem law (ns : List Int) (ds : List D) (st : Sto) (hn : ns.length ≤ 63) (hs : (ds = [.fl (ns.map .int)] ∧ st = []) ∨ (ds = [.ref 0] ∧ st = [.lst (ns.map .int)])) : ∃ st', callN pg lvl i_law ds bad st = .ok (.bl true) st' := by
  have hs2 : ∃ sv, ds = [sv] ∧ (sv = .fl (ns.map .int) ∨ ∃ l, sv = .ref l ∧ st[l]? = some (.lst (ns.map .int))) := by
    rcases hs with ⟨a, b⟩ | ⟨a, b⟩
    · exact ⟨_, a, .inl rfl⟩
    · exact ⟨_, a, .inr ⟨0, rfl, by rw [b]; rfl⟩⟩
  obtain ⟨sv, rfl, hsv⟩ := hs2
  suffices w : wp (callS pg lvl 0 i_law [sv] bad) st fun d _ => d = .bl true by
    obtain ⟨a, h', e, q⟩ := wp_iff.mp w
    exact ⟨h', by rw [← q]; exact e⟩
  refine wp_def (n := 59) (fn := f_law) (by rfl) (by rfl) ?_
  have eS : start f_law.slots [sv] = [some sv, none, none, none, none, none, none, none, none, none, none, none] := rfl
  rw [eS, law_body]
  simp only [wpS_seq, wpS_set, wpS_setT, wpS_par, wpS_ret, wpS_ite, wpS_pas, wpS_exp, wpS_setI, seqK, evE, evA, wp_bnd, wp_ofO, wp_ret, wp_look, getV_cons_zero, getV_cons_succ, List.set_cons_zero, List.set_cons_succ, Option.some.injEq, exists_eq_left', Option.map_some, bin_add, bin_sub, bin_mul, bin_fdiv, bin_mod, bin_pow, wp_ite_ret, endK, idx_t0, idx_t1, idx_t2, cmp_lt, cmp_le, cmp_gt, cmp_ge, cmp_eqI, cmp_neI, truth_bl, truth_int, truth_str, truth_tup, truth_non, bf_abs, bf_max, tup_ok, setTg, setMany, List.cons_append, List.nil_append, gcall, wpS_rai, eqD_t2, eqD_s1, eqD_st, eqD_int, eqD_bl, eqD_str, cmp_eqD, cmp_neD, gOf_low, wp_fmt, wp_fnil, wp_fcons, wp_asB, wp_asN, isNo, sl_str, wp_guard, bmOk_sw, bmOk_sp, bmOk_jn, bmOk_zf, bm_sw, bm_zf, bm_sp, wpS_setS, textOf_s, D.int.injEq, wp_alloc, wp_ifb]
  refine (begun_spec (i := i_l_begun) (by rfl) hsv).mono fun d h' ⟨t, r, e, L, _⟩ => ?_
  subst e
  simp only [wpS_seq, wpS_set, wpS_setT, wpS_par, wpS_ret, wpS_ite, wpS_pas, wpS_exp, wpS_setI, seqK, evE, evA, wp_bnd, wp_ofO, wp_ret, wp_look, getV_cons_zero, getV_cons_succ, List.set_cons_zero, List.set_cons_succ, Option.some.injEq, exists_eq_left', Option.map_some, bin_add, bin_sub, bin_mul, bin_fdiv, bin_mod, bin_pow, wp_ite_ret, endK, idx_t0, idx_t1, idx_t2, cmp_lt, cmp_le, cmp_gt, cmp_ge, cmp_eqI, cmp_neI, truth_bl, truth_int, truth_str, truth_tup, truth_non, bf_abs, bf_max, tup_ok, setTg, setMany, List.cons_append, List.nil_append, gcall, wpS_rai, eqD_t2, eqD_s1, eqD_st, eqD_int, eqD_bl, eqD_str, cmp_eqD, cmp_neD, gOf_low, wp_fmt, wp_fnil, wp_fcons, wp_asB, wp_asN, isNo, sl_str, wp_guard, bmOk_sw, bmOk_sp, bmOk_jn, bmOk_zf, bm_sw, bm_zf, bm_sp, wpS_setS, textOf_s, D.int.injEq, wp_alloc, wp_ifb, wpS_for, curOf]
  rw [if_pos (by constructor <;> omega)]
  refine ⟨_, rfl, ?_⟩
  refine wpS_loop (N := 3) (fun i σ h' => ∃ y2 y3 y4 y5 y6 y7 y8 y9 y10 y11, σ = [some sv, some (.ref t), y2, y3, y4, y5, y6, y7, y8, y9, y10, y11] ∧ Lw (1000 - 100 * i) ns sv t r h') ⟨_, _, _, _, _, _, _, _, _, _, rfl, L.less (by omega)⟩ (by show 3 < 1000000000; omega) (fun i σ h' hi ⟨y2, y3, y4, y5, y6, y7, y8, y9, y10, y11, hs, L⟩ => ?_) (fun σ h' ⟨y2, y3, y4, y5, y6, y7, y8, y9, y10, y11, hs, L⟩ => ?_)
  · subst hs
    refine ⟨.int i, [some sv, some (.ref t), some (.int i), y3, y4, y5, y6, y7, y8, y9, y10, y11], by rw [if_pos (by omega)], rfl, ?_⟩
    have L0 := L.less (c := 1000 - 100 * (i + 1) + 12 + 12) (by omega)
    refine out (n := 55) hn L0 ?_
    intro h3 z3 z4 z5 z6 z7 z9 z10 L4
    exact ⟨_, _, _, _, _, _, _, _, _, _, rfl, L4⟩
  · subst hs
    refine ⟨rfl, ?_⟩
    have l19 : (rep [49] 19).length = 19 := by decide +kernel
    have e19 : (19 : Int).toNat = 19 := rfl
    simp only [badS, wpS_seq, wpS_set, wpS_setT, wpS_par, wpS_ret, wpS_ite, wpS_pas, wpS_exp, wpS_setI, seqK, evE, evA, wp_bnd, wp_ofO, wp_ret, wp_look, getV_cons_zero, getV_cons_succ, List.set_cons_zero, List.set_cons_succ, Option.some.injEq, exists_eq_left', Option.map_some, bin_add, bin_sub, bin_mul, bin_fdiv, bin_mod, bin_pow, wp_ite_ret, endK, idx_t0, idx_t1, idx_t2, cmp_lt, cmp_le, cmp_gt, cmp_ge, cmp_eqI, cmp_neI, truth_bl, truth_int, truth_str, truth_tup, truth_non, bf_abs, bf_max, tup_ok, setTg, setMany, List.cons_append, List.nil_append, gcall, wpS_rai, eqD_t2, eqD_s1, eqD_st, eqD_int, eqD_bl, eqD_str, cmp_eqD, cmp_neD, gOf_low, wp_fmt, wp_fnil, wp_fcons, wp_asB, wp_asN, isNo, sl_str, wp_guard, bmOk_sw, bmOk_sp, bmOk_jn, bmOk_zf, bm_sw, bm_zf, bm_sp, wpS_setS, textOf_s, D.int.injEq, wp_alloc, wp_ifb, bin_mulS, bin_addS, e19, l19]
    refine ⟨lim_ok (by simp), ⟨lim40 (by simp), by omega, by omega⟩, lim40 (by simp only [List.length_cons, List.length_nil]; omega), lim_ok (by simp), ?_⟩
    refine add_ref (last_get2 _ _ _) (last_get _ _) (by simp) ?_
    simp only [wpS_seq, wpS_set, wpS_setT, wpS_par, wpS_ret, wpS_ite, wpS_pas, wpS_exp, wpS_setI, seqK, evE, evA, wp_bnd, wp_ofO, wp_ret, wp_look, getV_cons_zero, getV_cons_succ, List.set_cons_zero, List.set_cons_succ, Option.some.injEq, exists_eq_left', Option.map_some, bin_add, bin_sub, bin_mul, bin_fdiv, bin_mod, bin_pow, wp_ite_ret, endK, idx_t0, idx_t1, idx_t2, cmp_lt, cmp_le, cmp_gt, cmp_ge, cmp_eqI, cmp_neI, truth_bl, truth_int, truth_str, truth_tup, truth_non, bf_abs, bf_max, tup_ok, setTg, setMany, List.cons_append, List.nil_append, gcall, wpS_rai, eqD_t2, eqD_s1, eqD_st, eqD_int, eqD_bl, eqD_str, cmp_eqD, cmp_neD, gOf_low, wp_fmt, wp_fnil, wp_fcons, wp_asB, wp_asN, isNo, sl_str, wp_guard, bmOk_sw, bmOk_sp, bmOk_jn, bmOk_zf, bm_sw, bm_zf, bm_sp, wpS_setS, textOf_s, D.int.injEq, wp_alloc, wp_ifb]
    exact ends (n := 55) (bs := bad1 ++ bad2) bad_no bad_len (by rw [last_get]; rfl)
end
end K02

set_option Elab.async false
set_option linter.all false
set_option maxRecDepth 100000
set_option maxHeartbeats 0
namespace K02
open Mi PySem L2
abbrev prg : Program := PySem.Challenge.pw_boxmoves_k02_amount_texts
def topS (i : Nat) : Stmt := prg.main.body.getD i (.Pass ⟨0, 0, 0, 0⟩)
def defs : List DefI := [mkDef (topS 19) none false [], mkDef (topS 20) none false [".0", "sign"], mkDef (topS 22) none false [], mkDef (topS 23) none false [], mkDef (topS 24) none false [], mkDef (topS 25) (some "_law_deed") false [], mkDef (topS 26) none false [], mkDef (topS 27) none false [], mkDef (topS 28) none true [".0"]]
def con : List (Str × D) := [("FIGURES", (.str [48, 49, 50, 51, 52, 53, 54, 55, 56, 57])), ("MOST_PLACES", (.int 18))]
def exc : List Str := ["BoxError", "NoPicture", "NoRoom", "NoQuotient", "NoText", "NoFigures", "NoLetters", "NoMove", "NoPath", "NoAmount", "NoGroup", "BadSize", "NoBack", "BadRow", "Closed"]
def txt : Txt := { defs := defs, con := con, exc := exc, sub := fun i j => decide (i = j) || decide (j = 0), fns := fns, wf := 1000000000 }
def loose : List Str := (["__name__", "BoxError", "NoPicture", "NoRoom", "NoQuotient", "NoText", "NoFigures", "NoLetters", "NoMove", "NoPath", "NoAmount", "NoGroup", "BadSize", "NoBack", "BadRow", "Closed", "FIGURES", "MOST_PLACES", "amount_text", "read_amount", "_law_draw", "_law_begun", "_law_class", "_law_heard", "_law_an_amount"] : List Str) ++ (["_law_written"] : List Str)
def lawAt : Nat := 28
abbrev lawXs : List Str := [".0"]
end K02
namespace K02
open Mi PySem L2 LamX PyProof.Rows
theorem chk : txt.chk = true := by decide +kernel
theorem qn : ∀ d ∈ txt.defs, d.qual = d.name := by
  have h : (txt.defs.all fun d => decide (d.qual = d.name)) = true := by decide +kernel
  intro d hd
  exact of_decide_eq_true (List.all_eq_true.mp h d hd)
theorem comp : txt.comp 60 = txt.fns.map some := by kernel_rfl
abbrev R : PySem.W.OpenRow := PySem.W.OpenLaw.row PySem.Challenge.rw_boxmoves_k02_amount_texts
abbrev hk : PySem.W.Hook := He.hookX 6 txt.fa txt.fn [] txt.tf txt.ex
def ob (s : PySem.W.SharedT) : He.AlX := He.obsX 6 txt.fa txt.fn [] txt.tf txt.ex (HandSHeadRun.getT s)
theorem ob_eq (s : PySem.W.SharedT) : ob s = hk.obs s.abs := He.obsX_eq (HandSHeadRun.getT_eq s)
theorem run (w : World) : HandSHeadRun.RunEq R (PySem.W.view R.prog [lawAt]) hk ob 4000 loose w := by
  intro os
  kernel_rfl
theorem pgE : txt.pg = pg := rfl
end K02

set_option Elab.async false
set_option linter.all false
set_option maxRecDepth 100000
set_option maxHeartbeats 0
open PySem PySem.W PySem.Calls PyProof.Rows
theorem PySem.Challenge.cw_boxmoves_k02_amount_texts_holds : PySem.Challenge.rw_boxmoves_k02_amount_texts.Holds := by
  w_on; o_law
  refine HandSHeadRun.head_any (r := OpenLaw.row PySem.Challenge.rw_boxmoves_k02_amount_texts) (q := view (OpenLaw.row PySem.Challenge.rw_boxmoves_k02_amount_texts).prog [K02.lawAt]) (H := K02.hk) (ob := K02.ob) (M := 4000) (loose := K02.loose) (d := HandSHeadRun.topDef (OpenLaw.row PySem.Challenge.rw_boxmoves_k02_amount_texts).prog K02.lawAt) (kwd := []) K02.ob_eq
    (by kernel_rfl) (fun s => by kernel_rfl) K02.run (by kernel_rfl) (by kernel_rfl) (by kernel_rfl) (by rfl) (by first | assumption | decide +kernel) (by decide +kernel) ⟨rfl, rfl, rfl, rfl, rfl, by decide +kernel⟩ ?hw ?hc
  case hw => w_witness2
  case hc =>
    refine LamX.walk_ofTsE (l := PySem.Challenge.rw_boxmoves_k02_amount_texts) (n := 63) (k := 2 * K02.lvl) (x := "_law_script") (CX := fun w => L2.CX (PySem.Challenge.rw_boxmoves_k02_amount_texts).prog w) rfl (by decide) (by kernel_rfl) ⟨rfl, by decide, by decide⟩ ?F (fun w H s e s' z => by obtain ⟨_, _, _, _, _, _, _, _, _, _, _, _, q⟩ := z; exact q)
    intro w mg fa h Y G hmg0
    obtain ⟨K, KX, c⟩ := Y
    exact ⟨K, KX, Mi.law_at (t := K02.txt) (m := K02.lvl) (iL := K02.i_law) (dL := Mi.mkDef (K02.topS K02.lawAt) none K02.lamL K02.lawXs) rfl K02.chk K02.qn ⟨60, K02.comp⟩ KX G c rfl rfl rfl (by decide +kernel) hmg0 fun ns ds st h1 _ h2 => K02.law ns ds st h1 h2⟩
