import PyProof.Rows.All
import Wide.All
import OpenK.AllK
import Wide.FinOn
import HandS.ForExc
import HandS.TupAny
import HandS.TupMul
import HandS.Deep
import HandS.IsInst
import HandS.Comp
import HandS.Iter
import HandS.Text
import HandS.Flow
import HandS.Style
import HandS.More
import HandS.TupLe
import HandS.DictTup
import HandS.TupLen
import HandS.WordsDict
import HandS.SetKeys
import HandS.Small
import PyProof.ExcBaseAll.ValueError
import HandS.WordsExc
import PySem.Challenge.RW_leatever_k01_is_graph
set_option Elab.async false
set_option linter.all false
/-! Ev0: a small language, and what its texts do: values, a heap of lists, dicts and instances, expressions, statements, calls. -/
set_option linter.all false
namespace Py
abbrev Tx := List Char

/-- a value: refs point into the heap of things that change; ls: a list that never changes (the script), and in resolved trees any list; kt: a tuple of the module's own -/
inductive D where
  | non | bl (b : Bool) | int (i : Int) | str (x : Tx) | tup (xs : List D) | ls (xs : List D) | kt (xs : List D) | ref (n : Nat)
  deriving Inhabited

/-- keys of dicts -/
inductive KY where
  | i (n : Int) | s (x : Tx)
  deriving DecidableEq, Inhabited

inductive Ob where
  | lst (xs : List D)
  | dk (kvs : List (KY × D))
  | dt (kvs : List (List KY × D))
  | ins (C : Nat) (fs : List (Nat × D))
  deriving Inhabited
abbrev G := List Ob

/-- what an expression gives: a value, or a list that nothing else holds -/
inductive XV where
  | d (d : D) | tmp (xs : List D)

/-- an exception: its class, its fields -/
structure Xc where
  cls : Nat
  fs : List (Nat × D) := []

inductive R (α : Type) where
  | ok (a : α) (g : G)
  | ex (x : Xc) (g : G)
  | bad

def R.bind {α β : Type} (r : R α) (f : α → G → R β) : R β :=
  match r with
  | .ok a g => f a g
  | .ex x g => .ex x g
  | .bad => .bad

abbrev Lc := List (Option D)
/-- what a statement leaves -/
inductive O where
  | nx (L : Lc) (g : G) | rt (d : D) (g : G) | br (L : Lc) (g : G) | ct (L : Lc) (g : G) | ex (x : Xc) (L : Lc) (g : G) | bad

/-! ### syntax -/
inductive BOp where | add | sub | mul | fdiv | mod | pow
inductive COp where | eq | ne | lt | le | gt | ge | is | isnt | isin | notin
inductive Ty where | int | bool | str | tuple | list | dict | own (c : Nat)
/-- built-in functions -/
inductive BI where | len | abs | int | bool | str | tuple | list | all | any | sum | max | min | sorted | dict | repr
/-- methods of built-in types -/
inductive BM where | append | extend | pop | index | count | insert | get | setdefault | update | join | startswith | lower | lstrip | split | copy

inductive Tg where
  | nm (i : Nat) | tp (is : List Nat)

mutual
inductive E where
  | v (i : Nat) | c (d : D) | g (i : Nat)
  | bin (o : BOp) (a b : E) | neg (a : E)
  | cmp (o : COp) (a b : E) | cmp2 (o o' : COp) (a b c : E)
  | isi (a : E) (t : Ty)
  | and (a b : E) | or (a b : E) | not (a : E) | ite (c a b : E)
  | tup (es : Es) | lst (es : Es) | dnk | dnt | dic (ks vs : Es)
  | ix (a i : E) | gix (g : Nat) (i : E)
  | slL (a lo : E) | slH (a hi : E) | slB (a lo hi : E) | rev (a : E)
  | fld (a : E) (f : Nat)
  | call (f : Nat) (es : Es) | mk (C : Nat) (es : Es) | mth (a : E) (m : Nat) (es : Es)
  | bi (b : BI) (es : Es) | bm (m : BM) (a : E) (es : Es) | lenset (a : E)
  | comp (t : Tg) (s : Src) (c e : E)
inductive Es where
  | nil | cons (e : E) (es : Es)
inductive Src where
  | it (e : E) | rng (es : Es) | enum (e : E) | zip (a b : E) | revd (e : E)
end

mutual
inductive S where
  | set (t : Tg) (e : E) | par (i j : Nat) (a b : E)
  | aug (i : Nat) (o : BOp) (e : E)
  | augF (a : E) (f : Nat) (o : BOp) (e : E)
  | setF (a : E) (f : Nat) (e : E) | setI (a i e : E)
  | ex (e : E)
  | ifs (c : E) (a b : Ss) | whl (c : E) (b : Ss) | for (t : Tg) (s : Src) (b : Ss)
  | ret (e : E) | ret0 | raise (C : Nat)
  | try (b : Ss) (C : Nat) (x : Option Nat) (h : Ss)
  | pass | brk | cnt
inductive Ss where
  | nil | cons (s : S) (ss : Ss)
end

structure Fn where
  np : Nat
  ns : Nat
  body : Ss

structure Tb where
  fn : Nat → Option Fn
  ini : Nat → Option Nat
  mt : Nat → Nat → Option Nat
  sub : Nat → Nat → Option Bool
  gl : Nat → Option D

/-- the most items of a list, signs of a text -/
def line : Nat := 16777216

/-! ### resolved trees, equality -/
def trL (f : D → Option D) : List D → Option (List D)
  | [] => some []
  | x :: xs => match f x, trL f xs with
    | some y, some ys => some (y :: ys)
    | _, _ => none
def tr (g : G) : Nat → D → Option D
  | 0, _ => none
  | n + 1, .tup xs => (trL (tr g n) xs).map .tup
  | n + 1, .kt xs => (trL (tr g n) xs).map .tup
  | n + 1, .ref m => match g[m]? with
    | some (.lst xs) => (trL (tr g n) xs).map .ls
    | _ => none
  | _ + 1, .ls _ => none
  | _ + 1, d => some d
def trX (g : G) : XV → Option D
  | .d d => tr g 60 d
  | .tmp xs => (trL (tr g 59) xs).map .ls

mutual
def eqv : D → D → Bool
  | .non, .non => true
  | .bl a, .bl b => a == b
  | .bl a, .int j => decide ((if a then 1 else 0) = j)
  | .int i, .bl b => decide (i = (if b then 1 else 0))
  | .int i, .int j => decide (i = j)
  | .str x, .str y => decide (x = y)
  | .tup xs, .tup ys => eqvs xs ys
  | .ls xs, .ls ys => eqvs xs ys
  | _, _ => false
def eqvs : List D → List D → Bool
  | [], [] => true
  | x :: xs, y :: ys => eqv x y && eqvs xs ys
  | _, _ => false
end

/-- numbers, texts, None, truths -/
def flat : D → Bool
  | .non | .bl _ | .int _ | .str _ => true
  | _ => false

def D.isNon : D → Bool
  | .non => true
  | _ => false

/-! ### truth, lengths, items -/
def truth (g : G) : XV → Option Bool
  | .tmp xs => some (!xs.isEmpty)
  | .d .non => some false
  | .d (.bl b) => some b
  | .d (.int i) => some (i != 0)
  | .d (.str x) => if x.length ≤ line then some (!x.isEmpty) else none
  | .d (.tup xs) => some (!xs.isEmpty)
  | .d (.ls xs) => some (!xs.isEmpty)
  | .d (.kt xs) => some (!xs.isEmpty)
  | .d (.ref n) => match g[n]? with
    | some (.lst xs) => some (!xs.isEmpty)
    | some (.dk kvs) => some (!kvs.isEmpty)
    | _ => none

/-- the place of an index -/
def ixN (n : Nat) (i : Int) : Option Nat := if 0 ≤ i then (if i < n then some i.toNat else none) else if -(n : Int) ≤ i then some (i + n).toNat else none
def atI {α : Type} (xs : List α) (i : Int) : Option α := (ixN xs.length i).bind fun j => xs[j]?

def kyOf : D → Option KY
  | .int i => some (.i i)
  | .str x => some (.s x)
  | _ => none
def keysOf : List D → Option (List KY)
  | [] => some []
  | d :: ds => match kyOf d, keysOf ds with
    | some k, some ks => some (k :: ks)
    | _, _ => none
def look {κ : Type} [DecidableEq κ] (k : κ) : List (κ × D) → Option D
  | [] => none
  | (j, d) :: r => if j = k then some d else look k r
def putK {κ : Type} [DecidableEq κ] (k : κ) (v : D) (kvs : List (κ × D)) : List (κ × D) :=
  if kvs.any (fun p => decide (p.1 = k)) then kvs.map (fun p => if p.1 = k then (p.1, v) else p) else kvs ++ [(k, v)]

/-- the items of a list or tuple -/
def items (g : G) : XV → Option (List D)
  | .tmp xs => some xs
  | .d (.tup xs) => some xs
  | .d (.ls xs) => some xs
  | .d (.kt xs) => some xs
  | .d (.ref n) => match g[n]? with
    | some (.lst xs) => some xs
    | _ => none
  | _ => none
def listOf (g : G) : XV → Option (List D)
  | .tmp xs => some xs
  | .d (.ref n) => match g[n]? with
    | some (.lst xs) => some xs
    | _ => none
  | _ => none

/-- x[i] -/
def index (g : G) (x : XV) (i : D) : Option D :=
  match x with
  | .d (.str z) => match i with
    | .int i => if z.length ≤ line then (atI z i).map fun c => .str [c] else none
    | _ => none
  | .d (.ref n) => match g[n]? with
    | some (.lst xs) => match i with
      | .int i => atI xs i
      | _ => none
    | some (.dk kvs) => (kyOf i).bind fun k => look k kvs
    | some (.dt kvs) => match i with
      | .tup ds => (keysOf ds).bind fun k => look k kvs
      | _ => none
    | _ => none
  | .d (.tup xs) => match i with
    | .int i => atI xs i
    | _ => none
  | .d (.kt xs) => match i with
    | .int i => atI xs i
    | _ => none
  | .tmp xs => match i with
    | .int i => atI xs i
    | _ => none
  | _ => none

/-- an end of a slice -/
def sIx (n d : Nat) : Option Int → Nat
  | none => d
  | some v => if v < 0 then (v + (n : Int)).toNat else min v.toNat n
def cut {α : Type} (xs : List α) (lo hi : Option Int) : List α := (xs.drop (sIx xs.length 0 lo)).take (sIx xs.length xs.length hi - sIx xs.length 0 lo)
def slice (g : G) (x : XV) (lo hi : Option Int) : Option XV :=
  match x with
  | .d (.str z) => if z.length ≤ line then some (.d (.str (cut z lo hi))) else none
  | .d (.tup xs) => some (.d (.tup (cut xs lo hi)))
  | .tmp xs => some (.tmp (cut xs lo hi))
  | .d (.ref n) => match g[n]? with
    | some (.lst xs) => some (.tmp (cut xs lo hi))
    | _ => none
  | _ => none

/-! ### operators -/
def small (i : Int) : Bool := decide (-(2 ^ 64) < i) && decide (i < 2 ^ 64)
def binop (g : G) (o : BOp) (x y : XV) : Option XV :=
  match o with
  | .add => match x, y with
    | .d (.int i), .d (.int j) => some (.d (.int (i + j)))
    | .d (.str a), .d (.str b) => if a.length + b.length ≤ line then some (.d (.str (a ++ b))) else none
    | .d (.tup a), .d (.tup b) => if a.length + b.length ≤ line then some (.d (.tup (a ++ b))) else none
    | x, y => match listOf g x, listOf g y with
      | some a, some b => if a.length + b.length ≤ line then some (.tmp (a ++ b)) else none
      | _, _ => none
  | .sub => match x, y with
    | .d (.int i), .d (.int j) => some (.d (.int (i - j)))
    | _, _ => none
  | .mul => match y with
    | .d (.int j) => match x with
      | .d (.int i) => if small i || small j then some (.d (.int (i * j))) else none
      | .d (.tup a) => if decide (a ≠ []) && decide (2 ≤ j) && decide (j ≤ 1000) && decide (a.length ≤ 1000) then some (.d (.tup (List.replicate j.toNat a).flatten)) else none
      | x => match listOf g x with
        | some a => if decide (-(2 ^ 62) ≤ j) && decide (j < 2 ^ 62) && decide (a.length * j.toNat ≤ line) then some (.tmp (List.replicate j.toNat a).flatten) else none
        | _ => none
    | _ => none
  | .fdiv => match x, y with
    | .d (.int i), .d (.int j) => if decide (0 < j) && decide (j < 1073741824) then some (.d (.int (i / j))) else none
    | _, _ => none
  | .mod => match x, y with
    | .d (.int i), .d (.int j) => if decide (0 < j) then some (.d (.int (i % j))) else none
    | _, _ => none
  | .pow => match x, y with
    | .d (.int i), .d (.int j) => if decide (0 ≤ j) && decide (j ≤ 1000000) && decide (i.natAbs < 2 ^ 64) then some (.d (.int (i ^ j.toNat))) else none
    | _, _ => none

/-- a op= b -/
def augop (o : BOp) (x : D) (y : XV) : Option D :=
  match o, x, y with
  | .add, .int i, .d (.int j) => some (.int (i + j))
  | .add, .str a, .d (.str b) => if a.length + b.length ≤ line then some (.str (a ++ b)) else none
  | .sub, .int i, .d (.int j) => some (.int (i - j))
  | .mul, .int i, .d (.int j) => if small i || small j then some (.int (i * j)) else none
  | .fdiv, .int i, .d (.int j) => if decide (0 < j) && decide (j < 1073741824) then some (.int (i / j)) else none
  | .mod, .int i, .d (.int j) => if decide (0 < j) then some (.int (i % j)) else none
  | _, _, _ => none

def lexLt : List Char → List Char → Bool
  | [], [] => false
  | [], _ :: _ => true
  | _ :: _, [] => false
  | a :: as, b :: bs => if a.toNat < b.toNat then true else if b.toNat < a.toNat then false else lexLt as bs

/-- the entries of a dict -/
def keyed (g : G) (y : XV) : Option (List (KY × D) ⊕ List (List KY × D)) :=
  match y with
  | .d (.ref n) => match g[n]? with
    | some (.dk kvs) => some (.inl kvs)
    | some (.dt kvs) => some (.inr kvs)
    | _ => none
  | _ => none
/-- x in y -/
def isin (g : G) (x : D) (y : XV) : Option Bool :=
  match y with
  | .d (.str z) => match x with
    | .str [c] => some (decide (c ∈ z))
    | _ => none
  | y => match keyed g y with
    | some (.inl kvs) => (kyOf x).map fun k => (look k kvs).isSome
    | some (.inr kvs) => match x with
      | .tup ds => (keysOf ds).map fun k => (look k kvs).isSome
      | _ => none
    | none => match tr g 60 x, trX g y with
      | some t, some (.tup ts) => some (ts.any fun z => eqv z t)
      | some t, some (.ls ts) => some (ts.any fun z => eqv z t)
      | _, _ => none

def cmpop (g : G) (o : COp) (x y : XV) : Option Bool :=
  match o with
  | .eq => match trX g x, trX g y with
    | some a, some b => some (eqv a b)
    | _, _ => none
  | .ne => match trX g x, trX g y with
    | some a, some b => some (!eqv a b)
    | _, _ => none
  | .lt => match x, y with
    | .d (.int i), .d (.int j) => some (decide (i < j))
    | .d (.str a), .d (.str b) => some (lexLt a b)
    | _, _ => none
  | .le => match x, y with
    | .d (.int i), .d (.int j) => some (decide (i ≤ j))
    | .d (.str a), .d (.str b) => some (!lexLt b a)
    | _, _ => none
  | .gt => match x, y with
    | .d (.int i), .d (.int j) => some (decide (j < i))
    | .d (.str a), .d (.str b) => some (lexLt b a)
    | _, _ => none
  | .ge => match x, y with
    | .d (.int i), .d (.int j) => some (decide (j ≤ i))
    | .d (.str a), .d (.str b) => some (!lexLt a b)
    | _, _ => none
  | .is => match x, y with
    | .d a, .d .non => some a.isNon
    | .d (.bl a), .d (.bl b) => some (a == b)
    | _, _ => none
  | .isnt => match x, y with
    | .d a, .d .non => some (!a.isNon)
    | .d (.bl a), .d (.bl b) => some (!(a == b))
    | _, _ => none
  | .isin => match x with
    | .d a => isin g a y
    | _ => none
  | .notin => match x with
    | .d a => (isin g a y).map (!·)
    | _ => none

/-- the kinds of values that isinstance tells apart -/
inductive Kd where | non | bool | int | str | tuple | list | dict
def Kd.isa : Kd → Ty → Bool
  | .bool, .bool => true
  | .bool, .int => true
  | .int, .int => true
  | .str, .str => true
  | .tuple, .tuple => true
  | .list, .list => true
  | .dict, .dict => true
  | _, _ => false
def kdOf (g : G) : XV → Option Kd
  | .tmp _ => some .list
  | .d .non => some .non
  | .d (.bl _) => some .bool
  | .d (.int _) => some .int
  | .d (.str _) => some .str
  | .d (.tup _) => some .tuple
  | .d (.kt _) => some .tuple
  | .d (.ls _) => none
  | .d (.ref n) => match g[n]? with
    | some (.lst _) => some .list
    | some (.dk _) => some .dict
    | some (.dt _) => some .dict
    | _ => none
def isinst (T : Tb) (g : G) (d : XV) (t : Ty) : Option Bool := (kdOf g d).map fun k => k.isa t

/-! ### built-in functions -/
def boolsOf : List D → Option (List Bool)
  | [] => some []
  | .bl b :: r => (boolsOf r).map (b :: ·)
  | _ => none
def intsOf : List D → Option (List Int)
  | [] => some []
  | .int i :: r => (intsOf r).map (i :: ·)
  | _ => none
def strsOf : List D → Option (List Tx)
  | [] => some []
  | .str i :: r => (strsOf r).map (i :: ·)
  | _ => none
def joinT (z : Tx) : List Tx → Tx
  | [] => []
  | [x] => x
  | x :: y :: r => x ++ z ++ joinT z (y :: r)
def lenOf (g : G) : XV → Option Nat
  | .d (.str z) => if z.length ≤ line then some z.length else none
  | .d (.ref n) => match g[n]? with
    | some (.lst xs) => some xs.length
    | some (.dk kvs) => some kvs.length
    | some (.dt kvs) => some kvs.length
    | _ => none
  | x => (items g x).map List.length
def built1 (g : G) (b : BI) (x : XV) : Option XV :=
  match b with
  | .len => (lenOf g x).map fun n => .d (.int n)
  | .abs => match x with
    | .d (.int i) => some (.d (.int (if i < 0 then -i else i)))
    | _ => none
  | .int => match x with
    | .d (.int i) => some (.d (.int i))
    | .d (.bl b) => some (.d (.int (if b then 1 else 0)))
    | _ => none
  | .bool => match x with
    | .d (.int i) => some (.d (.bl (i != 0)))
    | .d (.bl b) => some (.d (.bl b))
    | _ => none
  | .tuple => match x with
    | .d (.kt _) => none
    | x => (items g x).map fun xs => .d (.tup xs)
  | .list => (items g x).map fun xs => .tmp xs
  | .all => (listOf g x).bind fun xs => (boolsOf xs).map fun bs => .d (.bl (bs.all id))
  | .any => (listOf g x).bind fun xs => (boolsOf xs).map fun bs => .d (.bl (bs.any id))
  | .sum => (listOf g x).bind fun xs => (intsOf xs).map fun is => .d (.int is.sum)
  | _ => none
def built2 (g : G) (b : BI) (x y : XV) : Option XV :=
  match b with
  | .max => match x, y with
    | .d (.int i), .d (.int j) => some (.d (.int (if j > i then j else i)))
    | _, _ => none
  | .min => match x, y with
    | .d (.int i), .d (.int j) => some (.d (.int (if j < i then j else i)))
    | _, _ => none
  | _ => none

/-! ### what a for walks -/
inductive It where
  | vals (xs : List D) | lst (n : Nat) | enumL (n : Nat) | enumT (xs : List D)
  | zipL (n m : Nat) | zipT (xs ys : List D) | rng (lo : Int) (n : Nat) | rngC (lo c : Int) (n : Nat) | sgn (z : Tx)
/-- the i-th turn: none: not known; some none: the end -/
def turn (g : G) : It → Nat → Option (Option D)
  | .vals xs, i => some xs[i]?
  | .lst n, i => match g[n]? with
    | some (.lst xs) => some xs[i]?
    | _ => none
  | .enumL n, i => match g[n]? with
    | some (.lst xs) => some (xs[i]?.map fun d => .tup [.int i, d])
    | _ => none
  | .enumT xs, i => some (xs[i]?.map fun d => .tup [.int i, d])
  | .zipL n m, i => match g[n]?, g[m]? with
    | some (.lst xs), some (.lst ys) => some (match xs[i]?, ys[i]? with
      | some a, some b => some (.tup [a, b])
      | _, _ => none)
    | _, _ => none
  | .zipT xs ys, i => some (match xs[i]?, ys[i]? with
      | some a, some b => some (.tup [a, b])
      | _, _ => none)
  | .rng lo n, i => some (if i < n then some (.int (lo + i)) else none)
  | .rngC lo c n, i => some (if i < n then some (.int (lo + i * c)) else none)
  | .sgn z, i => some (z[i]?.map fun c => .str [c])

def asg (t : Tg) (d : D) (g : G) (L : Lc) : Option Lc :=
  match t with
  | .nm i => some (L.set i (some d))
  | .tp is => match items g (.d d) with
    | some xs => if xs.length = is.length then some ((is.zip xs).foldl (fun L p => L.set p.1 (some p.2)) L) else none
    | none => none
/-- a target's slots -/
def Tg.own : Tg → List Nat
  | .nm i => [i]
  | .tp is => is

/-- turns, at most n -/
def loopF (it : It) (t : Tg) (body : Lc → G → O) : Nat → Nat → Lc → G → O
  | 0, _, _, _ => .bad
  | n + 1, i, L, g => match turn g it i with
    | none => .bad
    | some none => .nx L g
    | some (some d) => match asg t d g L with
      | none => .bad
      | some L1 => match body L1 g with
        | .nx L2 g2 => loopF it t body n (i + 1) L2 g2
        | .ct L2 g2 => loopF it t body n (i + 1) L2 g2
        | .br L2 g2 => .nx L2 g2
        | .rt d g2 => .rt d g2
        | .ex x L2 g2 => .ex x L2 g2
        | .bad => .bad
def loopW (c : Lc → G → R Bool) (body : Lc → G → O) : Nat → Lc → G → O
  | 0, _, _ => .bad
  | n + 1, L, g => match c L g with
    | .bad => .bad
    | .ex x g1 => .ex x L g1
    | .ok false g1 => .nx L g1
    | .ok true g1 => match body L g1 with
        | .nx L2 g2 => loopW c body n L2 g2
        | .ct L2 g2 => loopW c body n L2 g2
        | .br L2 g2 => .nx L2 g2
        | .rt d g2 => .rt d g2
        | .ex x L2 g2 => .ex x L2 g2
        | .bad => .bad
/-- a comprehension's turns: what is made so far; nothing is raised in it -/
def loopC (it : It) (t : Tg) (c : Lc → G → R Bool) (e : Lc → G → R D) (L : Lc) : Nat → Nat → List D → G → R (List D)
  | 0, _, _, _ => .bad
  | n + 1, i, acc, g => match turn g it i with
    | none => .bad
    | some none => .ok acc g
    | some (some d) => match asg t d g L with
      | none => .bad
      | some L1 => match c L1 g with
        | .ok true g1 => match e L1 g1 with
          | .ok y g2 => if acc.length < line then loopC it t c e L n (i + 1) (acc ++ [y]) g2 else .bad
          | _ => .bad
        | .ok false g1 => loopC it t c e L n (i + 1) acc g1
        | _ => .bad

def fuel : Nat := 1000000000000

/-- a list that nothing else holds is laid into the heap -/
def lay (x : XV) (g : G) : D × G :=
  match x with
  | .d d => (d, g)
  | .tmp xs => (.ref g.length, g ++ [.lst xs])
def R.lay (r : R XV) : R D :=
  match r with
  | .ok x g => .ok (Py.lay x g).1 (Py.lay x g).2
  | .ex x g => .ex x g
  | .bad => .bad
def ofO {α : Type} (o : Option α) (g : G) : R α :=
  match o with
  | some a => .ok a g
  | none => .bad
/-- a test -/
def R.test (r : R XV) : R Bool := r.bind fun x g => ofO (truth g x) g
def getF (T : Tb) (g : G) (d : D) (f : Nat) : Option D :=
  match d with
  | .ref n => match g[n]? with
    | some (.ins C fs) => if (T.mt C f).isNone then fs.lookup f else none
    | _ => none
  | _ => none
/-- the class of an instance -/
def clsAt (g : G) (d : D) : Option Nat :=
  match d with
  | .ref n => match g[n]? with
    | some (.ins C _) => some C
    | _ => none
  | _ => none
def putF (f : Nat) (v : D) : List (Nat × D) → List (Nat × D)
  | [] => [(f, v)]
  | (j, x) :: r => if j = f then (j, v) :: r else (j, x) :: putF f v r
def setFld (T : Tb) (g : G) (d : D) (f : Nat) (v : D) : Option G :=
  match d with
  | .ref n => match g[n]? with
    | some (.ins C fs) => if (T.mt C f).isNone && decide (fs.length < 900) then some (g.set n (.ins C (putF f v fs))) else none
    | _ => none
  | _ => none
def setIx (g : G) (o i v : D) : Option G :=
  match o with
  | .ref n => match g[n]? with
    | some (.lst xs) => match i with
      | .int i => (ixN xs.length i).map fun j => g.set n (.lst (xs.set j v))
      | _ => none
    | some (.dk kvs) => (kyOf i).bind fun k => if kvs.length < line then some (g.set n (.dk (putK k v kvs))) else none
    | some (.dt kvs) => match i with
      | .tup ds => (keysOf ds).bind fun k => if kvs.length < line then some (g.set n (.dt (putK k v kvs))) else none
      | _ => none
    | _ => none
  | _ => none
/-- the built-in type of a receiver -/
inductive BT where | list | dict | str
  deriving DecidableEq
def btype (g : G) (x : XV) : Option BT :=
  match x with
  | .tmp _ => some .list
  | .d (.str _) => some .str
  | .d (.ref n) => match g[n]? with
    | some (.lst _) => some .list
    | some (.dk _) => some .dict
    | some (.dt _) => some .dict
    | _ => none
  | _ => none
/-- the place of the first equal one -/
def place (t : D) : Nat → List D → Option Nat
  | _, [] => none
  | i, z :: r => if eqv z t then some i else place t (i + 1) r
/-- the methods there are -/
def bmok : BT → BM → Bool
  | .list, .append | .list, .pop | .list, .extend | .list, .index | .dict, .get | .dict, .setdefault | .str, .join => true
  | _, _ => false
/-- o.m(..) of a built-in type, by values -/
def bmeth (g : G) (T : BT) (m : BM) (o : XV) (vs : List D) : Option (XV × G) :=
  match T with
  | .list => match m with
    | .append => match o, vs with
      | .d (.ref n), [v] => match g[n]? with
        | some (.lst xs) => if xs.length < line then some (.d .non, g.set n (.lst (xs ++ [v]))) else none
        | _ => none
      | _, _ => none
    | .pop => match o, vs with
      | .d (.ref n), [] => match g[n]? with
        | some (.lst xs) => xs[xs.length - 1]?.map fun y => (.d y, g.set n (.lst xs.dropLast))
        | _ => none
      | _, _ => none
    | .extend => match o, vs with
      | .d (.ref n), [.ref m] => match g[n]?, g[m]? with
        | some (.lst xs), some (.lst ys) => if xs.length + ys.length ≤ line then some (.d .non, g.set n (.lst (xs ++ ys))) else none
        | _, _ => none
      | _, _ => none
    | .index => match vs with
      | [v] => match trX g o, tr g 60 v with
        | some (.ls ts), some t => (place t 0 ts).map fun i => (.d (.int i), g)
        | _, _ => none
      | _ => none
    | _ => none
  | .dict => match m with
    | .get => match vs with
      | [k] => match keyed g o with
        | some (.inl kvs) => (kyOf k).map fun k => (.d ((look k kvs).getD .non), g)
        | _ => none
      | [k, d] => match keyed g o with
        | some (.inl kvs) => (kyOf k).map fun k => (.d ((look k kvs).getD d), g)
        | _ => none
      | _ => none
    | .setdefault => match o, vs with
      | .d (.ref n), [k, d] => match g[n]? with
        | some (.dk kvs) => (kyOf k).bind fun k => match look k kvs with
          | some v => some (.d v, g)
          | none => if kvs.length < line then some (.d d, g.set n (.dk (putK k d kvs))) else none
        | _ => none
      | _, _ => none
    | _ => none
  | .str => match m, o, vs with
    | .join, .d (.str z), [v] => (items g (.d v)).bind fun xs => (strsOf xs).bind fun ys => if decide ((ys.map List.length).sum + ys.length * z.length ≤ line) then some (.d (.str (joinT z ys)), g) else none
    | _, _, _ => none


/-! ### the evaluator: cf does calls of the program's own defs -/
abbrev Cf := Nat → List D → G → R D
mutual
def ev (T : Tb) (cf : Cf) : E → Lc → G → R XV
  | .v i, L, g => match L[i]? with
    | some (some d) => .ok (.d d) g
    | _ => .bad
  | .c d, _, g => .ok (.d d) g
  | .g i, _, g => ofO ((T.gl i).map .d) g
  | .bin o a b, L, g => (ev T cf a L g).bind fun x g => (ev T cf b L g).bind fun y g => ofO (binop g o x y) g
  | .neg a, L, g => (ev T cf a L g).bind fun x g => match x with
    | .d (.int i) => .ok (.d (.int (-i))) g
    | _ => .bad
  | .cmp o a b, L, g => (ev T cf a L g).bind fun x g => (ev T cf b L g).bind fun y g => ofO ((cmpop g o x y).map fun b => .d (.bl b)) g
  | .cmp2 o o' a b c, L, g => (ev T cf a L g).bind fun x g => (ev T cf b L g).bind fun y g => match cmpop g o x y with
    | some true => (ev T cf c L g).bind fun z g => ofO ((cmpop g o' y z).map fun b => .d (.bl b)) g
    | some false => .ok (.d (.bl false)) g
    | none => .bad
  | .isi a t, L, g => (ev T cf a L g).bind fun x g => ofO ((isinst T g x t).map fun b => .d (.bl b)) g
  | .and a b, L, g => (ev T cf a L g).bind fun x g => match truth g x with
    | some true => ev T cf b L g
    | some false => .ok x g
    | none => .bad
  | .or a b, L, g => (ev T cf a L g).bind fun x g => match truth g x with
    | some true => .ok x g
    | some false => ev T cf b L g
    | none => .bad
  | .not a, L, g => (ev T cf a L g).bind fun x g => ofO ((truth g x).map fun b => .d (.bl (!b))) g
  | .ite c a b, L, g => (ev T cf c L g).bind fun x g => match truth g x with
    | some true => ev T cf a L g
    | some false => ev T cf b L g
    | none => .bad
  | .tup es, L, g => (evs T cf es L g).bind fun ds g => if ds.length ≤ line then .ok (.d (.tup ds)) g else .bad
  | .lst es, L, g => (evs T cf es L g).bind fun ds g => if ds.length ≤ line then .ok (.tmp ds) g else .bad
  | .dnk, _, g => .ok (.d (.ref g.length)) (g ++ [.dk []])
  | .dnt, _, g => .ok (.d (.ref g.length)) (g ++ [.dt []])
  | .dic _ _, _, _ => .bad
  | .ix a i, L, g => (ev T cf a L g).bind fun x g => (ev T cf i L g).bind fun y g => match y with
    | .d y => ofO ((index g x y).map .d) g
    | _ => .bad
  | .gix _ _, _, _ => .bad
  | .slL a lo, L, g => (ev T cf a L g).bind fun x g => (ev T cf lo L g).bind fun y g => match y with
    | .d (.int i) => ofO (slice g x (some i) none) g
    | _ => .bad
  | .slH a hi, L, g => (ev T cf a L g).bind fun x g => (ev T cf hi L g).bind fun y g => match y with
    | .d (.int i) => ofO (slice g x none (some i)) g
    | _ => .bad
  | .slB a lo hi, L, g => (ev T cf a L g).bind fun x g => (ev T cf lo L g).bind fun y g => match y with
    | .d (.int i) => (ev T cf hi L g).bind fun z g => match z with
      | .d (.int j) => ofO (slice g x (some i) (some j)) g
      | _ => .bad
    | _ => .bad
  | .rev _, _, _ => .bad
  | .fld a f, L, g => (ev T cf a L g).bind fun x g => match x with
    | .d d => ofO ((getF T g d f).map .d) g
    | _ => .bad
  | .call f es, L, g => (evs T cf es L g).bind fun ds g => (cf f ds g).bind fun d g => .ok (.d d) g
  | .mk C es, L, g => (evs T cf es L g).bind fun ds g => match T.ini C with
    | some f => (cf f (.ref g.length :: ds) (g ++ [.ins C []])).bind fun d g' => match d with
      | .non => .ok (.d (.ref g.length)) g'
      | _ => .bad
    | none => .bad
  | .mth a m es, L, g => (ev T cf a L g).bind fun x g => match x with
    | .d (.ref n) => match g[n]? with
      | some (.ins C fs) => match T.mt C m, fs.lookup m with
        | some f, none => (evs T cf es L g).bind fun ds g => (cf f (.ref n :: ds) g).bind fun d g => .ok (.d d) g
        | _, _ => .bad
      | _ => .bad
    | _ => .bad
  | .bi b (.cons a .nil), L, g => (ev T cf a L g).bind fun x g => ofO (built1 g b x) g
  | .bi b (.cons a (.cons a' .nil)), L, g => (ev T cf a L g).bind fun x g => (ev T cf a' L g).bind fun y g => ofO (built2 g b x y) g
  | .bi _ _, _, _ => .bad
  | .bm m a es, L, g => (ev T cf a L g).bind fun x g => match btype g x with
    | some B => if bmok B m then (evs T cf es L g).bind fun ds g => match bmeth g B m x ds with
      | some (y, g') => .ok y g'
      | none => .bad
      else .bad
    | none => .bad
  | .lenset _, _, _ => .bad
  | .comp t s c e, L, g => (evI T cf s L g).bind fun it g => (loopC it t (fun L g => (ev T cf c L g).test) (fun L g => (ev T cf e L g).lay) L fuel 0 [] g).bind fun xs g => .ok (.tmp xs) g
def evs (T : Tb) (cf : Cf) : Es → Lc → G → R (List D)
  | .nil, _, g => .ok [] g
  | .cons e es, L, g => (ev T cf e L g).lay.bind fun d g => (evs T cf es L g).bind fun ds g => .ok (d :: ds) g
def evI (T : Tb) (cf : Cf) : Src → Lc → G → R It
  | .it e, L, g => (ev T cf e L g).bind fun x g => match x with
    | .tmp xs => .ok (.vals xs) g
    | .d (.tup xs) => .ok (.vals xs) g
    | .d (.ls xs) => .ok (.vals xs) g
    | .d (.kt xs) => .ok (.vals xs) g
    | .d (.str z) => .ok (.sgn z) g
    | .d (.ref n) => match g[n]? with
      | some (.lst _) => .ok (.lst n) g
      | _ => .bad
    | _ => .bad
  | .rng (.cons a .nil), L, g => (ev T cf a L g).bind fun x g => match x with
    | .d (.int j) => if decide (-(2 ^ 62) ≤ j) && decide (j < 2 ^ 62) then .ok (.rng 0 j.toNat) g else .bad
    | _ => .bad
  | .rng (.cons a (.cons b .nil)), L, g => (ev T cf a L g).bind fun x g => (ev T cf b L g).bind fun y g => match x, y with
    | .d (.int i), .d (.int j) => if decide (-(2 ^ 62) ≤ i) && decide (i < 2 ^ 62) && decide (-(2 ^ 62) ≤ j) && decide (j < 2 ^ 62) then .ok (.rng i (j - i).toNat) g else .bad
    | _, _ => .bad
  | .rng _, _, _ => .bad
  | .enum e, L, g => (ev T cf e L g).bind fun x g => match x with
    | .tmp xs => .ok (.enumT xs) g
    | .d (.ref n) => match g[n]? with
      | some (.lst _) => .ok (.enumL n) g
      | _ => .bad
    | _ => .bad
  | .zip _ _, _, _ => .bad
  | .revd _, _, _ => .bad
end

def R.toO {α : Type} (r : R α) (L : Lc) (k : α → G → O) : O :=
  match r with
  | .ok a g => k a g
  | .ex x g => .ex x L g
  | .bad => .bad
def O.then (o : O) (k : Lc → G → O) : O :=
  match o with
  | .nx L g => k L g
  | o => o
mutual
def evS (T : Tb) (cf : Cf) : S → Lc → G → O
  | .set t e, L, g => (ev T cf e L g).lay.toO L fun d g => match asg t d g L with
    | some L1 => .nx L1 g
    | none => .bad
  | .par i j a b, L, g => (ev T cf a L g).lay.toO L fun x g => (ev T cf b L g).lay.toO L fun y g => .nx ((L.set i (some x)).set j (some y)) g
  | .aug i o e, L, g => match L[i]? with
    | some (some x) => (ev T cf e L g).toO L fun y g => match augop o x y with
      | some z => .nx (L.set i (some z)) g
      | none => .bad
    | _ => .bad
  | .augF a f o e, L, g => (ev T cf a L g).toO L fun x g => match x with
    | .d x => match getF T g x f with
      | some v => (ev T cf e L g).toO L fun y g1 => match augop o v y with
        | some z => if clsAt g x = clsAt g1 x then (match setFld T g1 x f z with
          | some g' => .nx L g'
          | none => .bad) else .bad
        | none => .bad
      | none => .bad
    | _ => .bad
  | .setF a f e, L, g => (ev T cf e L g).lay.toO L fun v g => (ev T cf a L g).toO L fun x g => match x with
    | .d x => match setFld T g x f v with
      | some g' => .nx L g'
      | none => .bad
    | _ => .bad
  | .setI a i e, L, g => (ev T cf e L g).lay.toO L fun v g => (ev T cf a L g).toO L fun x g => match x with
    | .d x => (ev T cf i L g).toO L fun y g => match y with
      | .d y => match setIx g x y v with
        | some g' => .nx L g'
        | none => .bad
      | _ => .bad
    | _ => .bad
  | .ex e, L, g => (ev T cf e L g).toO L fun _ g => .nx L g
  | .ifs c a b, L, g => (ev T cf c L g).test.toO L fun t g => if t then evSs T cf a L g else evSs T cf b L g
  | .whl c b, L, g => loopW (fun L g => (ev T cf c L g).test) (fun L g => evSs T cf b L g) fuel L g
  | .for t s b, L, g => (evI T cf s L g).toO L fun it g => loopF it t (fun L g => evSs T cf b L g) fuel 0 L g
  | .ret e, L, g => (ev T cf e L g).lay.toO L fun d g => .rt d g
  | .ret0, _, g => .rt .non g
  | .raise C, L, g => .ex ⟨C, []⟩ L g
  | .try b C x h, L, g => match evSs T cf b L g with
    | .ex e L g => match T.sub e.cls C with
      | some true => match x with
        | none => (match evSs T cf h L g with
          | .ex _ _ _ => .bad
          | o => o)
        | some _ => .bad
      | some false => .ex e L g
      | none => .bad
    | o => o
  | .pass, L, g => .nx L g
  | .brk, L, g => .br L g
  | .cnt, L, g => .ct L g
def evSs (T : Tb) (cf : Cf) : Ss → Lc → G → O
  | .nil, L, g => .nx L g
  | .cons s ss, L, g => (evS T cf s L g).then fun L g => evSs T cf ss L g
end

def runF (T : Tb) : Nat → Cf
  | 0, _, _, _ => .bad
  | k + 1, f, ds, g => match T.fn f with
    | none => .bad
    | some F => if ds.length = F.np then (match evSs T (runF T k) F.body (ds.map some ++ List.replicate (F.ns - F.np) none) g with
      | .nx _ g => .ok .non g
      | .rt d g => .ok d g
      | .ex x _ g => .ex x g
      | _ => .bad) else .bad
end Py
set_option linter.all false
set_option maxRecDepth 100000
/-! Pl0: plain tools for laws: loops. -/
namespace Py
/-- turns of a comprehension -/
theorem loopC_ind {it : It} {t : Tg} {c : Lc → G → R Bool} {e : Lc → G → R D} {L : Lc} {n : Nat} (P : Nat → List D → G → Prop)
    (step : ∀ i acc g, i < n → P i acc g → ∃ d L1, turn g it i = some (some d) ∧ asg t d g L = some L1 ∧ acc.length < line ∧ ((∃ y g1 g2, c L1 g = .ok true g1 ∧ e L1 g1 = .ok y g2 ∧ P (i + 1) (acc ++ [y]) g2) ∨ ∃ g1, c L1 g = .ok false g1 ∧ P (i + 1) acc g1))
    (stop : ∀ acc g, P n acc g → turn g it n = some none) :
    ∀ (m i : Nat) (acc : List D) (g : G), i ≤ n → n < m + i → P i acc g → ∃ acc' g', loopC it t c e L m i acc g = .ok acc' g' ∧ P n acc' g'
  | 0, i, acc, g, h1, h2, _ => by omega
  | m + 1, i, acc, g, h1, h2, p => by
    by_cases hi : i = n
    · subst hi
      exact ⟨acc, g, by rw [loopC, stop acc g p], p⟩
    · obtain ⟨d, L1, e1, e2, hl, h⟩ := step i acc g (by omega) p
      rcases h with ⟨y, g1, g2, e3, e4, p'⟩ | ⟨g1, e3, p'⟩
      · obtain ⟨acc', g', q, p''⟩ := loopC_ind P step stop m (i + 1) (acc ++ [y]) g2 (by omega) (by omega) p'
        exact ⟨acc', g', by simp only [loopC, e1, e2, e3, e4, if_pos hl, q], p''⟩
      · obtain ⟨acc', g', q, p''⟩ := loopC_ind P step stop m (i + 1) acc g1 (by omega) (by omega) p'
        exact ⟨acc', g', by simp only [loopC, e1, e2, e3, q], p''⟩
/-- a comprehension over values whose turns leave the heap as it is -/
theorem loopC_map {xs : List D} {i : Nat} {e : Lc → G → R D} {L : Lc} {g : G} {c : Lc → G → R Bool} (f : D → D) (hx : xs.length < line) (hc : ∀ L, c L g = .ok true g) (he : ∀ x ∈ xs, e (L.set i (some x)) g = .ok (f x) g) :
    loopC (.vals xs) (.nm i) c e L fuel 0 [] g = .ok (xs.map f) g := by
  obtain ⟨acc, g', h, p⟩ := loopC_ind (it := .vals xs) (t := .nm i) (c := c) (e := e) (L := L) (n := xs.length) (fun j acc g' => g' = g ∧ acc = (xs.take j).map f)
    (fun j acc g' hj ⟨e1, e2⟩ => by
      subst e1 e2
      refine ⟨xs[j], L.set i (some xs[j]), by simp [turn, hj], rfl, by simp; omega, .inl ⟨f xs[j], g', g', hc _, he _ (List.getElem_mem hj), rfl, ?_⟩⟩
      rw [List.take_add_one, List.getElem?_eq_getElem hj, List.map_append]
      rfl)
    (fun acc g' ⟨e1, e2⟩ => by simp [turn]) fuel 0 [] g (Nat.zero_le _) (by unfold fuel line at *; omega) ⟨rfl, by simp⟩
  obtain ⟨rfl, rfl⟩ := p
  rw [h, List.take_length]
theorem loopC_mapS {z : Tx} {i : Nat} {e : Lc → G → R D} {L : Lc} {g : G} {c : Lc → G → R Bool} (f : Char → D) (hx : z.length < line) (hc : ∀ L, c L g = .ok true g) (he : ∀ x ∈ z, e (L.set i (some (.str [x]))) g = .ok (f x) g) :
    loopC (.sgn z) (.nm i) c e L fuel 0 [] g = .ok (z.map f) g := by
  obtain ⟨acc, g', h, p⟩ := loopC_ind (it := .sgn z) (t := .nm i) (c := c) (e := e) (L := L) (n := z.length) (fun j acc g' => g' = g ∧ acc = (z.take j).map f)
    (fun j acc g' hj ⟨e1, e2⟩ => by
      subst e1 e2
      refine ⟨.str [z[j]], L.set i (some (.str [z[j]])), by simp [turn, hj], rfl, by simp; omega, .inl ⟨f z[j], g', g', hc _, he _ (List.getElem_mem hj), rfl, ?_⟩⟩
      rw [List.take_add_one, List.getElem?_eq_getElem hj, List.map_append]
      rfl)
    (fun acc g' ⟨e1, e2⟩ => by simp [turn]) fuel 0 [] g (Nat.zero_le _) (by unfold fuel line at *; omega) ⟨rfl, by simp⟩
  obtain ⟨rfl, rfl⟩ := p
  rw [h, List.take_length]
/-- turns of a for whose body goes on to the next -/
theorem loopF_ind {it : It} {t : Tg} {body : Lc → G → O} {n : Nat} (P : Nat → Lc → G → Prop)
    (step : ∀ i L g, i < n → P i L g → ∃ d L1, turn g it i = some (some d) ∧ asg t d g L = some L1 ∧ ∃ L2 g2, (body L1 g = .nx L2 g2 ∨ body L1 g = .ct L2 g2) ∧ P (i + 1) L2 g2)
    (stop : ∀ L g, P n L g → turn g it n = some none) :
    ∀ (m i : Nat) (L : Lc) (g : G), i ≤ n → n < m + i → P i L g → ∃ L' g', loopF it t body m i L g = .nx L' g' ∧ P n L' g'
  | 0, i, L, g, h1, h2, _ => by omega
  | m + 1, i, L, g, h1, h2, p => by
    by_cases hi : i = n
    · subst hi
      exact ⟨L, g, by rw [loopF, stop L g p], p⟩
    · obtain ⟨d, L1, e1, e2, L2, g2, e3, p'⟩ := step i L g (by omega) p
      obtain ⟨L', g', q, p''⟩ := loopF_ind P step stop m (i + 1) L2 g2 (by omega) (by omega) p'
      refine ⟨L', g', ?_, p''⟩
      rcases e3 with e3 | e3 <;> simp only [loopF, e1, e2, e3, q]
theorem runF_rt {T : Tb} {k f : Nat} {F : Fn} {ds : List D} {g g' : G} {d : D} (hF : T.fn f = some F) (hn : ds.length = F.np) (h : evSs T (runF T k) F.body (ds.map some ++ List.replicate (F.ns - F.np) none) g = .rt d g') : runF T (k + 1) f ds g = .ok d g' := by
  simp only [runF, hF]
  rw [if_pos hn, h]
theorem runF_nx {T : Tb} {k f : Nat} {F : Fn} {ds : List D} {L : Lc} {g g' : G} (hF : T.fn f = some F) (hn : ds.length = F.np) (h : evSs T (runF T k) F.body (ds.map some ++ List.replicate (F.ns - F.np) none) g = .nx L g') : runF T (k + 1) f ds g = .ok .non g' := by
  simp only [runF, hF]
  rw [if_pos hn, h]
theorem runF_ex {T : Tb} {k f : Nat} {F : Fn} {ds : List D} {L : Lc} {x : Xc} {g g' : G} (hF : T.fn f = some F) (hn : ds.length = F.np) (h : evSs T (runF T k) F.body (ds.map some ++ List.replicate (F.ns - F.np) none) g = .ex x L g') : runF T (k + 1) f ds g = .ex x g' := by
  simp only [runF, hF]
  rw [if_pos hn, h]
/-- the first statement, the others -/
def ss0 : Ss → S
  | .cons s _ => s
  | .nil => .pass
def ss1 : Ss → Ss
  | .cons _ b => b
  | .nil => .nil
theorem run_ss {T : Tb} {cf : Cf} {b : Ss} {L L1 : Lc} {g g1 : G} (h : evS T cf (ss0 b) L g = .nx L1 g1) (hb : b = .cons (ss0 b) (ss1 b)) : evSs T cf b L g = evSs T cf (ss1 b) L1 g1 := by
  rw [hb, evSs]
  show (evS T cf (ss0 b) L g).then _ = _
  rw [h]
  rfl
theorem run_rt {T : Tb} {cf : Cf} {b : Ss} {L : Lc} {d : D} {g g1 : G} (h : evS T cf (ss0 b) L g = .rt d g1) (hb : b = .cons (ss0 b) (ss1 b)) : evSs T cf b L g = .rt d g1 := by
  rw [hb, evSs]
  show (evS T cf (ss0 b) L g).then _ = _
  rw [h]
  rfl
/-! ### the heap but one place -/
def Keep (r : Nat) (g g' : G) : Prop := ∀ n o, n ≠ r → g[n]? = some o → g'[n]? = some o
theorem Keep.refl (r : Nat) (g : G) : Keep r g g := fun _ _ _ h => h
theorem Keep.trans {r : Nat} {g g' g'' : G} (h : Keep r g g') (h' : Keep r g' g'') : Keep r g g'' := fun n o hn e => h' n o hn (h n o hn e)
theorem set_self {g : G} {r : Nat} {o o' : Ob} (h : g[r]? = some o) : (g.set r o')[r]? = some o' := by
  rw [List.getElem?_set_self (List.getElem?_eq_some_iff.mp h).1]
theorem set_keep {g : G} {r : Nat} {o' : Ob} : Keep r g (g.set r o') := fun n o hn h => by rw [List.getElem?_set_ne (Ne.symm hn)]; exact h
theorem Keep.push {r : Nat} {g : G} {os : List Ob} : Keep r g (g ++ os) := fun n o hn h => by rw [List.getElem?_append_left (List.getElem?_eq_some_iff.mp h).1]; exact h
theorem emod_lt {v m : Int} (h : 0 < m) : 0 ≤ v % m ∧ v % m < m := ⟨Int.emod_nonneg _ (by omega), Int.emod_lt_of_pos _ h⟩
theorem ev_comp {T : Tb} {cf : Cf} {t : Tg} {s : Src} {c e : E} {L : Lc} {g g1 g' : G} {it : It} {acc : List D} (hi : evI T cf s L g = .ok it g1) (hl : loopC it t (fun L g => (ev T cf c L g).test) (fun L g => (ev T cf e L g).lay) L fuel 0 [] g1 = .ok acc g') : ev T cf (.comp t s c e) L g = .ok (.tmp acc) g' := by
  rw [ev, hi]
  show (loopC it t _ _ L fuel 0 [] g1).bind _ = _
  rw [hl]
  rfl
theorem ev_for {T : Tb} {cf : Cf} {t : Tg} {s : Src} {b : Ss} {L L' : Lc} {g g1 g' : G} {it : It} (hi : evI T cf s L g = .ok it g1) (hl : loopF it t (fun L g => evSs T cf b L g) fuel 0 L g1 = .nx L' g') : evS T cf (.for t s b) L g = .nx L' g' := by
  rw [evS, hi]
  exact hl
end Py
set_option linter.all false
set_option maxRecDepth 100000
namespace K01
open Py
/-- is_whole: 0 value -/
def fn0 : Fn := ⟨1, 1, (.cons (.ret (.and (.isi (.v 0) .int) (.not (.isi (.v 0) .bool)))) .nil)⟩
def fn1_c0 : E := .comp (.nm 1) (.it (.v 0)) (.c (.bl true)) (.or (.cmp .isin (.v 1) (.g 4)) (.cmp .isin (.v 1) (.g 5)))
/-- is_atom: 0 value 1 sign -/
def fn1 : Fn := ⟨1, 2, (.cons (.ifs (.or (.not (.isi (.v 0) .str)) (.or (.not (.cmp2 .le .le (.c (.int 1)) (.bi .len (.cons (.v 0) .nil)) (.g 2))) (.cmp .notin (.ix (.v 0) (.c (.int 0))) (.g 4)))) (.cons (.ret (.c (.bl false))) .nil) .nil) (.cons (.ret (.bi .all (.cons fn1_c0 .nil))) .nil))⟩
/-- is_count: 0 value -/
def fn2 : Fn := ⟨1, 1, (.cons (.ret (.and (.call 0 (.cons (.v 0) .nil)) (.cmp2 .le .le (.c (.int 0)) (.v 0) (.g 3)))) .nil)⟩
def fn3_c0 : E := .comp (.nm 3) (.it (.ix (.v 0) (.c (.int 2)))) (.c (.bl true)) (.and (.call 0 (.cons (.v 3) .nil)) (.cmp2 .le .lt (.c (.int 0)) (.v 3) (.v 1)))
/-- is_node: 0 value 1 count 2 word 3 part -/
def fn3 : Fn := ⟨2, 4, (.cons (.ifs (.or (.not (.isi (.v 0) .tuple)) (.or (.not (.v 0)) (.not (.isi (.ix (.v 0) (.c (.int 0))) .str)))) (.cons (.ret (.c (.bl false))) .nil) .nil) (.cons (.set (.nm 2) (.ix (.v 0) (.c (.int 0)))) (.cons (.ifs (.cmp .eq (.v 2) (.c (.str ['v', 'a', 'r']))) (.cons (.ret (.and (.cmp .eq (.bi .len (.cons (.v 0) .nil)) (.c (.int 2))) (.call 2 (.cons (.ix (.v 0) (.c (.int 1))) .nil)))) .nil) .nil) (.cons (.ifs (.cmp .eq (.v 2) (.c (.str ['i', 'n', 't']))) (.cons (.ret (.and (.cmp .eq (.bi .len (.cons (.v 0) .nil)) (.c (.int 2))) (.and (.call 0 (.cons (.ix (.v 0) (.c (.int 1))) .nil)) (.cmp .le (.bi .abs (.cons (.ix (.v 0) (.c (.int 1))) .nil)) (.g 3))))) .nil) .nil) (.cons (.ifs (.cmp .eq (.v 2) (.c (.str ['a', 't', 'o', 'm']))) (.cons (.ret (.and (.cmp .eq (.bi .len (.cons (.v 0) .nil)) (.c (.int 2))) (.call 1 (.cons (.ix (.v 0) (.c (.int 1))) .nil)))) .nil) .nil) (.cons (.ifs (.or (.cmp .ne (.bi .len (.cons (.v 0) .nil)) (.c (.int 3))) (.not (.call 1 (.cons (.ix (.v 0) (.c (.int 1))) .nil)))) (.cons (.ret (.c (.bl false))) .nil) .nil) (.cons (.ifs (.cmp .eq (.v 2) (.c (.str ['n', 'a', 'm', 'e']))) (.cons (.ret (.call 2 (.cons (.ix (.v 0) (.c (.int 2))) .nil))) .nil) .nil) (.cons (.ifs (.or (.cmp .ne (.v 2) (.c (.str ['t', 'u', 'p', 'l', 'e']))) (.or (.not (.isi (.ix (.v 0) (.c (.int 2))) .tuple)) (.not (.cmp2 .le .le (.c (.int 1)) (.bi .len (.cons (.ix (.v 0) (.c (.int 2))) .nil)) (.g 1))))) (.cons (.ret (.c (.bl false))) .nil) .nil) (.cons (.ret (.bi .all (.cons fn3_c0 .nil))) .nil)))))))))⟩
def fn4_c0 : E := .comp (.nm 1) (.it (.v 0)) (.c (.bl true)) (.call 3 (.cons (.v 1) (.cons (.bi .len (.cons (.v 0) .nil)) .nil)))
/-- is_graph: 0 value 1 node -/
def fn4 : Fn := ⟨1, 2, (.cons (.ifs (.or (.not (.isi (.v 0) .tuple)) (.not (.cmp2 .le .le (.c (.int 1)) (.bi .len (.cons (.v 0) .nil)) (.g 0)))) (.cons (.ret (.c (.bl false))) .nil) .nil) (.cons (.ret (.bi .all (.cons fn4_c0 .nil))) .nil))⟩
def fn5_b0 : Ss := (.cons (.set (.nm 1) (.bin .mod (.bi .int (.cons (.bin .add (.bin .add (.bin .mul (.v 1) (.c (.int 48271))) (.bin .mod (.bi .int (.cons (.v 2) .nil)) (.c (.int 65521)))) (.c (.int 1))) .nil)) (.c (.int 2147483647)))) .nil)
def fn5_l1 : S := .for (.nm 2) (.it (.v 0)) fn5_b0
/-- _law_stream: 0 script 1 mixed 2 cell -/
def fn5 : Fn := ⟨1, 3, (.cons (.set (.nm 1) (.c (.int 17))) (.cons fn5_l1 (.cons (.ret (.lst (.cons (.bi .list (.cons (.v 0) .nil)) (.cons (.c (.int 0)) (.cons (.c (.int 0)) (.cons (.v 1) .nil)))))) .nil)))⟩
/-- _law_draw: 0 stream 1 many 2 value -/
def fn6 : Fn := ⟨2, 3, (.cons (.ifs (.and (.cmp .eq (.ix (.v 0) (.c (.int 1))) (.c (.int 0))) (.cmp .lt (.ix (.v 0) (.c (.int 2))) (.bi .len (.cons (.ix (.v 0) (.c (.int 0))) .nil)))) (.cons (.setI (.v 0) (.c (.int 1)) (.bi .abs (.cons (.bi .int (.cons (.ix (.ix (.v 0) (.c (.int 0))) (.ix (.v 0) (.c (.int 2)))) .nil)) .nil))) (.cons (.setI (.v 0) (.c (.int 2)) (.bin .add (.ix (.v 0) (.c (.int 2))) (.c (.int 1)))) .nil)) .nil) (.cons (.ifs (.cmp .eq (.ix (.v 0) (.c (.int 1))) (.c (.int 0))) (.cons (.setI (.v 0) (.c (.int 3)) (.bin .mod (.bi .int (.cons (.bin .add (.bin .mul (.ix (.v 0) (.c (.int 3))) (.c (.int 48271))) (.c (.int 11))) .nil)) (.c (.int 2147483647)))) (.cons (.ret (.bin .mod (.bi .int (.cons (.bin .fdiv (.ix (.v 0) (.c (.int 3))) (.c (.int 97))) .nil)) (.v 1))) .nil)) .nil) (.cons (.set (.nm 2) (.bin .mod (.bi .int (.cons (.ix (.v 0) (.c (.int 1))) .nil)) (.v 1))) (.cons (.setI (.v 0) (.c (.int 1)) (.bin .fdiv (.ix (.v 0) (.c (.int 1))) (.v 1))) (.cons (.ret (.v 2)) .nil)))))⟩
def fn7_c0 : E := .comp (.nm 1) (.it (.v 0)) (.c (.bl true)) (.call 7 (.cons (.v 1) .nil))
/-- _law_is_pythons: 0 value 1 part -/
def fn7 : Fn := ⟨1, 2, (.cons (.ifs (.or (.isi (.v 0) .tuple) (.isi (.v 0) .list)) (.cons (.ret (.bi .all (.cons fn7_c0 .nil))) .nil) .nil) (.cons (.ret (.or (.cmp .is (.v 0) (.c (.non))) (.or (.isi (.v 0) .str) (.isi (.v 0) .int)))) .nil))⟩
/-- _law_given_back: 0 value -/
def fn8 : Fn := ⟨1, 1, (.cons (.ret (.ite (.call 7 (.cons (.v 0) .nil)) (.v 0) (.c (.str ['o', 'd', 'd'])))) .nil)⟩
/-- _law_far: 0 stream -/
def fn9 : Fn := ⟨1, 1, (.cons (.ifs (.cmp .gt (.call 6 (.cons (.v 0) (.cons (.c (.int 4)) .nil))) (.c (.int 0))) (.cons (.ret (.call 6 (.cons (.v 0) (.cons (.c (.int 3)) .nil)))) .nil) .nil) (.cons (.ret (.ix (.lst (.cons (.c (.int 10)) (.cons (.c (.int 12)) (.cons (.bin .pow (.c (.int 10)) (.c (.int 9))) (.cons (.call 6 (.cons (.v 0) (.cons (.bin .pow (.c (.int 10)) (.c (.int 9))) .nil))) .nil))))) (.call 6 (.cons (.v 0) (.cons (.c (.int 4)) .nil))))) .nil))⟩
def fn10_b0 : Ss := (.cons (.set (.nm 1) (.bin .add (.v 1) (.ix (.c (.str ['a', 'b', 'z', '0', '1', '9'])) (.call 6 (.cons (.v 0) (.cons (.c (.int 6)) .nil)))))) .nil)
def fn10_l1 : S := .for (.nm 2) (.rng (.cons (.call 6 (.cons (.v 0) (.cons (.c (.int 3)) .nil))) .nil)) fn10_b0
/-- _law_atom: 0 stream 1 atom 2 k -/
def fn10 : Fn := ⟨1, 3, (.cons (.ifs (.cmp .gt (.call 6 (.cons (.v 0) (.cons (.c (.int 3)) .nil))) (.c (.int 0))) (.cons (.ret (.ix (.lst (.cons (.c (.str ['a'])) (.cons (.c (.str ['b'])) (.cons (.c (.str ['n', 'i', 'l'])) (.cons (.c (.str ['x', '1'])) (.cons (.c (.str ['a', 'b', 'c', 'd', 'e', 'f', 'g', 'h', 'i', 'j', 'k', 'l'])) .nil)))))) (.call 6 (.cons (.v 0) (.cons (.c (.int 5)) .nil))))) .nil) .nil) (.cons (.set (.nm 1) (.ix (.c (.str ['a', 'b', 'z'])) (.call 6 (.cons (.v 0) (.cons (.c (.int 3)) .nil))))) (.cons fn10_l1 (.cons (.ret (.v 1)) .nil))))⟩
def fn11_c0 : E := .comp (.nm 4) (.rng (.cons (.ix (.lst (.cons (.c (.int 1)) (.cons (.c (.int 2)) (.cons (.c (.int 2)) (.cons (.c (.int 3)) (.cons (.c (.int 6)) .nil)))))) (.call 6 (.cons (.v 0) (.cons (.c (.int 5)) .nil)))) .nil)) (.c (.bl true)) (.call 6 (.cons (.v 0) (.cons (.v 1) .nil)))
/-- _law_node: 0 stream 1 many 2 pick 3 parts 4 k -/
def fn11 : Fn := ⟨2, 5, (.cons (.set (.nm 2) (.call 6 (.cons (.v 0) (.cons (.c (.int 9)) .nil)))) (.cons (.ifs (.cmp .eq (.v 2) (.c (.int 0))) (.cons (.ret (.tup (.cons (.c (.str ['v', 'a', 'r'])) (.cons (.call 9 (.cons (.v 0) .nil)) .nil)))) .nil) .nil) (.cons (.ifs (.cmp .eq (.v 2) (.c (.int 1))) (.cons (.ret (.tup (.cons (.c (.str ['i', 'n', 't'])) (.cons (.ix (.lst (.cons (.c (.int 0)) (.cons (.c (.int 1)) (.cons (.neg (.c (.int 1))) (.cons (.c (.int 7)) (.cons (.neg (.c (.int 12))) (.cons (.bin .pow (.c (.int 10)) (.c (.int 9))) (.cons (.neg (.bin .pow (.c (.int 10)) (.c (.int 9)))) .nil)))))))) (.call 6 (.cons (.v 0) (.cons (.c (.int 7)) .nil)))) .nil)))) .nil) .nil) (.cons (.ifs (.cmp .eq (.v 2) (.c (.int 2))) (.cons (.ret (.tup (.cons (.c (.str ['a', 't', 'o', 'm'])) (.cons (.call 10 (.cons (.v 0) .nil)) .nil)))) .nil) .nil) (.cons (.ifs (.cmp .eq (.v 2) (.c (.int 3))) (.cons (.ret (.tup (.cons (.c (.str ['n', 'a', 'm', 'e'])) (.cons (.call 10 (.cons (.v 0) .nil)) (.cons (.call 9 (.cons (.v 0) .nil)) .nil))))) .nil) .nil) (.cons (.set (.nm 3) fn11_c0) (.cons (.ret (.tup (.cons (.c (.str ['t', 'u', 'p', 'l', 'e'])) (.cons (.ix (.lst (.cons (.c (.str ['f'])) (.cons (.c (.str ['f'])) (.cons (.c (.str ['f', 'a'])) (.cons (.c (.str ['c', 'o', 'n', 's'])) (.cons (.c (.str ['c', 'e', 'l', 'l'])) .nil)))))) (.call 6 (.cons (.v 0) (.cons (.c (.int 5)) .nil)))) (.cons (.bi .tuple (.cons (.v 3) .nil)) .nil))))) .nil)))))))⟩
def fn12_c0 : E := .comp (.nm 3) (.rng (.cons (.v 2) .nil)) (.c (.bl true)) (.call 11 (.cons (.v 0) (.cons (.v 2) .nil)))
/-- _law_graph: 0 stream 1 most 2 many 3 k -/
def fn12 : Fn := ⟨2, 4, (.cons (.set (.nm 2) (.bin .add (.c (.int 1)) (.call 6 (.cons (.v 0) (.cons (.v 1) .nil))))) (.cons (.ret (.bi .tuple (.cons fn12_c0 .nil))) .nil))⟩
/-- _law_is_number: 0 value 1 low 2 high -/
def fn13 : Fn := ⟨3, 3, (.cons (.ret (.and (.isi (.v 0) .int) (.and (.not (.isi (.v 0) .bool)) (.cmp2 .le .le (.v 1) (.v 0) (.v 2))))) .nil)⟩
def fn14_c0 : E := .comp (.nm 2) (.it (.v 0)) (.c (.bl true)) (.cmp .isin (.v 2) (.bin .add (.v 1) (.c (.str ['0', '1', '2', '3', '4', '5', '6', '7', '8', '9']))))
/-- _law_is_atom: 0 value 1 letters 2 sign -/
def fn14 : Fn := ⟨1, 3, (.cons (.set (.nm 1) (.c (.str ['a', 'b', 'c', 'd', 'e', 'f', 'g', 'h', 'i', 'j', 'k', 'l', 'm', 'n', 'o', 'p', 'q', 'r', 's', 't', 'u', 'v', 'w', 'x', 'y', 'z']))) (.cons (.ifs (.or (.not (.isi (.v 0) .str)) (.or (.not (.cmp2 .le .le (.c (.int 1)) (.bi .len (.cons (.v 0) .nil)) (.c (.int 12)))) (.cmp .notin (.ix (.v 0) (.c (.int 0))) (.v 1)))) (.cons (.ret (.c (.bl false))) .nil) .nil) (.cons (.ret (.bi .all (.cons fn14_c0 .nil))) .nil)))⟩
def fn15_c0 : E := .comp (.nm 2) (.it (.ix (.v 0) (.c (.int 2)))) (.c (.bl true)) (.call 13 (.cons (.v 2) (.cons (.c (.int 0)) (.cons (.bin .sub (.v 1) (.c (.int 1))) .nil))))
/-- _law_is_node: 0 node 1 many 2 part -/
def fn15 : Fn := ⟨2, 3, (.cons (.ifs (.or (.not (.isi (.v 0) .tuple)) (.or (.cmp .lt (.bi .len (.cons (.v 0) .nil)) (.c (.int 2))) (.not (.isi (.ix (.v 0) (.c (.int 0))) .str)))) (.cons (.ret (.c (.bl false))) .nil) .nil) (.cons (.ifs (.cmp .eq (.ix (.v 0) (.c (.int 0))) (.c (.str ['v', 'a', 'r']))) (.cons (.ret (.and (.cmp .eq (.bi .len (.cons (.v 0) .nil)) (.c (.int 2))) (.call 13 (.cons (.ix (.v 0) (.c (.int 1))) (.cons (.c (.int 0)) (.cons (.bin .pow (.c (.int 10)) (.c (.int 9))) .nil)))))) .nil) .nil) (.cons (.ifs (.cmp .eq (.ix (.v 0) (.c (.int 0))) (.c (.str ['i', 'n', 't']))) (.cons (.ret (.and (.cmp .eq (.bi .len (.cons (.v 0) .nil)) (.c (.int 2))) (.call 13 (.cons (.ix (.v 0) (.c (.int 1))) (.cons (.neg (.bin .pow (.c (.int 10)) (.c (.int 9)))) (.cons (.bin .pow (.c (.int 10)) (.c (.int 9))) .nil)))))) .nil) .nil) (.cons (.ifs (.cmp .eq (.ix (.v 0) (.c (.int 0))) (.c (.str ['a', 't', 'o', 'm']))) (.cons (.ret (.and (.cmp .eq (.bi .len (.cons (.v 0) .nil)) (.c (.int 2))) (.call 14 (.cons (.ix (.v 0) (.c (.int 1))) .nil)))) .nil) .nil) (.cons (.ifs (.or (.cmp .ne (.bi .len (.cons (.v 0) .nil)) (.c (.int 3))) (.not (.call 14 (.cons (.ix (.v 0) (.c (.int 1))) .nil)))) (.cons (.ret (.c (.bl false))) .nil) .nil) (.cons (.ifs (.cmp .eq (.ix (.v 0) (.c (.int 0))) (.c (.str ['n', 'a', 'm', 'e']))) (.cons (.ret (.call 13 (.cons (.ix (.v 0) (.c (.int 2))) (.cons (.c (.int 0)) (.cons (.bin .pow (.c (.int 10)) (.c (.int 9))) .nil))))) .nil) .nil) (.cons (.ifs (.or (.cmp .ne (.ix (.v 0) (.c (.int 0))) (.c (.str ['t', 'u', 'p', 'l', 'e']))) (.or (.not (.isi (.ix (.v 0) (.c (.int 2))) .tuple)) (.not (.cmp2 .le .le (.c (.int 1)) (.bi .len (.cons (.ix (.v 0) (.c (.int 2))) .nil)) (.c (.int 6)))))) (.cons (.ret (.c (.bl false))) .nil) .nil) (.cons (.ret (.bi .all (.cons fn15_c0 .nil))) .nil))))))))⟩
def fn16_c0 : E := .comp (.nm 1) (.it (.v 0)) (.c (.bl true)) (.call 15 (.cons (.v 1) (.cons (.bi .len (.cons (.v 0) .nil)) .nil)))
/-- _law_due: 0 value 1 node -/
def fn16 : Fn := ⟨1, 2, (.cons (.ifs (.or (.not (.isi (.v 0) .tuple)) (.not (.cmp2 .le .le (.c (.int 1)) (.bi .len (.cons (.v 0) .nil)) (.c (.int 400))))) (.cons (.ret (.c (.bl false))) .nil) .nil) (.cons (.ret (.bi .all (.cons fn16_c0 .nil))) .nil))⟩
/-- _law_odd: 0 stream 1 many 2 odd -/
def fn17 : Fn := ⟨2, 3, (.cons (.set (.nm 2) (.lst (.cons (.c (.bl true)) (.cons (.c (.bl false)) (.cons (.c (.non)) (.cons (.neg (.c (.int 1))) (.cons (.v 1) (.cons (.bin .pow (.c (.int 10)) (.c (.int 9))) (.cons (.bin .add (.bin .pow (.c (.int 10)) (.c (.int 9))) (.c (.int 1))) (.cons (.bin .sub (.neg (.bin .pow (.c (.int 10)) (.c (.int 9)))) (.c (.int 1))) (.cons (.c (.str [])) (.cons (.c (.str ['A'])) (.cons (.c (.str ['1', 'a'])) (.cons (.c (.str ['a', '_', 'b'])) (.cons (.c (.str ['a', 'b', 'c', 'd', 'e', 'f', 'g', 'h', 'i', 'j', 'k', 'l', 'm'])) (.cons (.c (.str ['a', '\n'])) (.cons (.c (.str ['a', 'B'])) (.cons (.c (.str ['a', ' ', 'b'])) (.cons (.c (.str ['a', '-'])) (.cons (.c (.str ['a', '~'])) (.cons (.c (.str ['a', '0', 'B'])) .nil))))))))))))))))))))) (.cons (.set (.nm 2) (.bin .add (.v 2) (.lst (.cons (.tup .nil) (.cons (.bin .mul (.tup (.cons (.c (.int 0)) .nil)) (.c (.int 6))) (.cons (.bin .mul (.tup (.cons (.c (.int 0)) .nil)) (.c (.int 7))) (.cons (.lst (.cons (.c (.int 0)) .nil)) (.cons (.tup (.cons (.c (.int 0)) (.cons (.v 1) .nil))) (.cons (.tup (.cons (.c (.bl true)) .nil)) (.cons (.tup (.cons (.c (.non)) .nil)) (.cons (.c (.str ['v', 'a', 'r'])) (.cons (.c (.str ['i', 'n', 't'])) (.cons (.c (.str ['a', 't', 'o', 'm'])) (.cons (.c (.str ['t', 'u', 'p', 'l', 'e'])) (.cons (.c (.str ['n', 'a', 'm', 'e'])) (.cons (.c (.str ['z'])) .nil)))))))))))))))) (.cons (.ret (.ix (.v 2) (.call 6 (.cons (.v 0) (.cons (.bi .len (.cons (.v 2) .nil)) .nil))))) .nil)))⟩
/-- _law_changed: 0 stream 1 value 2 at 3 node 4 pick 5 spot -/
def fn18 : Fn := ⟨2, 6, (.cons (.set (.nm 2) (.call 6 (.cons (.v 0) (.cons (.bi .len (.cons (.v 1) .nil)) .nil)))) (.cons (.set (.nm 3) (.ix (.v 1) (.v 2))) (.cons (.set (.nm 4) (.call 6 (.cons (.v 0) (.cons (.c (.int 6)) .nil)))) (.cons (.ifs (.cmp .lt (.v 4) (.c (.int 3))) (.cons (.set (.nm 5) (.call 6 (.cons (.v 0) (.cons (.bi .len (.cons (.v 3) .nil)) .nil)))) (.cons (.set (.nm 3) (.bin .add (.bin .add (.slH (.v 3) (.v 5)) (.tup (.cons (.call 17 (.cons (.v 0) (.cons (.bi .len (.cons (.v 1) .nil)) .nil))) .nil))) (.slL (.v 3) (.bin .add (.v 5) (.c (.int 1)))))) .nil)) (.cons (.ifs (.cmp .eq (.v 4) (.c (.int 3))) (.cons (.set (.nm 3) (.ix (.lst (.cons (.slH (.v 3) (.neg (.c (.int 1)))) (.cons (.bin .add (.v 3) (.tup (.cons (.c (.int 0)) .nil))) (.cons (.bi .list (.cons (.v 3) .nil)) (.cons (.tup .nil) (.cons (.c (.non)) (.cons (.ix (.v 3) (.c (.int 0))) .nil))))))) (.call 6 (.cons (.v 0) (.cons (.c (.int 6)) .nil))))) .nil) (.cons (.ifs (.cmp .eq (.v 4) (.c (.int 4))) (.cons (.ret (.ix (.lst (.cons (.bi .list (.cons (.v 1) .nil)) (.cons (.tup .nil) (.cons (.c (.non)) (.cons (.c (.str ['a'])) (.cons (.ix (.v 1) (.v 2)) (.cons (.c (.int 0)) (.cons (.c (.bl true)) .nil)))))))) (.call 6 (.cons (.v 0) (.cons (.c (.int 7)) .nil))))) .nil) (.cons (.set (.nm 3) (.bin .add (.tup (.cons (.ix (.lst (.cons (.c (.str ['T', 'u', 'p', 'l', 'e'])) (.cons (.c (.str [])) (.cons (.c (.str ['i', 'n', 't', 's'])) (.cons (.c (.int 0)) (.cons (.c (.non)) .nil)))))) (.call 6 (.cons (.v 0) (.cons (.c (.int 5)) .nil)))) .nil)) (.slL (.v 3) (.c (.int 1))))) .nil)) .nil)) .nil)) (.cons (.ret (.bin .add (.bin .add (.slH (.v 1) (.v 2)) (.tup (.cons (.v 3) .nil))) (.slL (.v 1) (.bin .add (.v 2) (.c (.int 1)))))) .nil)))))⟩
def fn19_b0 : Ss := (.cons (.ifs (.and (.cmp .lt (.v 3) (.c (.int 2))) (.call 16 (.cons (.v 2) .nil))) (.cons (.set (.nm 2) (.call 18 (.cons (.v 1) (.cons (.v 2) .nil)))) .nil) .nil) .nil)
def fn19_l1 : S := .for (.nm 3) (.rng (.cons (.call 6 (.cons (.v 1) (.cons (.c (.int 4)) .nil))) .nil)) fn19_b0
/-- law: 0 script 1 stream 2 value 3 k 4 actual 5 many -/
def fn19 : Fn := ⟨1, 6, (.cons (.set (.nm 1) (.call 5 (.cons (.v 0) .nil))) (.cons (.set (.nm 2) (.call 12 (.cons (.v 1) (.cons (.c (.int 8)) .nil)))) (.cons (.ifs (.or (.cmp .isnt (.call 8 (.cons (.call 4 (.cons (.v 2) .nil)) .nil)) (.c (.bl true))) (.cmp .ne (.g 0) (.c (.int 400)))) (.cons (.ret (.c (.bl false))) .nil) .nil) (.cons fn19_l1 (.cons (.set (.nm 4) (.call 8 (.cons (.call 4 (.cons (.v 2) .nil)) .nil))) (.cons (.ifs (.or (.not (.isi (.v 4) .bool)) (.cmp .ne (.v 4) (.call 16 (.cons (.v 2) .nil)))) (.cons (.ret (.c (.bl false))) .nil) .nil) (.cons (.set (.nm 5) (.bin .add (.c (.int 399)) (.call 6 (.cons (.v 1) (.cons (.c (.int 4)) .nil))))) (.cons (.ret (.cmp .eq (.call 8 (.cons (.call 4 (.cons (.bin .mul (.tup (.cons (.tup (.cons (.c (.str ['a', 't', 'o', 'm'])) (.cons (.c (.str ['a'])) .nil))) .nil)) (.v 5)) .nil)) .nil)) (.cmp .le (.v 5) (.c (.int 400))))) .nil))))))))⟩
def fns : List Fn := [fn0, fn1, fn2, fn3, fn4, fn5, fn6, fn7, fn8, fn9, fn10, fn11, fn12, fn13, fn14, fn15, fn16, fn17, fn18, fn19]
/- globals: 0 MOST_NODES 1 MOST_PARTS 2 MOST_ATOM 3 MOST_NUMBER 4 SMALL 5 DIGITS -/
def gls : List (Option D) := [some (.int 400), some (.int 6), some (.int 12), some (.int 1000000000), some (.str ['a', 'b', 'c', 'd', 'e', 'f', 'g', 'h', 'i', 'j', 'k', 'l', 'm', 'n', 'o', 'p', 'q', 'r', 's', 't', 'u', 'v', 'w', 'x', 'y', 'z']), some (.str ['0', '1', '2', '3', '4', '5', '6', '7', '8', '9'])]
/- attributes:  -/
/- classes:  -/
def inis : List (Option Nat) := []
def mts : List (List (Nat × Nat)) := []
def subs : List (List Nat) := []
def T : Tb where
  fn k := fns[k]?
  ini C := (inis[C]?).bind id
  mt C m := (mts[C]?).bind (List.lookup m)
  sub c d := if c < subs.length then (if d < subs.length then (if (inis[c]?).bind id = none then (if (inis[d]?).bind id = none then some (((subs[c]?).getD []).contains d) else none) else none) else none) else none
  gl i := (gls[i]?).bind id
end K01
set_option linter.all false
set_option maxRecDepth 100000
namespace K01
open Py
theorem tf0 : T.fn 0 = some fn0 := rfl
theorem tf1 : T.fn 1 = some fn1 := rfl
theorem tf2 : T.fn 2 = some fn2 := rfl
theorem tf3 : T.fn 3 = some fn3 := rfl
theorem tf4 : T.fn 4 = some fn4 := rfl
theorem tf5 : T.fn 5 = some fn5 := rfl
theorem tf6 : T.fn 6 = some fn6 := rfl
theorem tf7 : T.fn 7 = some fn7 := rfl
theorem tf8 : T.fn 8 = some fn8 := rfl
theorem tf9 : T.fn 9 = some fn9 := rfl
theorem tf10 : T.fn 10 = some fn10 := rfl
theorem tf11 : T.fn 11 = some fn11 := rfl
theorem tf12 : T.fn 12 = some fn12 := rfl
theorem tf13 : T.fn 13 = some fn13 := rfl
theorem tf14 : T.fn 14 = some fn14 := rfl
theorem tf15 : T.fn 15 = some fn15 := rfl
theorem tf16 : T.fn 16 = some fn16 := rfl
theorem tf17 : T.fn 17 = some fn17 := rfl
theorem tf18 : T.fn 18 = some fn18 := rfl
theorem tf19 : T.fn 19 = some fn19 := rfl
theorem tg0 : T.gl 0 = some (.int 400) := rfl
theorem tg1 : T.gl 1 = some (.int 6) := rfl
theorem tg2 : T.gl 2 = some (.int 12) := rfl
theorem tg3 : T.gl 3 = some (.int 1000000000) := rfl
def smallT : Tx := ['a', 'b', 'c', 'd', 'e', 'f', 'g', 'h', 'i', 'j', 'k', 'l', 'm', 'n', 'o', 'p', 'q', 'r', 's', 't', 'u', 'v', 'w', 'x', 'y', 'z']
def digitT : Tx := ['0', '1', '2', '3', '4', '5', '6', '7', '8', '9']
theorem tg4 : T.gl 4 = some (.str smallT) := rfl
theorem tg5 : T.gl 5 = some (.str digitT) := rfl
/-! ### the stream -/
def Strm (ns : List Int) (l r : Nat) (g : G) : Prop := l ≠ r ∧ g[l]? = some (.lst (ns.map D.int)) ∧ ∃ a p m : Int, 0 ≤ a ∧ 0 ≤ p ∧ 0 ≤ m ∧ g[r]? = some (.lst [.ref l, .int a, .int p, .int m])
theorem draw0 {ns : List Int} {l r : Nat} {g : G} {cf : Cf} {many a p m : Int} (hlr : l ≠ r) (hl : g[l]? = some (.lst (ns.map D.int))) (ha : 0 ≤ a) (hp : 0 ≤ p) (hr : g[r]? = some (.lst [.ref l, .int a, .int p, .int m])) :
    ∃ g1 a1 p1, evS T cf (ss0 fn6.body) [some (.ref r), some (.int many), none] g = .nx [some (.ref r), some (.int many), none] g1 ∧ Keep r g g1 ∧ 0 ≤ a1 ∧ 0 ≤ p1 ∧ g1[r]? = some (.lst [.ref l, .int a1, .int p1, .int m]) := by
  by_cases hz : a = 0
  · subst hz
    by_cases hlt : p < ns.length
    · have hx : p.toNat < ns.length := by omega
      obtain ⟨x, e2⟩ : ∃ x, ns[p.toNat] = x := ⟨_, rfl⟩
      have hpn : ¬ p < 0 := by omega
      have hr1 : (g.set r (.lst [.ref l, .int (if x < 0 then -x else x), .int p, .int m]))[r]? = _ := set_self hr
      have h0 : 0 ≤ (if x < 0 then -x else x) := by split <;> omega
      generalize ey : (if x < 0 then -x else x) = y at hr1 h0
      have hr2 : ((g.set r (.lst [.ref l, .int y, .int p, .int m])).set r (.lst [.ref l, .int y, .int (p + 1), .int m]))[r]? = _ := set_self hr1
      refine ⟨_, y, p + 1, ?_, set_keep.trans set_keep, h0, by omega, hr2⟩
      simp [fn6, ss0, evSs, evS, ev, evs, evI, Py.R.bind, ofO, isinst, truth, Py.R.test, Py.R.lay, lay, Py.R.toO, Py.O.then, asg, items, listOf, index, setIx, built1, built2, lenOf, cmpop, binop, keyed, isin, tr, trX, trL, eqv, eqvs, btype, bmok, bmeth, boolsOf, atI, ixN, small, hr, hl, hlt, e2, hp, ey, hr1]
    · refine ⟨g, 0, p, ?_, .refl r g, by omega, hp, hr⟩
      simp [fn6, ss0, evSs, evS, ev, evs, evI, Py.R.bind, ofO, isinst, truth, Py.R.test, Py.R.lay, lay, Py.R.toO, Py.O.then, asg, items, listOf, index, setIx, built1, built2, lenOf, cmpop, binop, keyed, isin, tr, trX, trL, eqv, eqvs, btype, bmok, bmeth, boolsOf, atI, ixN, small, hr, hl, hlt]
  · refine ⟨g, a, p, ?_, .refl r g, ha, hp, hr⟩
    simp [fn6, ss0, evSs, evS, ev, evs, evI, Py.R.bind, ofO, isinst, truth, Py.R.test, Py.R.lay, lay, Py.R.toO, Py.O.then, asg, items, listOf, index, setIx, built1, built2, lenOf, cmpop, binop, keyed, isin, tr, trX, trL, eqv, eqvs, btype, bmok, bmeth, boolsOf, atI, ixN, small, hr, hl, hz]
theorem draw1 {ns : List Int} {l r : Nat} {g1 : G} {cf : Cf} {many a1 p1 m : Int} (hlr : l ≠ r) (hl1 : g1[l]? = some (.lst (ns.map D.int))) (ha1 : 0 ≤ a1) (hp1 : 0 ≤ p1) (hm : 0 ≤ m) (hr1 : g1[r]? = some (.lst [.ref l, .int a1, .int p1, .int m])) (h0 : 0 < many) (hb : many < 1073741824) :
    ∃ v g', (evSs T cf (ss1 fn6.body) [some (.ref r), some (.int many), none] g1) = .rt (.int v) g' ∧ 0 ≤ v ∧ v < many ∧ Strm ns l r g' ∧ Keep r g1 g' := by
  by_cases hz : a1 = 0
  · subst hz
    have hr2 : (g1.set r (.lst [.ref l, .int 0, .int p1, .int ((m * 48271 + 11) % 2147483647)]))[r]? = _ := set_self hr1
    refine ⟨((m * 48271 + 11) % 2147483647 / 97) % many, g1.set r (.lst [.ref l, .int 0, .int p1, .int ((m * 48271 + 11) % 2147483647)]), ?_, (emod_lt h0).1, (emod_lt h0).2, ⟨hlr, set_keep l _ hlr hl1, 0, p1, (m * 48271 + 11) % 2147483647, by omega, hp1, (emod_lt (by decide)).1, hr2⟩, set_keep⟩
    simp [fn6, ss1, evSs, evS, ev, evs, evI, Py.R.bind, ofO, isinst, truth, Py.R.test, Py.R.lay, lay, Py.R.toO, Py.O.then, asg, items, listOf, index, setIx, built1, built2, lenOf, cmpop, binop, keyed, isin, tr, trX, trL, eqv, eqvs, btype, bmok, bmeth, boolsOf, atI, ixN, small, hr1, hr2, h0]
  · have hr2 : (g1.set r (.lst [.ref l, .int (a1 / many), .int p1, .int m]))[r]? = _ := set_self hr1
    refine ⟨a1 % many, g1.set r (.lst [.ref l, .int (a1 / many), .int p1, .int m]), ?_, (emod_lt h0).1, (emod_lt h0).2, ⟨hlr, set_keep l _ hlr hl1, a1 / many, p1, m, Int.ediv_nonneg ha1 (by omega), hp1, hm, hr2⟩, set_keep⟩
    simp [fn6, ss1, evSs, evS, ev, evs, evI, Py.R.bind, ofO, isinst, truth, Py.R.test, Py.R.lay, lay, Py.R.toO, Py.O.then, asg, items, listOf, index, setIx, built1, built2, lenOf, cmpop, binop, keyed, isin, tr, trX, trL, eqv, eqvs, btype, bmok, bmeth, boolsOf, atI, ixN, small, hr1, hr2, h0, hz, hb]
theorem draw {ns : List Int} {l r k : Nat} {g : G} {many : Int} (s : Strm ns l r g) (h0 : 0 < many) (h1 : many ≤ 1000000000) : ∃ v g', runF T (k + 1) 6 [.ref r, .int many] g = .ok (.int v) g' ∧ 0 ≤ v ∧ v < many ∧ Strm ns l r g' ∧ Keep r g g' := by
  obtain ⟨hlr, hl, a, p, m, ha, hp, hm, hr⟩ := s
  obtain ⟨g1, a1, p1, e1, k1, ha1, hp1, hr1⟩ := draw0 (cf := runF T k) (many := many) hlr hl ha hp hr
  obtain ⟨v, g', e2, h2, h3, s', k2⟩ := draw1 (cf := runF T k) (many := many) hlr (k1 l _ hlr hl) ha1 hp1 hm hr1 h0 (by omega)
  refine ⟨v, g', ?_, h2, h3, s', k1.trans k2⟩
  exact runF_rt tf6 rfl ((run_ss e1 rfl).trans e2)
end K01
set_option linter.all false
set_option maxRecDepth 100000
namespace K01
open Py
theorem stream {ns : List Int} {k : Nat} (hn : ns.length ≤ 63) : ∃ g, runF T (k + 1) 5 [.ls (ns.map D.int)] [] = .ok (.ref 1) g ∧ Strm ns 0 1 g := by
  obtain ⟨L', g', e, m, d, hm, rfl, rfl⟩ : ∃ L' g', loopF (.vals (ns.map D.int)) (.nm 2) (fun L g => evSs T (runF T k) fn5_b0 L g) fuel 0 [some (.ls (ns.map D.int)), some (.int 17), none] [] = .nx L' g' ∧ ∃ m d, 0 ≤ m ∧ L' = [some (.ls (ns.map D.int)), some (.int m), d] ∧ g' = [] := by
    refine loopF_ind (n := ns.length) (fun i L g => ∃ m d, 0 ≤ m ∧ L = [some (.ls (ns.map D.int)), some (.int m), d] ∧ g = []) (fun i L g hi p => ?_) (fun L g p => by simp [turn]) fuel 0 _ _ (Nat.zero_le _) (by unfold fuel; omega) ⟨17, none, by decide, rfl, rfl⟩
    obtain ⟨m, d, hm, rfl, rfl⟩ := p
    refine ⟨.int ns[i], _, by simp [turn, hi], rfl, _, [], .inl ?_, (m * 48271 + ns[i] % 65521 + 1) % 2147483647, some (.int ns[i]), (emod_lt (by decide)).1, rfl, rfl⟩
    simp [fn5_b0, evSs, evS, ev, evs, evI, Py.R.bind, ofO, isinst, truth, Py.R.test, Py.R.lay, lay, Py.R.toO, Py.O.then, asg, items, listOf, index, setIx, built1, built2, lenOf, cmpop, binop, keyed, isin, tr, trX, trL, eqv, eqvs, btype, bmok, bmeth, boolsOf, atI, ixN, small]
  have h1 : evS T (runF T k) fn5_l1 [some (.ls (ns.map D.int)), some (.int 17), none] [] = .nx [some (.ls (ns.map D.int)), some (.int m), d] [] := ev_for (g1 := []) (by simp [evSs, evS, ev, evs, evI, Py.R.bind, ofO, isinst, truth, Py.R.test, Py.R.lay, lay, Py.R.toO, Py.O.then, asg, items, listOf, index, setIx, built1, built2, lenOf, cmpop, binop, keyed, isin, tr, trX, trL, eqv, eqvs, btype, bmok, bmeth, boolsOf, atI, ixN, small]) e
  refine ⟨[.lst (ns.map .int), .lst [.ref 0, .int 0, .int 0, .int m]], runF_rt tf5 rfl ?_, by decide, rfl, 0, 0, m, by decide, by decide, hm, rfl⟩
  simp [fn5, evSs, evS, ev, evs, evI, Py.R.bind, ofO, isinst, truth, Py.R.test, Py.R.lay, lay, Py.R.toO, Py.O.then, asg, items, listOf, index, setIx, built1, built2, lenOf, cmpop, binop, keyed, isin, tr, trX, trL, eqv, eqvs, btype, bmok, bmeth, boolsOf, atI, ixN, small, h1, line]
/-! ### values -/
def isWhole : D → Bool
  | .int _ => true
  | _ => false
mutual
def okv (g : G) : D → Bool
  | .tup ds => okvs g ds && decide (ds.length ≤ 100000)
  | .ref n => match g[n]? with
    | some (.lst _) => true
    | _ => false
  | .str z => decide (z.length ≤ 100)
  | .ls _ => false
  | .kt _ => false
  | _ => true
def okvs (g : G) : List D → Bool
  | [] => true
  | d :: ds => okv g d && okvs g ds
end
theorem okvs_all {g : G} : ∀ {ds : List D}, okvs g ds = true → ∀ d ∈ ds, okv g d = true
  | [], _, d, hd => by simp at hd
  | e :: ds, h, d, hd => by
    simp only [okvs, Bool.and_eq_true] at h
    rcases List.mem_cons.mp hd with rfl | hd
    · exact h.1
    · exact okvs_all h.2 d hd
theorem okvs_of {g : G} : ∀ {ds : List D}, (∀ d ∈ ds, okv g d = true) → okvs g ds = true
  | [], _ => rfl
  | e :: ds, h => by
    simp only [okvs, Bool.and_eq_true]
    exact ⟨h e List.mem_cons_self, okvs_of fun d hd => h d (List.mem_cons_of_mem _ hd)⟩
/-- lists stay lists -/
def Lsts (g g' : G) : Prop := ∀ (n : Nat) xs, g[n]? = some (.lst xs) → ∃ ys, g'[n]? = some (.lst ys)
mutual
theorem okv_mono {g g' : G} (h : Lsts g g') : ∀ {d : D}, okv g d = true → okv g' d = true
  | .tup ds, e => by
    simp only [okv, Bool.and_eq_true] at e ⊢
    exact ⟨okvs_mono h e.1, e.2⟩
  | .ref n, e => by
    simp only [okv] at e ⊢
    split at e
    · rename_i xs hx
      obtain ⟨ys, hy⟩ := h n xs hx
      rw [hy]
    · cases e
  | .str z, e => by simpa only [okv] using e
  | .ls _, e => by simp [okv] at e
  | .kt _, e => by simp [okv] at e
  | .non, _ => rfl
  | .bl _, _ => rfl
  | .int _, _ => rfl
theorem okvs_mono {g g' : G} (h : Lsts g g') : ∀ {ds : List D}, okvs g ds = true → okvs g' ds = true
  | [], _ => rfl
  | d :: ds, e => by
    simp only [okvs, Bool.and_eq_true] at e ⊢
    exact ⟨okv_mono h e.1, okvs_mono h e.2⟩
end
theorem Strm.lsts {ns : List Int} {l r : Nat} {g g' : G} (s : Strm ns l r g) (s' : Strm ns l r g') (kp : Keep r g g') : Lsts g g' := fun n xs h => by
  by_cases e : n = r
  · subst e
    obtain ⟨_, _, a, p, m, _, _, _, hr⟩ := s'
    exact ⟨_, hr⟩
  · exact ⟨xs, kp n _ e h⟩
theorem kd_ok {g : G} {d : D} (h : okv g d = true) : ∃ k, kdOf g (.d d) = some k ∧ (k.isa .int = (match d with | .int _ => true | .bl _ => true | _ => false)) ∧ (k.isa .bool = (match d with | .bl _ => true | _ => false)) ∧ (k.isa .str = (match d with | .str _ => true | _ => false)) ∧ (k.isa .tuple = (match d with | .tup _ => true | _ => false)) := by
  cases d <;> simp [okv] at h <;> simp [kdOf, Kd.isa]
  rename_i n
  split at h
  · rename_i xs e
    simp [e, Kd.isa]
  · cases h
theorem r_whole {k : Nat} {g : G} {d : D} (h : okv g d = true) : runF T (k + 1) 0 [d] g = .ok (.bl (isWhole d)) g := by
  obtain ⟨kd, h1, h2, h3, _, _⟩ := kd_ok h
  refine runF_rt tf0 rfl ?_
  simp [fn0, evSs, evS, ev, evs, evI, Py.R.bind, ofO, isinst, truth, Py.R.test, Py.R.lay, lay, Py.R.toO, Py.O.then, asg, items, listOf, index, setIx, built1, built2, lenOf, cmpop, binop, keyed, isin, tr, trX, trL, eqv, eqvs, btype, bmok, bmeth, boolsOf, atI, ixN, small, h1, h2, h3]
  cases d <;> simp [isWhole, truth]
def isCount : D → Bool
  | .int i => decide (0 ≤ i) && decide (i ≤ 1000000000)
  | _ => false
theorem r_count {k : Nat} {g : G} {d : D} (h : okv g d = true) : runF T (k + 2) 2 [d] g = .ok (.bl (isCount d)) g := by
  refine runF_rt tf2 rfl ?_
  cases d with
  | int i =>
    by_cases h1 : 0 ≤ i <;> simp [fn2, evSs, evS, ev, evs, evI, Py.R.bind, ofO, isinst, truth, Py.R.test, Py.R.lay, lay, Py.R.toO, Py.O.then, asg, items, listOf, index, setIx, built1, built2, lenOf, cmpop, binop, keyed, isin, tr, trX, trL, eqv, eqvs, btype, bmok, bmeth, boolsOf, atI, ixN, small, r_whole h, isWhole, tg3, isCount, h1]
  | _ => simp [fn2, evSs, evS, ev, evs, evI, Py.R.bind, ofO, isinst, truth, Py.R.test, Py.R.lay, lay, Py.R.toO, Py.O.then, asg, items, listOf, index, setIx, built1, built2, lenOf, cmpop, binop, keyed, isin, tr, trX, trL, eqv, eqvs, btype, bmok, bmeth, boolsOf, atI, ixN, small, r_whole h, isWhole, tg3, isCount]
def isNum (lo hi : Int) : D → Bool
  | .int i => decide (lo ≤ i) && decide (i ≤ hi)
  | _ => false
theorem r_num {k : Nat} {g : G} {d : D} {lo hi : Int} (h : okv g d = true) : runF T (k + 1) 13 [d, .int lo, .int hi] g = .ok (.bl (isNum lo hi d)) g := by
  obtain ⟨kd, h1, h2, h3, _, _⟩ := kd_ok h
  refine runF_rt tf13 rfl ?_
  cases d with
  | int i => by_cases h4 : lo ≤ i <;> simp [fn13, evSs, evS, ev, evs, evI, Py.R.bind, ofO, isinst, truth, Py.R.test, Py.R.lay, lay, Py.R.toO, Py.O.then, asg, items, listOf, index, setIx, built1, built2, lenOf, cmpop, binop, keyed, isin, tr, trX, trL, eqv, eqvs, btype, bmok, bmeth, boolsOf, atI, ixN, small, h1, h2, h3, isNum, h4]
  | _ => simp [fn13, evSs, evS, ev, evs, evI, Py.R.bind, ofO, isinst, truth, Py.R.test, Py.R.lay, lay, Py.R.toO, Py.O.then, asg, items, listOf, index, setIx, built1, built2, lenOf, cmpop, binop, keyed, isin, tr, trX, trL, eqv, eqvs, btype, bmok, bmeth, boolsOf, atI, ixN, small, h1, h2, h3, isNum]
def isAtom : D → Bool
  | .str [] => false
  | .str (c :: z) => decide (z.length + 1 ≤ 12) && decide (c ∈ smallT) && (c :: z).all fun s => decide (s ∈ smallT) || decide (s ∈ digitT)
  | _ => false
theorem boolsOf_map (f : Char → Bool) : ∀ z : Tx, boolsOf (z.map fun c => D.bl (f c)) = some (z.map f)
  | [] => rfl
  | c :: z => by simp [boolsOf, boolsOf_map f z]
theorem boolsOf_mapD (f : D → Bool) : ∀ z : List D, boolsOf (z.map fun c => D.bl (f c)) = some (z.map f)
  | [] => rfl
  | c :: z => by simp [boolsOf, boolsOf_mapD f z]
theorem r_atom {k : Nat} {g : G} {d : D} (h : okv g d = true) : runF T (k + 1) 1 [d] g = .ok (.bl (isAtom d)) g := by
  obtain ⟨kd, h1, _, _, h2, _⟩ := kd_ok h
  refine runF_rt tf1 rfl ?_
  cases d with
  | str z =>
    have hz : z.length ≤ line := by simp [okv] at h; unfold line; omega
    cases z with
    | nil => simp [fn1, evSs, evS, ev, evs, evI, Py.R.bind, ofO, isinst, truth, Py.R.test, Py.R.lay, lay, Py.R.toO, Py.O.then, asg, items, listOf, index, setIx, built1, built2, lenOf, cmpop, binop, keyed, isin, tr, trX, trL, eqv, eqvs, btype, bmok, bmeth, boolsOf, atI, ixN, small, h1, h2, tg2, isAtom, line]
    | cons c z =>
      have hz2 : z.length + 1 ≤ line := by simpa using hz
      by_cases hl : z.length + 1 ≤ 12
      · have hl2 : (z.length : Int) + 1 ≤ 12 := by omega
        have hl3 : (1 : Int) ≤ (z.length : Int) + 1 := by omega
        by_cases hc : c ∈ smallT
        · have lp : ev T (runF T k) fn1_c0 [some (.str (c :: z)), none] g = .ok (.tmp ((c :: z).map fun s => .bl (decide (s ∈ smallT) || decide (s ∈ digitT)))) g := by
            refine ev_comp (it := .sgn (c :: z)) (g1 := g) (by simp [evSs, evS, ev, evs, evI, Py.R.bind, ofO, isinst, truth, Py.R.test, Py.R.lay, lay, Py.R.toO, Py.O.then, asg, items, listOf, index, setIx, built1, built2, lenOf, cmpop, binop, keyed, isin, tr, trX, trL, eqv, eqvs, btype, bmok, bmeth, boolsOf, atI, ixN, small]) (loopC_mapS _ (by simp [line]; omega) (fun L => by simp [evSs, evS, ev, evs, evI, Py.R.bind, ofO, isinst, truth, Py.R.test, Py.R.lay, lay, Py.R.toO, Py.O.then, asg, items, listOf, index, setIx, built1, built2, lenOf, cmpop, binop, keyed, isin, tr, trX, trL, eqv, eqvs, btype, bmok, bmeth, boolsOf, atI, ixN, small]) fun x hx => ?_)
            by_cases h4 : x ∈ smallT <;> simp [evSs, evS, ev, evs, evI, Py.R.bind, ofO, isinst, truth, Py.R.test, Py.R.lay, lay, Py.R.toO, Py.O.then, asg, items, listOf, index, setIx, built1, built2, lenOf, cmpop, binop, keyed, isin, tr, trX, trL, eqv, eqvs, btype, bmok, bmeth, boolsOf, atI, ixN, small, tg4, tg5, h4]
          have bo := boolsOf_map (fun s => decide (s ∈ smallT) || decide (s ∈ digitT)) z
          simp [fn1, evSs, evS, ev, evs, evI, Py.R.bind, ofO, isinst, truth, Py.R.test, Py.R.lay, lay, Py.R.toO, Py.O.then, asg, items, listOf, index, setIx, built1, built2, lenOf, cmpop, binop, keyed, isin, tr, trX, trL, eqv, eqvs, btype, bmok, bmeth, boolsOf, atI, ixN, small, h1, h2, tg2, tg4, lp, bo, hl, hl2, hl3, hc, isAtom, hz2]
        · simp [fn1, evSs, evS, ev, evs, evI, Py.R.bind, ofO, isinst, truth, Py.R.test, Py.R.lay, lay, Py.R.toO, Py.O.then, asg, items, listOf, index, setIx, built1, built2, lenOf, cmpop, binop, keyed, isin, tr, trX, trL, eqv, eqvs, btype, bmok, bmeth, boolsOf, atI, ixN, small, h1, h2, tg2, tg4, hl, hl2, hl3, hc, isAtom, hz2]
      · have hl2 : ¬ (z.length : Int) + 1 ≤ 12 := by omega
        have hl3 : (1 : Int) ≤ (z.length : Int) + 1 := by omega
        simp [fn1, evSs, evS, ev, evs, evI, Py.R.bind, ofO, isinst, truth, Py.R.test, Py.R.lay, lay, Py.R.toO, Py.O.then, asg, items, listOf, index, setIx, built1, built2, lenOf, cmpop, binop, keyed, isin, tr, trX, trL, eqv, eqvs, btype, bmok, bmeth, boolsOf, atI, ixN, small, h1, h2, tg2, hl, hl2, hl3, isAtom, hz2]
  | _ => simp [fn1, evSs, evS, ev, evs, evI, Py.R.bind, ofO, isinst, truth, Py.R.test, Py.R.lay, lay, Py.R.toO, Py.O.then, asg, items, listOf, index, setIx, built1, built2, lenOf, cmpop, binop, keyed, isin, tr, trX, trL, eqv, eqvs, btype, bmok, bmeth, boolsOf, atI, ixN, small, h1, h2, isAtom]
/-- the same test, by the law's hand -/
theorem r_atomL {k : Nat} {g : G} {d : D} (h : okv g d = true) : runF T (k + 1) 14 [d] g = .ok (.bl (isAtom d)) g := by
  obtain ⟨kd, h1, _, _, h2, _⟩ := kd_ok h
  refine runF_rt tf14 rfl ?_
  have es : (['a', 'b', 'c', 'd', 'e', 'f', 'g', 'h', 'i', 'j', 'k', 'l', 'm', 'n', 'o', 'p', 'q', 'r', 's', 't', 'u', 'v', 'w', 'x', 'y', 'z'] : Tx) = smallT := rfl
  have ed : (['0', '1', '2', '3', '4', '5', '6', '7', '8', '9'] : Tx) = digitT := rfl
  cases d with
  | str z =>
    have hz : z.length ≤ line := by simp [okv] at h; unfold line; omega
    cases z with
    | nil => simp [fn14, es, evSs, evS, ev, evs, evI, Py.R.bind, ofO, isinst, truth, Py.R.test, Py.R.lay, lay, Py.R.toO, Py.O.then, asg, items, listOf, index, setIx, built1, built2, lenOf, cmpop, binop, keyed, isin, tr, trX, trL, eqv, eqvs, btype, bmok, bmeth, boolsOf, atI, ixN, small, h1, h2, isAtom, line]
    | cons c z =>
      have hz2 : z.length + 1 ≤ line := by simpa using hz
      have hl3 : (1 : Int) ≤ (z.length : Int) + 1 := by omega
      by_cases hl : z.length + 1 ≤ 12
      · have hl2 : (z.length : Int) + 1 ≤ 12 := by omega
        by_cases hc : c ∈ smallT
        · have lp : ev T (runF T k) fn14_c0 [some (.str (c :: z)), some (.str smallT), none] g = .ok (.tmp ((c :: z).map fun s => .bl (decide (s ∈ smallT) || decide (s ∈ digitT)))) g := by
            refine ev_comp (it := .sgn (c :: z)) (g1 := g) (by simp [evSs, evS, ev, evs, evI, Py.R.bind, ofO, isinst, truth, Py.R.test, Py.R.lay, lay, Py.R.toO, Py.O.then, asg, items, listOf, index, setIx, built1, built2, lenOf, cmpop, binop, keyed, isin, tr, trX, trL, eqv, eqvs, btype, bmok, bmeth, boolsOf, atI, ixN, small]) (loopC_mapS _ (by simp [line]; omega) (fun L => by simp [evSs, evS, ev, evs, evI, Py.R.bind, ofO, isinst, truth, Py.R.test, Py.R.lay, lay, Py.R.toO, Py.O.then, asg, items, listOf, index, setIx, built1, built2, lenOf, cmpop, binop, keyed, isin, tr, trX, trL, eqv, eqvs, btype, bmok, bmeth, boolsOf, atI, ixN, small]) fun x hx => ?_)
            have hlen : smallT.length + digitT.length ≤ line := by decide
            have hm : (x ∈ smallT ++ digitT) = (x ∈ smallT ∨ x ∈ digitT) := by simp
            simp only [ed]
            simp [evSs, evS, ev, evs, evI, Py.R.bind, ofO, isinst, truth, Py.R.test, Py.R.lay, lay, Py.R.toO, Py.O.then, asg, items, listOf, index, setIx, built1, built2, lenOf, cmpop, binop, keyed, isin, tr, trX, trL, eqv, eqvs, btype, bmok, bmeth, boolsOf, atI, ixN, small, hlen]
          have bo := boolsOf_map (fun s => decide (s ∈ smallT) || decide (s ∈ digitT)) z
          simp [fn14, es, evSs, evS, ev, evs, evI, Py.R.bind, ofO, isinst, truth, Py.R.test, Py.R.lay, lay, Py.R.toO, Py.O.then, asg, items, listOf, index, setIx, built1, built2, lenOf, cmpop, binop, keyed, isin, tr, trX, trL, eqv, eqvs, btype, bmok, bmeth, boolsOf, atI, ixN, small, h1, h2, lp, bo, hl, hl2, hl3, hc, isAtom, hz2]
        · simp [fn14, es, evSs, evS, ev, evs, evI, Py.R.bind, ofO, isinst, truth, Py.R.test, Py.R.lay, lay, Py.R.toO, Py.O.then, asg, items, listOf, index, setIx, built1, built2, lenOf, cmpop, binop, keyed, isin, tr, trX, trL, eqv, eqvs, btype, bmok, bmeth, boolsOf, atI, ixN, small, h1, h2, hl, hl2, hl3, hc, isAtom, hz2]
      · have hl2 : ¬ (z.length : Int) + 1 ≤ 12 := by omega
        simp [fn14, es, evSs, evS, ev, evs, evI, Py.R.bind, ofO, isinst, truth, Py.R.test, Py.R.lay, lay, Py.R.toO, Py.O.then, asg, items, listOf, index, setIx, built1, built2, lenOf, cmpop, binop, keyed, isin, tr, trX, trL, eqv, eqvs, btype, bmok, bmeth, boolsOf, atI, ixN, small, h1, h2, hl, hl2, hl3, isAtom, hz2]
  | _ => simp [fn14, es, evSs, evS, ev, evs, evI, Py.R.bind, ofO, isinst, truth, Py.R.test, Py.R.lay, lay, Py.R.toO, Py.O.then, asg, items, listOf, index, setIx, built1, built2, lenOf, cmpop, binop, keyed, isin, tr, trX, trL, eqv, eqvs, btype, bmok, bmeth, boolsOf, atI, ixN, small, h1, h2, isAtom]
end K01
set_option linter.all false
set_option maxRecDepth 100000
set_option maxHeartbeats 1000000
namespace K01
open Py
def vVar : Tx := ['v', 'a', 'r']
def vInt : Tx := ['i', 'n', 't']
def vAtom : Tx := ['a', 't', 'o', 'm']
def vName : Tx := ['n', 'a', 'm', 'e']
def vTup : Tx := ['t', 'u', 'p', 'l', 'e']
def isNode (c : Int) : D → Bool
  | .tup (.str w :: rest) =>
    if w = vVar then (match rest with | [x] => isCount x | _ => false)
    else if w = vInt then (match rest with | [x] => isNum (-1000000000) 1000000000 x | _ => false)
    else if w = vAtom then (match rest with | [x] => isAtom x | _ => false)
    else match rest with
      | [a, b] => isAtom a && (if w = vName then isCount b else decide (w = vTup) && (match b with
        | .tup ps => decide (1 ≤ ps.length) && decide (ps.length ≤ 6) && ps.all (isNum 0 (c - 1))
        | _ => false))
      | _ => false
  | _ => false
theorem ev_var : (['v', 'a', 'r'] : Tx) = vVar := rfl
theorem ev_int : (['i', 'n', 't'] : Tx) = vInt := rfl
theorem ev_atom : (['a', 't', 'o', 'm'] : Tx) = vAtom := rfl
theorem ev_name : (['n', 'a', 'm', 'e'] : Tx) = vName := rfl
theorem ev_tup : (['t', 'u', 'p', 'l', 'e'] : Tx) = vTup := rfl
theorem fnode_parts {k : Nat} {g : G} {ps : List D} {c : Int} {w a : D} (h : okvs g ps = true) (hl : ps.length ≤ 100000) {x2 : Option D} {x3 : Option D} : ev T (runF T (k + 1)) fn3_c0 [some (.tup [w, a, .tup ps]), some (.int c), x2, x3] g = .ok (.tmp (ps.map fun d => .bl (isNum 0 (c - 1) d))) g := by
  refine ev_comp (it := .vals ps) (g1 := g) (by simp [evSs, evS, ev, evs, evI, Py.R.bind, ofO, isinst, truth, Py.R.test, Py.R.lay, lay, Py.R.toO, Py.O.then, asg, items, listOf, index, setIx, built1, built2, lenOf, cmpop, binop, keyed, isin, tr, trX, trL, eqv, eqvs, btype, bmok, bmeth, boolsOf, atI, ixN, small]) (loopC_map _ (by unfold line; omega) (fun L => by simp [evSs, evS, ev, evs, evI, Py.R.bind, ofO, isinst, truth, Py.R.test, Py.R.lay, lay, Py.R.toO, Py.O.then, asg, items, listOf, index, setIx, built1, built2, lenOf, cmpop, binop, keyed, isin, tr, trX, trL, eqv, eqvs, btype, bmok, bmeth, boolsOf, atI, ixN, small]) fun x hx => ?_)
  have hx' := okvs_all h x hx
  cases x with
  | int i =>
    by_cases h0 : 0 ≤ i
    · by_cases h1 : i < c
      · have : i ≤ c - 1 := by omega
        simp [evSs, evS, ev, evs, evI, Py.R.bind, ofO, isinst, truth, Py.R.test, Py.R.lay, lay, Py.R.toO, Py.O.then, asg, items, listOf, index, setIx, built1, built2, lenOf, cmpop, binop, keyed, isin, tr, trX, trL, eqv, eqvs, btype, bmok, bmeth, boolsOf, atI, ixN, small, r_whole hx', isWhole, isNum, h0, h1, this]
      · have : ¬ i ≤ c - 1 := by omega
        simp [evSs, evS, ev, evs, evI, Py.R.bind, ofO, isinst, truth, Py.R.test, Py.R.lay, lay, Py.R.toO, Py.O.then, asg, items, listOf, index, setIx, built1, built2, lenOf, cmpop, binop, keyed, isin, tr, trX, trL, eqv, eqvs, btype, bmok, bmeth, boolsOf, atI, ixN, small, r_whole hx', isWhole, isNum, h0, h1, this]
    · simp [evSs, evS, ev, evs, evI, Py.R.bind, ofO, isinst, truth, Py.R.test, Py.R.lay, lay, Py.R.toO, Py.O.then, asg, items, listOf, index, setIx, built1, built2, lenOf, cmpop, binop, keyed, isin, tr, trX, trL, eqv, eqvs, btype, bmok, bmeth, boolsOf, atI, ixN, small, r_whole hx', isWhole, isNum, h0]
  | _ => simp [evSs, evS, ev, evs, evI, Py.R.bind, ofO, isinst, truth, Py.R.test, Py.R.lay, lay, Py.R.toO, Py.O.then, asg, items, listOf, index, setIx, built1, built2, lenOf, cmpop, binop, keyed, isin, tr, trX, trL, eqv, eqvs, btype, bmok, bmeth, boolsOf, atI, ixN, small, r_whole hx', isWhole, isNum]
theorem lnode_parts {k : Nat} {g : G} {ps : List D} {c : Int} {w a : D} (h : okvs g ps = true) (hl : ps.length ≤ 100000) {x2 : Option D} : ev T (runF T (k + 1)) fn15_c0 [some (.tup [w, a, .tup ps]), some (.int c), x2] g = .ok (.tmp (ps.map fun d => .bl (isNum 0 (c - 1) d))) g := by
  refine ev_comp (it := .vals ps) (g1 := g) (by simp [evSs, evS, ev, evs, evI, Py.R.bind, ofO, isinst, truth, Py.R.test, Py.R.lay, lay, Py.R.toO, Py.O.then, asg, items, listOf, index, setIx, built1, built2, lenOf, cmpop, binop, keyed, isin, tr, trX, trL, eqv, eqvs, btype, bmok, bmeth, boolsOf, atI, ixN, small]) (loopC_map _ (by unfold line; omega) (fun L => by simp [evSs, evS, ev, evs, evI, Py.R.bind, ofO, isinst, truth, Py.R.test, Py.R.lay, lay, Py.R.toO, Py.O.then, asg, items, listOf, index, setIx, built1, built2, lenOf, cmpop, binop, keyed, isin, tr, trX, trL, eqv, eqvs, btype, bmok, bmeth, boolsOf, atI, ixN, small]) fun x hx => ?_)
  simp [evSs, evS, ev, evs, evI, Py.R.bind, ofO, isinst, truth, Py.R.test, Py.R.lay, lay, Py.R.toO, Py.O.then, asg, items, listOf, index, setIx, built1, built2, lenOf, cmpop, binop, keyed, isin, tr, trX, trL, eqv, eqvs, btype, bmok, bmeth, boolsOf, atI, ixN, small, r_num (okvs_all h x hx)]
theorem ne1 : vInt ≠ vVar := by decide
theorem ne2 : vAtom ≠ vVar := by decide
theorem ne3 : vAtom ≠ vInt := by decide
theorem ne4 : vName ≠ vVar := by decide
theorem ne5 : vName ≠ vInt := by decide
theorem ne6 : vName ≠ vAtom := by decide
theorem ne7 : vTup ≠ vVar := by decide
theorem ne8 : vTup ≠ vInt := by decide
theorem ne9 : vTup ≠ vAtom := by decide
theorem ne10 : vTup ≠ vName := by decide
theorem abs_num {i : Int} : ((if i < 0 then -i else i) ≤ 1000000000) ↔ (-1000000000 ≤ i ∧ i ≤ 1000000000) := by split <;> omega
theorem r_node {k : Nat} {g : G} {d : D} {c : Int} (h : okv g d = true) : runF T (k + 3) 3 [d, .int c] g = .ok (.bl (isNode c d)) g := by
  obtain ⟨kd, h1, _, _, _, h2⟩ := kd_ok h
  refine runF_rt tf3 rfl ?_
  cases d with
  | tup ds =>
    clear h1 h2
    simp only [okv, Bool.and_eq_true, decide_eq_true_eq] at h
    obtain ⟨hs, hl⟩ := h
    cases ds with
    | nil => simp [fn3, evSs, evS, ev, evs, evI, Py.R.bind, ofO, isinst, truth, Py.R.test, Py.R.lay, lay, Py.R.toO, Py.O.then, asg, items, listOf, index, setIx, built1, built2, lenOf, cmpop, binop, keyed, isin, tr, trX, trL, eqv, eqvs, btype, bmok, bmeth, boolsOf, atI, ixN, small, kdOf, Kd.isa, isNode]
    | cons w rest =>
      have hw := okvs_all hs w (by simp)
      cases w with
      | str w =>
        by_cases e1 : w = vVar
        · subst e1
          rcases rest with _ | ⟨x, _ | ⟨y, rest⟩⟩
          · simp [fn3, evSs, evS, ev, evs, evI, Py.R.bind, ofO, isinst, truth, Py.R.test, Py.R.lay, lay, Py.R.toO, Py.O.then, asg, items, listOf, index, setIx, built1, built2, lenOf, cmpop, binop, keyed, isin, tr, trX, trL, eqv, eqvs, btype, bmok, bmeth, boolsOf, atI, ixN, small, kdOf, Kd.isa, isNode, ev_var]
          · simp [fn3, evSs, evS, ev, evs, evI, Py.R.bind, ofO, isinst, truth, Py.R.test, Py.R.lay, lay, Py.R.toO, Py.O.then, asg, items, listOf, index, setIx, built1, built2, lenOf, cmpop, binop, keyed, isin, tr, trX, trL, eqv, eqvs, btype, bmok, bmeth, boolsOf, atI, ixN, small, kdOf, Kd.isa, isNode, ev_var, r_count (okvs_all hs x (by simp))]
          · have : ¬ (rest.length : Int) + 1 + 1 + 1 = 2 := by omega
            have p0 : (0 : Int) < (rest.length : Int) + 1 + 1 + 1 := by omega
            simp [fn3, evSs, evS, ev, evs, evI, Py.R.bind, ofO, isinst, truth, Py.R.test, Py.R.lay, lay, Py.R.toO, Py.O.then, asg, items, listOf, index, setIx, built1, built2, lenOf, cmpop, binop, keyed, isin, tr, trX, trL, eqv, eqvs, btype, bmok, bmeth, boolsOf, atI, ixN, small, kdOf, Kd.isa, isNode, ev_var, this, p0]
        · by_cases e2 : w = vInt
          · subst e2
            rcases rest with _ | ⟨x, _ | ⟨y, rest⟩⟩
            · simp [fn3, evSs, evS, ev, evs, evI, Py.R.bind, ofO, isinst, truth, Py.R.test, Py.R.lay, lay, Py.R.toO, Py.O.then, asg, items, listOf, index, setIx, built1, built2, lenOf, cmpop, binop, keyed, isin, tr, trX, trL, eqv, eqvs, btype, bmok, bmeth, boolsOf, atI, ixN, small, kdOf, Kd.isa, isNode, ev_var, ev_int, ne1]
            · have hx := okvs_all hs x (by simp)
              cases x with
              | int i => simp [fn3, evSs, evS, ev, evs, evI, Py.R.bind, ofO, isinst, truth, Py.R.test, Py.R.lay, lay, Py.R.toO, Py.O.then, asg, items, listOf, index, setIx, built1, built2, lenOf, cmpop, binop, keyed, isin, tr, trX, trL, eqv, eqvs, btype, bmok, bmeth, boolsOf, atI, ixN, small, kdOf, Kd.isa, isNode, ev_var, ev_int, ne1, r_whole hx, isWhole, isNum, tg3, abs_num]
              | _ => simp [fn3, evSs, evS, ev, evs, evI, Py.R.bind, ofO, isinst, truth, Py.R.test, Py.R.lay, lay, Py.R.toO, Py.O.then, asg, items, listOf, index, setIx, built1, built2, lenOf, cmpop, binop, keyed, isin, tr, trX, trL, eqv, eqvs, btype, bmok, bmeth, boolsOf, atI, ixN, small, kdOf, Kd.isa, isNode, ev_var, ev_int, ne1, r_whole hx, isWhole, isNum]
            · have : ¬ (rest.length : Int) + 1 + 1 + 1 = 2 := by omega
              have p0 : (0 : Int) < (rest.length : Int) + 1 + 1 + 1 := by omega
              simp [fn3, evSs, evS, ev, evs, evI, Py.R.bind, ofO, isinst, truth, Py.R.test, Py.R.lay, lay, Py.R.toO, Py.O.then, asg, items, listOf, index, setIx, built1, built2, lenOf, cmpop, binop, keyed, isin, tr, trX, trL, eqv, eqvs, btype, bmok, bmeth, boolsOf, atI, ixN, small, kdOf, Kd.isa, isNode, ev_var, ev_int, ne1, this, p0]
          · by_cases e3 : w = vAtom
            · subst e3
              rcases rest with _ | ⟨x, _ | ⟨y, rest⟩⟩
              · simp [fn3, evSs, evS, ev, evs, evI, Py.R.bind, ofO, isinst, truth, Py.R.test, Py.R.lay, lay, Py.R.toO, Py.O.then, asg, items, listOf, index, setIx, built1, built2, lenOf, cmpop, binop, keyed, isin, tr, trX, trL, eqv, eqvs, btype, bmok, bmeth, boolsOf, atI, ixN, small, kdOf, Kd.isa, isNode, ev_var, ev_int, ev_atom, ne2, ne3]
              · simp [fn3, evSs, evS, ev, evs, evI, Py.R.bind, ofO, isinst, truth, Py.R.test, Py.R.lay, lay, Py.R.toO, Py.O.then, asg, items, listOf, index, setIx, built1, built2, lenOf, cmpop, binop, keyed, isin, tr, trX, trL, eqv, eqvs, btype, bmok, bmeth, boolsOf, atI, ixN, small, kdOf, Kd.isa, isNode, ev_var, ev_int, ev_atom, ne2, ne3, r_atom (okvs_all hs x (by simp))]
              · have : ¬ (rest.length : Int) + 1 + 1 + 1 = 2 := by omega
                have p0 : (0 : Int) < (rest.length : Int) + 1 + 1 + 1 := by omega
                simp [fn3, evSs, evS, ev, evs, evI, Py.R.bind, ofO, isinst, truth, Py.R.test, Py.R.lay, lay, Py.R.toO, Py.O.then, asg, items, listOf, index, setIx, built1, built2, lenOf, cmpop, binop, keyed, isin, tr, trX, trL, eqv, eqvs, btype, bmok, bmeth, boolsOf, atI, ixN, small, kdOf, Kd.isa, isNode, ev_var, ev_int, ev_atom, ne2, ne3, this, p0]
            · rcases rest with _ | ⟨x, _ | ⟨y, _ | ⟨z, rest⟩⟩⟩
              · simp [fn3, evSs, evS, ev, evs, evI, Py.R.bind, ofO, isinst, truth, Py.R.test, Py.R.lay, lay, Py.R.toO, Py.O.then, asg, items, listOf, index, setIx, built1, built2, lenOf, cmpop, binop, keyed, isin, tr, trX, trL, eqv, eqvs, btype, bmok, bmeth, boolsOf, atI, ixN, small, kdOf, Kd.isa, isNode, ev_var, ev_int, ev_atom, e1, e2, e3]
              · simp [fn3, evSs, evS, ev, evs, evI, Py.R.bind, ofO, isinst, truth, Py.R.test, Py.R.lay, lay, Py.R.toO, Py.O.then, asg, items, listOf, index, setIx, built1, built2, lenOf, cmpop, binop, keyed, isin, tr, trX, trL, eqv, eqvs, btype, bmok, bmeth, boolsOf, atI, ixN, small, kdOf, Kd.isa, isNode, ev_var, ev_int, ev_atom, e1, e2, e3]
              · have hx := okvs_all hs x (by simp)
                have hy := okvs_all hs y (by simp)
                by_cases ha : isAtom x = true
                · by_cases e4 : w = vName
                  · subst e4
                    simp [fn3, evSs, evS, ev, evs, evI, Py.R.bind, ofO, isinst, truth, Py.R.test, Py.R.lay, lay, Py.R.toO, Py.O.then, asg, items, listOf, index, setIx, built1, built2, lenOf, cmpop, binop, keyed, isin, tr, trX, trL, eqv, eqvs, btype, bmok, bmeth, boolsOf, atI, ixN, small, kdOf, Kd.isa, isNode, ev_var, ev_int, ev_atom, ev_name, ne4, ne5, ne6, r_atom hx, ha, r_count hy]
                  · by_cases e5 : w = vTup
                    · subst e5
                      obtain ⟨ky, y1, _, _, _, y2⟩ := kd_ok hy
                      cases y with
                      | tup ps =>
                        simp only [okv, Bool.and_eq_true, decide_eq_true_eq] at hy
                        have hp := fnode_parts (k := k + 1) (c := c) (w := .str vTup) (a := x) hy.1 hy.2 (x2 := some (.str vTup)) (x3 := none)
                        have bo := boolsOf_mapD (isNum 0 (c - 1)) ps
                        by_cases l1 : 1 ≤ ps.length
                        · by_cases l2 : ps.length ≤ 6
                          · have l3 : (1 : Int) ≤ ps.length := by omega
                            have l4 : (ps.length : Int) ≤ 6 := by omega
                            simp [fn3, evSs, evS, ev, evs, evI, Py.R.bind, ofO, isinst, truth, Py.R.test, Py.R.lay, lay, Py.R.toO, Py.O.then, asg, items, listOf, index, setIx, built1, built2, lenOf, cmpop, binop, keyed, isin, tr, trX, trL, eqv, eqvs, btype, bmok, bmeth, boolsOf, atI, ixN, small, kdOf, Kd.isa, isNode, ev_var, ev_int, ev_atom, ev_name, ev_tup, ne7, ne8, ne9, ne10, r_atom hx, ha, tg1, l1, l2, l3, l4, hp, bo]
                          · have l3 : (1 : Int) ≤ ps.length := by omega
                            have l4 : ¬ (ps.length : Int) ≤ 6 := by omega
                            simp [fn3, evSs, evS, ev, evs, evI, Py.R.bind, ofO, isinst, truth, Py.R.test, Py.R.lay, lay, Py.R.toO, Py.O.then, asg, items, listOf, index, setIx, built1, built2, lenOf, cmpop, binop, keyed, isin, tr, trX, trL, eqv, eqvs, btype, bmok, bmeth, boolsOf, atI, ixN, small, kdOf, Kd.isa, isNode, ev_var, ev_int, ev_atom, ev_name, ev_tup, ne7, ne8, ne9, ne10, r_atom hx, ha, tg1, l1, l2, l3, l4]
                        · have l3 : ¬ (1 : Int) ≤ ps.length := by omega
                          simp [fn3, evSs, evS, ev, evs, evI, Py.R.bind, ofO, isinst, truth, Py.R.test, Py.R.lay, lay, Py.R.toO, Py.O.then, asg, items, listOf, index, setIx, built1, built2, lenOf, cmpop, binop, keyed, isin, tr, trX, trL, eqv, eqvs, btype, bmok, bmeth, boolsOf, atI, ixN, small, kdOf, Kd.isa, isNode, ev_var, ev_int, ev_atom, ev_name, ev_tup, ne7, ne8, ne9, ne10, r_atom hx, ha, tg1, l1, l3]
                      | ls _ => simp [okv] at hy
                      | kt _ => simp [okv] at hy
                      | ref n =>
                        simp only [okv] at hy
                        split at hy
                        · rename_i zs hz
                          simp [fn3, evSs, evS, ev, evs, evI, Py.R.bind, ofO, isinst, truth, Py.R.test, Py.R.lay, lay, Py.R.toO, Py.O.then, asg, items, listOf, index, setIx, built1, built2, lenOf, cmpop, binop, keyed, isin, tr, trX, trL, eqv, eqvs, btype, bmok, bmeth, boolsOf, atI, ixN, small, kdOf, Kd.isa, isNode, ev_var, ev_int, ev_atom, ev_name, ev_tup, ne7, ne8, ne9, ne10, r_atom hx, ha, hz]
                        · cases hy
                      | _ => simp [fn3, evSs, evS, ev, evs, evI, Py.R.bind, ofO, isinst, truth, Py.R.test, Py.R.lay, lay, Py.R.toO, Py.O.then, asg, items, listOf, index, setIx, built1, built2, lenOf, cmpop, binop, keyed, isin, tr, trX, trL, eqv, eqvs, btype, bmok, bmeth, boolsOf, atI, ixN, small, kdOf, Kd.isa, isNode, ev_var, ev_int, ev_atom, ev_name, ev_tup, ne7, ne8, ne9, ne10, r_atom hx, ha, y1, y2]
                    · simp [fn3, evSs, evS, ev, evs, evI, Py.R.bind, ofO, isinst, truth, Py.R.test, Py.R.lay, lay, Py.R.toO, Py.O.then, asg, items, listOf, index, setIx, built1, built2, lenOf, cmpop, binop, keyed, isin, tr, trX, trL, eqv, eqvs, btype, bmok, bmeth, boolsOf, atI, ixN, small, kdOf, Kd.isa, isNode, ev_var, ev_int, ev_atom, ev_name, ev_tup, e1, e2, e3, e4, e5, r_atom hx, ha]
                · simp [fn3, evSs, evS, ev, evs, evI, Py.R.bind, ofO, isinst, truth, Py.R.test, Py.R.lay, lay, Py.R.toO, Py.O.then, asg, items, listOf, index, setIx, built1, built2, lenOf, cmpop, binop, keyed, isin, tr, trX, trL, eqv, eqvs, btype, bmok, bmeth, boolsOf, atI, ixN, small, kdOf, Kd.isa, isNode, ev_var, ev_int, ev_atom, e1, e2, e3, r_atom hx, ha]
              · have : ¬ (rest.length : Int) + 1 + 1 + 1 + 1 = 3 := by omega
                have p0 : (0 : Int) < (rest.length : Int) + 1 + 1 + 1 + 1 := by omega
                simp [fn3, evSs, evS, ev, evs, evI, Py.R.bind, ofO, isinst, truth, Py.R.test, Py.R.lay, lay, Py.R.toO, Py.O.then, asg, items, listOf, index, setIx, built1, built2, lenOf, cmpop, binop, keyed, isin, tr, trX, trL, eqv, eqvs, btype, bmok, bmeth, boolsOf, atI, ixN, small, kdOf, Kd.isa, isNode, ev_var, ev_int, ev_atom, e1, e2, e3, this, p0]
      | ls _ => simp [okv] at hw
      | kt _ => simp [okv] at hw
      | ref n =>
        have p0 : (0 : Int) < (rest.length : Int) + 1 := by omega
        simp only [okv] at hw
        split at hw
        · rename_i zs hz
          simp [fn3, evSs, evS, ev, evs, evI, Py.R.bind, ofO, isinst, truth, Py.R.test, Py.R.lay, lay, Py.R.toO, Py.O.then, asg, items, listOf, index, setIx, built1, built2, lenOf, cmpop, binop, keyed, isin, tr, trX, trL, eqv, eqvs, btype, bmok, bmeth, boolsOf, atI, ixN, small, kdOf, Kd.isa, isNode, hz, p0]
        · cases hw
      | _ =>
        have p0 : (0 : Int) < (rest.length : Int) + 1 := by omega
        simp [fn3, evSs, evS, ev, evs, evI, Py.R.bind, ofO, isinst, truth, Py.R.test, Py.R.lay, lay, Py.R.toO, Py.O.then, asg, items, listOf, index, setIx, built1, built2, lenOf, cmpop, binop, keyed, isin, tr, trX, trL, eqv, eqvs, btype, bmok, bmeth, boolsOf, atI, ixN, small, kdOf, Kd.isa, isNode, p0]
  | _ => simp [fn3, evSs, evS, ev, evs, evI, Py.R.bind, ofO, isinst, truth, Py.R.test, Py.R.lay, lay, Py.R.toO, Py.O.then, asg, items, listOf, index, setIx, built1, built2, lenOf, cmpop, binop, keyed, isin, tr, trX, trL, eqv, eqvs, btype, bmok, bmeth, boolsOf, atI, ixN, small, h1, h2, isNode]
end K01
set_option linter.all false
set_option maxRecDepth 100000
set_option maxHeartbeats 1000000
namespace K01
open Py
theorem cnt_num (d : D) : isCount d = isNum 0 1000000000 d := by cases d <;> rfl
theorem r_nodeL {k : Nat} {g : G} {d : D} {c : Int} (h : okv g d = true) : runF T (k + 2) 15 [d, .int c] g = .ok (.bl (isNode c d)) g := by
  obtain ⟨kd, h1, _, _, _, h2⟩ := kd_ok h
  refine runF_rt tf15 rfl ?_
  cases d with
  | tup ds =>
    clear h1 h2
    simp only [okv, Bool.and_eq_true, decide_eq_true_eq] at h
    obtain ⟨hs, hl⟩ := h
    cases ds with
    | nil => simp [fn15, evSs, evS, ev, evs, evI, Py.R.bind, ofO, isinst, truth, Py.R.test, Py.R.lay, lay, Py.R.toO, Py.O.then, asg, items, listOf, index, setIx, built1, built2, lenOf, cmpop, binop, keyed, isin, tr, trX, trL, eqv, eqvs, btype, bmok, bmeth, boolsOf, atI, ixN, small, kdOf, Kd.isa, isNode]
    | cons w rest =>
      have hw := okvs_all hs w (by simp)
      cases w with
      | str w =>
        by_cases e1 : w = vVar
        · subst e1
          rcases rest with _ | ⟨x, _ | ⟨y, rest⟩⟩
          · simp [fn15, evSs, evS, ev, evs, evI, Py.R.bind, ofO, isinst, truth, Py.R.test, Py.R.lay, lay, Py.R.toO, Py.O.then, asg, items, listOf, index, setIx, built1, built2, lenOf, cmpop, binop, keyed, isin, tr, trX, trL, eqv, eqvs, btype, bmok, bmeth, boolsOf, atI, ixN, small, kdOf, Kd.isa, isNode, ev_var]
          · simp [fn15, evSs, evS, ev, evs, evI, Py.R.bind, ofO, isinst, truth, Py.R.test, Py.R.lay, lay, Py.R.toO, Py.O.then, asg, items, listOf, index, setIx, built1, built2, lenOf, cmpop, binop, keyed, isin, tr, trX, trL, eqv, eqvs, btype, bmok, bmeth, boolsOf, atI, ixN, small, kdOf, Kd.isa, isNode, ev_var, r_num (okvs_all hs x (by simp)), cnt_num]
          · have : ¬ (rest.length : Int) + 1 + 1 + 1 = 2 := by omega
            have p0 : (0 : Int) < (rest.length : Int) + 1 + 1 + 1 := by omega
            have p1 : ¬ (rest.length : Int) + 1 + 1 + 1 < 2 := by omega
            simp [fn15, evSs, evS, ev, evs, evI, Py.R.bind, ofO, isinst, truth, Py.R.test, Py.R.lay, lay, Py.R.toO, Py.O.then, asg, items, listOf, index, setIx, built1, built2, lenOf, cmpop, binop, keyed, isin, tr, trX, trL, eqv, eqvs, btype, bmok, bmeth, boolsOf, atI, ixN, small, kdOf, Kd.isa, isNode, ev_var, this, p0, p1]
        · by_cases e2 : w = vInt
          · subst e2
            rcases rest with _ | ⟨x, _ | ⟨y, rest⟩⟩
            · simp [fn15, evSs, evS, ev, evs, evI, Py.R.bind, ofO, isinst, truth, Py.R.test, Py.R.lay, lay, Py.R.toO, Py.O.then, asg, items, listOf, index, setIx, built1, built2, lenOf, cmpop, binop, keyed, isin, tr, trX, trL, eqv, eqvs, btype, bmok, bmeth, boolsOf, atI, ixN, small, kdOf, Kd.isa, isNode, ev_var, ev_int, ne1]
            · simp [fn15, evSs, evS, ev, evs, evI, Py.R.bind, ofO, isinst, truth, Py.R.test, Py.R.lay, lay, Py.R.toO, Py.O.then, asg, items, listOf, index, setIx, built1, built2, lenOf, cmpop, binop, keyed, isin, tr, trX, trL, eqv, eqvs, btype, bmok, bmeth, boolsOf, atI, ixN, small, kdOf, Kd.isa, isNode, ev_var, ev_int, ne1, r_num (okvs_all hs x (by simp))]
            · have : ¬ (rest.length : Int) + 1 + 1 + 1 = 2 := by omega
              have p0 : (0 : Int) < (rest.length : Int) + 1 + 1 + 1 := by omega
              have p1 : ¬ (rest.length : Int) + 1 + 1 + 1 < 2 := by omega
              simp [fn15, evSs, evS, ev, evs, evI, Py.R.bind, ofO, isinst, truth, Py.R.test, Py.R.lay, lay, Py.R.toO, Py.O.then, asg, items, listOf, index, setIx, built1, built2, lenOf, cmpop, binop, keyed, isin, tr, trX, trL, eqv, eqvs, btype, bmok, bmeth, boolsOf, atI, ixN, small, kdOf, Kd.isa, isNode, ev_var, ev_int, ne1, this, p0, p1]
          · by_cases e3 : w = vAtom
            · subst e3
              rcases rest with _ | ⟨x, _ | ⟨y, rest⟩⟩
              · simp [fn15, evSs, evS, ev, evs, evI, Py.R.bind, ofO, isinst, truth, Py.R.test, Py.R.lay, lay, Py.R.toO, Py.O.then, asg, items, listOf, index, setIx, built1, built2, lenOf, cmpop, binop, keyed, isin, tr, trX, trL, eqv, eqvs, btype, bmok, bmeth, boolsOf, atI, ixN, small, kdOf, Kd.isa, isNode, ev_var, ev_int, ev_atom, ne2, ne3]
              · simp [fn15, evSs, evS, ev, evs, evI, Py.R.bind, ofO, isinst, truth, Py.R.test, Py.R.lay, lay, Py.R.toO, Py.O.then, asg, items, listOf, index, setIx, built1, built2, lenOf, cmpop, binop, keyed, isin, tr, trX, trL, eqv, eqvs, btype, bmok, bmeth, boolsOf, atI, ixN, small, kdOf, Kd.isa, isNode, ev_var, ev_int, ev_atom, ne2, ne3, r_atomL (okvs_all hs x (by simp))]
              · have : ¬ (rest.length : Int) + 1 + 1 + 1 = 2 := by omega
                have p0 : (0 : Int) < (rest.length : Int) + 1 + 1 + 1 := by omega
                have p1 : ¬ (rest.length : Int) + 1 + 1 + 1 < 2 := by omega
                simp [fn15, evSs, evS, ev, evs, evI, Py.R.bind, ofO, isinst, truth, Py.R.test, Py.R.lay, lay, Py.R.toO, Py.O.then, asg, items, listOf, index, setIx, built1, built2, lenOf, cmpop, binop, keyed, isin, tr, trX, trL, eqv, eqvs, btype, bmok, bmeth, boolsOf, atI, ixN, small, kdOf, Kd.isa, isNode, ev_var, ev_int, ev_atom, ne2, ne3, this, p0, p1]
            · rcases rest with _ | ⟨x, _ | ⟨y, _ | ⟨z, rest⟩⟩⟩
              · simp [fn15, evSs, evS, ev, evs, evI, Py.R.bind, ofO, isinst, truth, Py.R.test, Py.R.lay, lay, Py.R.toO, Py.O.then, asg, items, listOf, index, setIx, built1, built2, lenOf, cmpop, binop, keyed, isin, tr, trX, trL, eqv, eqvs, btype, bmok, bmeth, boolsOf, atI, ixN, small, kdOf, Kd.isa, isNode, ev_var, ev_int, ev_atom, e1, e2, e3]
              · simp [fn15, evSs, evS, ev, evs, evI, Py.R.bind, ofO, isinst, truth, Py.R.test, Py.R.lay, lay, Py.R.toO, Py.O.then, asg, items, listOf, index, setIx, built1, built2, lenOf, cmpop, binop, keyed, isin, tr, trX, trL, eqv, eqvs, btype, bmok, bmeth, boolsOf, atI, ixN, small, kdOf, Kd.isa, isNode, ev_var, ev_int, ev_atom, e1, e2, e3]
              · have hx := okvs_all hs x (by simp)
                have hy := okvs_all hs y (by simp)
                by_cases ha : isAtom x = true
                · by_cases e4 : w = vName
                  · subst e4
                    simp [fn15, evSs, evS, ev, evs, evI, Py.R.bind, ofO, isinst, truth, Py.R.test, Py.R.lay, lay, Py.R.toO, Py.O.then, asg, items, listOf, index, setIx, built1, built2, lenOf, cmpop, binop, keyed, isin, tr, trX, trL, eqv, eqvs, btype, bmok, bmeth, boolsOf, atI, ixN, small, kdOf, Kd.isa, isNode, ev_var, ev_int, ev_atom, ev_name, ne4, ne5, ne6, r_atomL hx, ha, r_num hy, cnt_num]
                  · by_cases e5 : w = vTup
                    · subst e5
                      cases y with
                      | tup ps =>
                        simp only [okv, Bool.and_eq_true, decide_eq_true_eq] at hy
                        have hp := lnode_parts (k := k) (c := c) (w := .str vTup) (a := x) hy.1 hy.2 (x2 := none)
                        have bo := boolsOf_mapD (isNum 0 (c - 1)) ps
                        by_cases l1 : 1 ≤ ps.length
                        · by_cases l2 : ps.length ≤ 6
                          · have l3 : (1 : Int) ≤ ps.length := by omega
                            have l4 : (ps.length : Int) ≤ 6 := by omega
                            simp [fn15, evSs, evS, ev, evs, evI, Py.R.bind, ofO, isinst, truth, Py.R.test, Py.R.lay, lay, Py.R.toO, Py.O.then, asg, items, listOf, index, setIx, built1, built2, lenOf, cmpop, binop, keyed, isin, tr, trX, trL, eqv, eqvs, btype, bmok, bmeth, boolsOf, atI, ixN, small, kdOf, Kd.isa, isNode, ev_var, ev_int, ev_atom, ev_name, ev_tup, ne7, ne8, ne9, ne10, r_atomL hx, ha, l1, l2, l3, l4, hp, bo]
                          · have l3 : (1 : Int) ≤ ps.length := by omega
                            have l4 : ¬ (ps.length : Int) ≤ 6 := by omega
                            simp [fn15, evSs, evS, ev, evs, evI, Py.R.bind, ofO, isinst, truth, Py.R.test, Py.R.lay, lay, Py.R.toO, Py.O.then, asg, items, listOf, index, setIx, built1, built2, lenOf, cmpop, binop, keyed, isin, tr, trX, trL, eqv, eqvs, btype, bmok, bmeth, boolsOf, atI, ixN, small, kdOf, Kd.isa, isNode, ev_var, ev_int, ev_atom, ev_name, ev_tup, ne7, ne8, ne9, ne10, r_atomL hx, ha, l1, l2, l3, l4]
                        · have l3 : ¬ (1 : Int) ≤ ps.length := by omega
                          simp [fn15, evSs, evS, ev, evs, evI, Py.R.bind, ofO, isinst, truth, Py.R.test, Py.R.lay, lay, Py.R.toO, Py.O.then, asg, items, listOf, index, setIx, built1, built2, lenOf, cmpop, binop, keyed, isin, tr, trX, trL, eqv, eqvs, btype, bmok, bmeth, boolsOf, atI, ixN, small, kdOf, Kd.isa, isNode, ev_var, ev_int, ev_atom, ev_name, ev_tup, ne7, ne8, ne9, ne10, r_atomL hx, ha, l1, l3]
                      | ls _ => simp [okv] at hy
                      | kt _ => simp [okv] at hy
                      | ref n =>
                        simp only [okv] at hy
                        split at hy
                        · rename_i zs hz
                          simp [fn15, evSs, evS, ev, evs, evI, Py.R.bind, ofO, isinst, truth, Py.R.test, Py.R.lay, lay, Py.R.toO, Py.O.then, asg, items, listOf, index, setIx, built1, built2, lenOf, cmpop, binop, keyed, isin, tr, trX, trL, eqv, eqvs, btype, bmok, bmeth, boolsOf, atI, ixN, small, kdOf, Kd.isa, isNode, ev_var, ev_int, ev_atom, ev_name, ev_tup, ne7, ne8, ne9, ne10, r_atomL hx, ha, hz]
                        · cases hy
                      | _ => simp [fn15, evSs, evS, ev, evs, evI, Py.R.bind, ofO, isinst, truth, Py.R.test, Py.R.lay, lay, Py.R.toO, Py.O.then, asg, items, listOf, index, setIx, built1, built2, lenOf, cmpop, binop, keyed, isin, tr, trX, trL, eqv, eqvs, btype, bmok, bmeth, boolsOf, atI, ixN, small, kdOf, Kd.isa, isNode, ev_var, ev_int, ev_atom, ev_name, ev_tup, ne7, ne8, ne9, ne10, r_atomL hx, ha]
                    · simp [fn15, evSs, evS, ev, evs, evI, Py.R.bind, ofO, isinst, truth, Py.R.test, Py.R.lay, lay, Py.R.toO, Py.O.then, asg, items, listOf, index, setIx, built1, built2, lenOf, cmpop, binop, keyed, isin, tr, trX, trL, eqv, eqvs, btype, bmok, bmeth, boolsOf, atI, ixN, small, kdOf, Kd.isa, isNode, ev_var, ev_int, ev_atom, ev_name, ev_tup, e1, e2, e3, e4, e5, r_atomL hx, ha]
                · simp [fn15, evSs, evS, ev, evs, evI, Py.R.bind, ofO, isinst, truth, Py.R.test, Py.R.lay, lay, Py.R.toO, Py.O.then, asg, items, listOf, index, setIx, built1, built2, lenOf, cmpop, binop, keyed, isin, tr, trX, trL, eqv, eqvs, btype, bmok, bmeth, boolsOf, atI, ixN, small, kdOf, Kd.isa, isNode, ev_var, ev_int, ev_atom, e1, e2, e3, r_atomL hx, ha]
              · have : ¬ (rest.length : Int) + 1 + 1 + 1 + 1 = 3 := by omega
                have p0 : (0 : Int) < (rest.length : Int) + 1 + 1 + 1 + 1 := by omega
                have p1 : ¬ (rest.length : Int) + 1 + 1 + 1 + 1 < 2 := by omega
                simp [fn15, evSs, evS, ev, evs, evI, Py.R.bind, ofO, isinst, truth, Py.R.test, Py.R.lay, lay, Py.R.toO, Py.O.then, asg, items, listOf, index, setIx, built1, built2, lenOf, cmpop, binop, keyed, isin, tr, trX, trL, eqv, eqvs, btype, bmok, bmeth, boolsOf, atI, ixN, small, kdOf, Kd.isa, isNode, ev_var, ev_int, ev_atom, e1, e2, e3, this, p0, p1]
      | ls _ => simp [okv] at hw
      | kt _ => simp [okv] at hw
      | ref n =>
        have p0 : (0 : Int) < (rest.length : Int) + 1 := by omega
        simp only [okv] at hw
        split at hw
        · rename_i zs hz
          by_cases p1 : (rest.length : Int) + 1 < 2 <;> simp [fn15, evSs, evS, ev, evs, evI, Py.R.bind, ofO, isinst, truth, Py.R.test, Py.R.lay, lay, Py.R.toO, Py.O.then, asg, items, listOf, index, setIx, built1, built2, lenOf, cmpop, binop, keyed, isin, tr, trX, trL, eqv, eqvs, btype, bmok, bmeth, boolsOf, atI, ixN, small, kdOf, Kd.isa, isNode, hz, p0, p1]
        · cases hw
      | _ =>
        have p0 : (0 : Int) < (rest.length : Int) + 1 := by omega
        by_cases p1 : (rest.length : Int) + 1 < 2 <;> simp [fn15, evSs, evS, ev, evs, evI, Py.R.bind, ofO, isinst, truth, Py.R.test, Py.R.lay, lay, Py.R.toO, Py.O.then, asg, items, listOf, index, setIx, built1, built2, lenOf, cmpop, binop, keyed, isin, tr, trX, trL, eqv, eqvs, btype, bmok, bmeth, boolsOf, atI, ixN, small, kdOf, Kd.isa, isNode, p0, p1]
  | _ => simp [fn15, evSs, evS, ev, evs, evI, Py.R.bind, ofO, isinst, truth, Py.R.test, Py.R.lay, lay, Py.R.toO, Py.O.then, asg, items, listOf, index, setIx, built1, built2, lenOf, cmpop, binop, keyed, isin, tr, trX, trL, eqv, eqvs, btype, bmok, bmeth, boolsOf, atI, ixN, small, h1, h2, isNode]
end K01
set_option linter.all false
set_option maxRecDepth 100000
set_option maxHeartbeats 1000000
namespace K01
open Py
/-- graphs -/
def isGraph : D → Bool
  | .tup ds => decide (1 ≤ ds.length) && decide (ds.length ≤ 400) && ds.all (isNode ds.length)
  | _ => false
theorem r_graph {k : Nat} {g : G} {d : D} (h : okv g d = true) : runF T (k + 4) 4 [d] g = .ok (.bl (isGraph d)) g := by
  obtain ⟨kd, h1, _, _, _, h2⟩ := kd_ok h
  refine runF_rt tf4 rfl ?_
  cases d with
  | tup ds =>
    simp only [okv, Bool.and_eq_true, decide_eq_true_eq] at h
    obtain ⟨hs, hl⟩ := h
    by_cases l1 : 1 ≤ ds.length
    · have l3 : (1 : Int) ≤ ds.length := by omega
      by_cases l2 : ds.length ≤ 400
      · have l4 : (ds.length : Int) ≤ 400 := by omega
        have lp : ev T (runF T (k + 3)) fn4_c0 [some (.tup ds), none] g = .ok (.tmp (ds.map fun d => .bl (isNode ds.length d))) g := by
          refine ev_comp (it := .vals ds) (g1 := g) (by simp [evSs, evS, ev, evs, evI, Py.R.bind, ofO, isinst, truth, Py.R.test, Py.R.lay, lay, Py.R.toO, Py.O.then, asg, items, listOf, index, setIx, built1, built2, lenOf, cmpop, binop, keyed, isin, tr, trX, trL, eqv, eqvs, btype, bmok, bmeth, boolsOf, atI, ixN, small]) (loopC_map _ (by unfold line; omega) (fun L => by simp [evSs, evS, ev, evs, evI, Py.R.bind, ofO, isinst, truth, Py.R.test, Py.R.lay, lay, Py.R.toO, Py.O.then, asg, items, listOf, index, setIx, built1, built2, lenOf, cmpop, binop, keyed, isin, tr, trX, trL, eqv, eqvs, btype, bmok, bmeth, boolsOf, atI, ixN, small]) fun x hx => ?_)
          simp [evSs, evS, ev, evs, evI, Py.R.bind, ofO, isinst, truth, Py.R.test, Py.R.lay, lay, Py.R.toO, Py.O.then, asg, items, listOf, index, setIx, built1, built2, lenOf, cmpop, binop, keyed, isin, tr, trX, trL, eqv, eqvs, btype, bmok, bmeth, boolsOf, atI, ixN, small, r_node (okvs_all hs x hx)]
        have bo := boolsOf_mapD (isNode ds.length) ds
        simp [fn4, evSs, evS, ev, evs, evI, Py.R.bind, ofO, isinst, truth, Py.R.test, Py.R.lay, lay, Py.R.toO, Py.O.then, asg, items, listOf, index, setIx, built1, built2, lenOf, cmpop, binop, keyed, isin, tr, trX, trL, eqv, eqvs, btype, bmok, bmeth, boolsOf, atI, ixN, small, kdOf, Kd.isa, isGraph, tg0, l1, l2, l3, l4, lp, bo]
      · have l4 : ¬ (ds.length : Int) ≤ 400 := by omega
        simp [fn4, evSs, evS, ev, evs, evI, Py.R.bind, ofO, isinst, truth, Py.R.test, Py.R.lay, lay, Py.R.toO, Py.O.then, asg, items, listOf, index, setIx, built1, built2, lenOf, cmpop, binop, keyed, isin, tr, trX, trL, eqv, eqvs, btype, bmok, bmeth, boolsOf, atI, ixN, small, kdOf, Kd.isa, isGraph, tg0, l1, l2, l3, l4]
    · have l3 : ¬ (1 : Int) ≤ ds.length := by omega
      simp [fn4, evSs, evS, ev, evs, evI, Py.R.bind, ofO, isinst, truth, Py.R.test, Py.R.lay, lay, Py.R.toO, Py.O.then, asg, items, listOf, index, setIx, built1, built2, lenOf, cmpop, binop, keyed, isin, tr, trX, trL, eqv, eqvs, btype, bmok, bmeth, boolsOf, atI, ixN, small, kdOf, Kd.isa, isGraph, tg0, l1, l3]
  | _ => simp [fn4, evSs, evS, ev, evs, evI, Py.R.bind, ofO, isinst, truth, Py.R.test, Py.R.lay, lay, Py.R.toO, Py.O.then, asg, items, listOf, index, setIx, built1, built2, lenOf, cmpop, binop, keyed, isin, tr, trX, trL, eqv, eqvs, btype, bmok, bmeth, boolsOf, atI, ixN, small, h1, h2, isGraph]
/-- what is made of Python's own values comes back -/
theorem r_back {k : Nat} {g : G} {b : Bool} : runF T (k + 2) 8 [.bl b] g = .ok (.bl b) g := by
  have h7 : runF T (k + 1) 7 [.bl b] g = .ok (.bl true) g := by
    refine runF_rt tf7 rfl ?_
    simp [fn7, evSs, evS, ev, evs, evI, Py.R.bind, ofO, isinst, truth, Py.R.test, Py.R.lay, lay, Py.R.toO, Py.O.then, asg, items, listOf, index, setIx, built1, built2, lenOf, cmpop, binop, keyed, isin, tr, trX, trL, eqv, eqvs, btype, bmok, bmeth, boolsOf, atI, ixN, small, kdOf, Kd.isa, D.isNon]
  refine runF_rt tf8 rfl ?_
  simp [fn8, evSs, evS, ev, evs, evI, Py.R.bind, ofO, isinst, truth, Py.R.test, Py.R.lay, lay, Py.R.toO, Py.O.then, asg, items, listOf, index, setIx, built1, built2, lenOf, cmpop, binop, keyed, isin, tr, trX, trL, eqv, eqvs, btype, bmok, bmeth, boolsOf, atI, ixN, small, h7]
end K01
set_option linter.all false
set_option maxRecDepth 100000
set_option maxHeartbeats 1000000
namespace K01
open Py
/-- something drawn -/
def Gen (ns : List Int) (l r : Nat) (g : G) (res : R D) (Q : D → Prop) : Prop := ∃ d g', res = .ok d g' ∧ Q d ∧ Strm ns l r g' ∧ Keep r g g'
theorem far {ns : List Int} {l r k : Nat} {g : G} (s : Strm ns l r g) : Gen ns l r g (runF T (k + 2) 9 [.ref r] g) fun d => isCount d = true ∧ okv [] d = true := by
  obtain ⟨v1, g1, e1, a1, b1, s1, k1⟩ := draw (k := k) (many := 4) s (by decide) (by decide)
  by_cases h : v1 > 0
  · obtain ⟨v2, g2, e2, a2, b2, s2, k2⟩ := draw (k := k) (many := 3) s1 (by decide) (by decide)
    refine ⟨.int v2, g2, runF_rt tf9 rfl ?_, ⟨by simp [isCount]; omega, rfl⟩, s2, k1.trans k2⟩
    simp [fn9, evSs, evS, ev, evs, evI, Py.R.bind, ofO, isinst, truth, Py.R.test, Py.R.lay, lay, Py.R.toO, Py.O.then, asg, items, listOf, index, setIx, built1, built2, lenOf, cmpop, binop, keyed, isin, tr, trX, trL, eqv, eqvs, btype, bmok, bmeth, boolsOf, atI, ixN, small, e1, e2, h]
  · obtain ⟨v2, g2, e2, a2, b2, s2, k2⟩ := draw (k := k) (many := 1000000000) s1 (by decide) (by decide)
    obtain ⟨v3, g3, e3, a3, b3, s3, k3⟩ := draw (k := k) (many := 4) s2 (by decide) (by decide)
    have hv : v3 = 0 ∨ v3 = 1 ∨ v3 = 2 ∨ v3 = 3 := by omega
    have kk := (k1.trans k2).trans k3
    rcases hv with rfl | rfl | rfl | rfl
    · exact ⟨.int 10, g3, runF_rt tf9 rfl (by simp [fn9, evSs, evS, ev, evs, evI, Py.R.bind, ofO, isinst, truth, Py.R.test, Py.R.lay, lay, Py.R.toO, Py.O.then, asg, items, listOf, index, setIx, built1, built2, lenOf, cmpop, binop, keyed, isin, tr, trX, trL, eqv, eqvs, btype, bmok, bmeth, boolsOf, atI, ixN, small, e1, e2, e3, h, line]), by decide, s3, kk⟩
    · exact ⟨.int 12, g3, runF_rt tf9 rfl (by simp [fn9, evSs, evS, ev, evs, evI, Py.R.bind, ofO, isinst, truth, Py.R.test, Py.R.lay, lay, Py.R.toO, Py.O.then, asg, items, listOf, index, setIx, built1, built2, lenOf, cmpop, binop, keyed, isin, tr, trX, trL, eqv, eqvs, btype, bmok, bmeth, boolsOf, atI, ixN, small, e1, e2, e3, h, line]), by decide, s3, kk⟩
    · exact ⟨.int 1000000000, g3, runF_rt tf9 rfl (by simp [fn9, evSs, evS, ev, evs, evI, Py.R.bind, ofO, isinst, truth, Py.R.test, Py.R.lay, lay, Py.R.toO, Py.O.then, asg, items, listOf, index, setIx, built1, built2, lenOf, cmpop, binop, keyed, isin, tr, trX, trL, eqv, eqvs, btype, bmok, bmeth, boolsOf, atI, ixN, small, e1, e2, e3, h, line]), by decide, s3, kk⟩
    · exact ⟨.int v2, g3, runF_rt tf9 rfl (by simp [fn9, evSs, evS, ev, evs, evI, Py.R.bind, ofO, isinst, truth, Py.R.test, Py.R.lay, lay, Py.R.toO, Py.O.then, asg, items, listOf, index, setIx, built1, built2, lenOf, cmpop, binop, keyed, isin, tr, trX, trL, eqv, eqvs, btype, bmok, bmeth, boolsOf, atI, ixN, small, e1, e2, e3, h, line]), ⟨by simp [isCount]; omega, rfl⟩, s3, kk⟩
/-- one sign more -/
theorem atom_more {z : Tx} {c : Char} (h : isAtom (.str z) = true) (hl : z.length < 12) (hc : c ∈ smallT ∨ c ∈ digitT) : isAtom (.str (z ++ [c])) = true := by
  cases z with
  | nil => cases h
  | cons a z =>
    simp only [isAtom, Bool.and_eq_true, decide_eq_true_eq, List.all_cons, List.cons_append, List.all_append, List.all_nil, Bool.and_true, List.length_append, List.length_cons, List.length_nil, Bool.or_eq_true] at h ⊢
    simp only [List.length_cons] at hl
    exact ⟨⟨by omega, h.1.2⟩, h.2.1, h.2.2, hc⟩
def t6 : Tx := ['a', 'b', 'z', '0', '1', '9']
theorem et6 : (['a', 'b', 'z', '0', '1', '9'] : Tx) = t6 := rfl
theorem ht6 : List.length t6 = 6 := rfl
def t3 : Tx := ['a', 'b', 'z']
theorem et3 : (['a', 'b', 'z'] : Tx) = t3 := rfl
theorem ht3 : List.length t3 = 3 := rfl
theorem atom {ns : List Int} {l r k : Nat} {g : G} (s : Strm ns l r g) : Gen ns l r g (runF T (k + 2) 10 [.ref r] g) fun d => isAtom d = true ∧ okv [] d = true := by
  obtain ⟨v1, g1, e1, a1, b1, s1, k1⟩ := draw (k := k) (many := 3) s (by decide) (by decide)
  by_cases h : v1 > 0
  · obtain ⟨v2, g2, e2, a2, b2, s2, k2⟩ := draw (k := k) (many := 5) s1 (by decide) (by decide)
    have hv : v2 = 0 ∨ v2 = 1 ∨ v2 = 2 ∨ v2 = 3 ∨ v2 = 4 := by omega
    rcases hv with rfl | rfl | rfl | rfl | rfl
    · exact ⟨.str ['a'], g2, runF_rt tf10 rfl (by simp [fn10, evSs, evS, ev, evs, evI, Py.R.bind, ofO, isinst, truth, Py.R.test, Py.R.lay, lay, Py.R.toO, Py.O.then, asg, items, listOf, index, setIx, built1, built2, lenOf, cmpop, binop, keyed, isin, tr, trX, trL, eqv, eqvs, btype, bmok, bmeth, boolsOf, atI, ixN, small, e1, e2, h, line]), by decide, s2, k1.trans k2⟩
    · exact ⟨.str ['b'], g2, runF_rt tf10 rfl (by simp [fn10, evSs, evS, ev, evs, evI, Py.R.bind, ofO, isinst, truth, Py.R.test, Py.R.lay, lay, Py.R.toO, Py.O.then, asg, items, listOf, index, setIx, built1, built2, lenOf, cmpop, binop, keyed, isin, tr, trX, trL, eqv, eqvs, btype, bmok, bmeth, boolsOf, atI, ixN, small, e1, e2, h, line]), by decide, s2, k1.trans k2⟩
    · exact ⟨.str ['n', 'i', 'l'], g2, runF_rt tf10 rfl (by simp [fn10, evSs, evS, ev, evs, evI, Py.R.bind, ofO, isinst, truth, Py.R.test, Py.R.lay, lay, Py.R.toO, Py.O.then, asg, items, listOf, index, setIx, built1, built2, lenOf, cmpop, binop, keyed, isin, tr, trX, trL, eqv, eqvs, btype, bmok, bmeth, boolsOf, atI, ixN, small, e1, e2, h, line]), by decide, s2, k1.trans k2⟩
    · exact ⟨.str ['x', '1'], g2, runF_rt tf10 rfl (by simp [fn10, evSs, evS, ev, evs, evI, Py.R.bind, ofO, isinst, truth, Py.R.test, Py.R.lay, lay, Py.R.toO, Py.O.then, asg, items, listOf, index, setIx, built1, built2, lenOf, cmpop, binop, keyed, isin, tr, trX, trL, eqv, eqvs, btype, bmok, bmeth, boolsOf, atI, ixN, small, e1, e2, h, line]), by decide, s2, k1.trans k2⟩
    · exact ⟨.str ['a', 'b', 'c', 'd', 'e', 'f', 'g', 'h', 'i', 'j', 'k', 'l'], g2, runF_rt tf10 rfl (by simp [fn10, evSs, evS, ev, evs, evI, Py.R.bind, ofO, isinst, truth, Py.R.test, Py.R.lay, lay, Py.R.toO, Py.O.then, asg, items, listOf, index, setIx, built1, built2, lenOf, cmpop, binop, keyed, isin, tr, trX, trL, eqv, eqvs, btype, bmok, bmeth, boolsOf, atI, ixN, small, e1, e2, h, line]), by decide, s2, k1.trans k2⟩
  · obtain ⟨v2, g2, e2, a2, b2, s2, k2⟩ := draw (k := k) (many := 3) s1 (by decide) (by decide)
    obtain ⟨v3, g3, e3, a3, b3, s3, k3⟩ := draw (k := k) (many := 3) s2 (by decide) (by decide)
    obtain ⟨c, hc, ec⟩ : ∃ c : Char, c ∈ smallT ∧ t3[v2.toNat]? = some c := by
      have hv : v2 = 0 ∨ v2 = 1 ∨ v2 = 2 := by omega
      rcases hv with rfl | rfl | rfl
      · exact ⟨'a', by decide, rfl⟩
      · exact ⟨'b', by decide, rfl⟩
      · exact ⟨'z', by decide, rfl⟩
    have hat : isAtom (.str [c]) = true := by simp [isAtom, hc]
    obtain ⟨L', g', e4, z, d, hz, hzl, rfl, s4, k4⟩ : ∃ L' g', loopF (.rng 0 v3.toNat) (.nm 2) (fun L g => evSs T (runF T (k + 1)) fn10_b0 L g) fuel 0 [some (.ref r), some (.str [c]), none] g3 = .nx L' g' ∧ ∃ z d, isAtom (.str z) = true ∧ z.length = v3.toNat + 1 ∧ L' = [some (.ref r), some (.str z), d] ∧ Strm ns l r g' ∧ Keep r g3 g' := by
      refine loopF_ind (n := v3.toNat) (fun i L g => ∃ z d, isAtom (.str z) = true ∧ z.length = i + 1 ∧ L = [some (.ref r), some (.str z), d] ∧ Strm ns l r g ∧ Keep r g3 g) (fun i L g hi p => ?_) (fun L g p => by simp [turn]) fuel 0 _ _ (Nat.zero_le _) (by unfold fuel; omega) ⟨[c], none, hat, rfl, rfl, s3, .refl r g3⟩
      obtain ⟨z, d, hz, hzl, rfl, sg, kg⟩ := p
      obtain ⟨v5, g5, e5, a5, b5, s5, k5⟩ := draw (k := k) (many := 6) sg (by decide) (by decide)
      obtain ⟨q, hq, eq⟩ : ∃ q : Char, (q ∈ smallT ∨ q ∈ digitT) ∧ t6[v5.toNat]? = some q := by
        have hv : v5 = 0 ∨ v5 = 1 ∨ v5 = 2 ∨ v5 = 3 ∨ v5 = 4 ∨ v5 = 5 := by omega
        rcases hv with rfl | rfl | rfl | rfl | rfl | rfl
        · exact ⟨'a', by decide, rfl⟩
        · exact ⟨'b', by decide, rfl⟩
        · exact ⟨'z', by decide, rfl⟩
        · exact ⟨'0', by decide, rfl⟩
        · exact ⟨'1', by decide, rfl⟩
        · exact ⟨'9', by decide, rfl⟩
      refine ⟨.int i, [some (.ref r), some (.str z), some (.int i)], by simp [turn, hi], rfl, [some (.ref r), some (.str (z ++ [q])), some (.int i)], g5, .inl ?_, z ++ [q], some (.int i), atom_more hz (by omega) hq, by simp [hzl], rfl, s5, kg.trans k5⟩
      have hzz : z.length + 1 ≤ line := by unfold line; omega
      simp only [fn10_b0, et6]
      simp [evSs, evS, ev, evs, evI, Py.R.bind, ofO, isinst, truth, Py.R.test, Py.R.lay, lay, Py.R.toO, Py.O.then, asg, items, listOf, index, setIx, built1, built2, lenOf, cmpop, binop, keyed, isin, tr, trX, trL, eqv, eqvs, btype, bmok, bmeth, boolsOf, atI, ixN, small, e5, a5, b5, eq, hzz, ht6, show 6 ≤ line from by decide]
    have h1 : evS T (runF T (k + 1)) fn10_l1 [some (.ref r), some (.str [c]), none] g2 = .nx [some (.ref r), some (.str z), d] g' := ev_for (g1 := g3) (by simp [evSs, evS, ev, evs, evI, Py.R.bind, ofO, isinst, truth, Py.R.test, Py.R.lay, lay, Py.R.toO, Py.O.then, asg, items, listOf, index, setIx, built1, built2, lenOf, cmpop, binop, keyed, isin, tr, trX, trL, eqv, eqvs, btype, bmok, bmeth, boolsOf, atI, ixN, small, e3]; omega) e4
    refine ⟨.str z, g', runF_rt tf10 rfl ?_, ⟨hz, by simp [okv]; omega⟩, s4, ((k1.trans k2).trans k3).trans k4⟩
    simp only [fn10, et3]
    simp [evSs, evS, ev, evs, evI, Py.R.bind, ofO, isinst, truth, Py.R.test, Py.R.lay, lay, Py.R.toO, Py.O.then, asg, items, listOf, index, setIx, built1, built2, lenOf, cmpop, binop, keyed, isin, tr, trX, trL, eqv, eqvs, btype, bmok, bmeth, boolsOf, atI, ixN, small, e1, e2, h, a2, b2, ec, ht3, show 3 ≤ line from by decide, h1]
end K01
set_option linter.all false
set_option maxRecDepth 100000
set_option maxHeartbeats 1000000
namespace K01
open Py
def wF : Tx := ['f']
theorem parts {ns : List Int} {l r k : Nat} {g : G} {many : Int} {x2 x3 x4 : Option D} (s : Strm ns l r g) (h0 : 0 < many) (h1 : many ≤ 1000) :
    ∃ ps g', ev T (runF T (k + 1)) fn11_c0 [some (.ref r), some (.int many), x2, x3, x4] g = .ok (.tmp ps) g' ∧ 1 ≤ ps.length ∧ ps.length ≤ 6 ∧ ps.all (isNum 0 (many - 1)) = true ∧ okvs [] ps = true ∧ Strm ns l r g' ∧ Keep r g g' := by
  obtain ⟨v1, g1, e1, a1, b1, s1, k1⟩ := draw (k := k) (many := 5) s (by decide) (by decide)
  obtain ⟨n, hn1, hn2, en⟩ : ∃ n : Nat, 1 ≤ n ∧ n ≤ 6 ∧ ([.int 1, .int 2, .int 2, .int 3, .int 6] : List D)[v1.toNat]? = some (.int n) := by
    have hv : v1 = 0 ∨ v1 = 1 ∨ v1 = 2 ∨ v1 = 3 ∨ v1 = 4 := by omega
    rcases hv with rfl | rfl | rfl | rfl | rfl
    · exact ⟨1, by decide, by decide, rfl⟩
    · exact ⟨2, by decide, by decide, rfl⟩
    · exact ⟨2, by decide, by decide, rfl⟩
    · exact ⟨3, by decide, by decide, rfl⟩
    · exact ⟨6, by decide, by decide, rfl⟩
  obtain ⟨ps, g', e2, hl, hps, hok, s2, k2⟩ : ∃ ps g', loopC (.rng 0 n) (.nm 4) (fun L g => (ev T (runF T (k + 1)) (.c (.bl true)) L g).test) (fun L g => (ev T (runF T (k + 1)) (.call 6 (.cons (.v 0) (.cons (.v 1) .nil))) L g).lay) [some (.ref r), some (.int many), x2, x3, x4] fuel 0 [] g1 = .ok ps g' ∧ ps.length = n ∧ ps.all (isNum 0 (many - 1)) = true ∧ okvs [] ps = true ∧ Strm ns l r g' ∧ Keep r g1 g' := by
    refine loopC_ind (n := n) (fun i acc g' => acc.length = i ∧ acc.all (isNum 0 (many - 1)) = true ∧ okvs [] acc = true ∧ Strm ns l r g' ∧ Keep r g1 g') (fun i acc g' hi p => ?_) (fun acc g' p => by simp [turn]) fuel 0 [] g1 (Nat.zero_le _) (by unfold fuel; omega) ⟨rfl, rfl, rfl, s1, .refl r g1⟩
    obtain ⟨hl, ha, ho, sg, kg⟩ := p
    obtain ⟨v, g2, e, a, b, s2, k2⟩ := draw (k := k) (many := many) sg h0 (by omega)
    refine ⟨.int i, _, by simp [turn, hi], rfl, by unfold line; omega, .inl ⟨.int v, g', g2, by simp [evSs, evS, ev, evs, evI, Py.R.bind, ofO, isinst, truth, Py.R.test, Py.R.lay, lay, Py.R.toO, Py.O.then, asg, items, listOf, index, setIx, built1, built2, lenOf, cmpop, binop, keyed, isin, tr, trX, trL, eqv, eqvs, btype, bmok, bmeth, boolsOf, atI, ixN, small], by simp [evSs, evS, ev, evs, evI, Py.R.bind, ofO, isinst, truth, Py.R.test, Py.R.lay, lay, Py.R.toO, Py.O.then, asg, items, listOf, index, setIx, built1, built2, lenOf, cmpop, binop, keyed, isin, tr, trX, trL, eqv, eqvs, btype, bmok, bmeth, boolsOf, atI, ixN, small, e], by simp [hl], ?_, okvs_of fun d hd => ?_, s2, kg.trans k2⟩⟩
    · simp only [List.all_append, ha, Bool.true_and, List.all_cons, List.all_nil, Bool.and_true, isNum]
      simp [a]
      omega
    · rcases List.mem_append.mp hd with hd | hd
      · exact okvs_all ho d hd
      · have : d = .int v := by simpa using hd
        subst this
        rfl
  refine ⟨ps, g', ?_, by omega, by omega, hps, hok, s2, k1.trans k2⟩
  refine ev_comp (it := .rng 0 n) (g1 := g1) ?_ e2
  have hv : v1 = 0 ∨ v1 = 1 ∨ v1 = 2 ∨ v1 = 3 ∨ v1 = 4 := by omega
  rcases hv with rfl | rfl | rfl | rfl | rfl <;> simp at en <;> (simp [evSs, evS, ev, evs, evI, Py.R.bind, ofO, isinst, truth, Py.R.test, Py.R.lay, lay, Py.R.toO, Py.O.then, asg, items, listOf, index, setIx, built1, built2, lenOf, cmpop, binop, keyed, isin, tr, trX, trL, eqv, eqvs, btype, bmok, bmeth, boolsOf, atI, ixN, small, e1, line]; omega)
theorem Strm.push {ns : List Int} {l r : Nat} {g : G} (s : Strm ns l r g) (os : List Ob) : Strm ns l r (g ++ os) := by
  obtain ⟨h, hl, a, p, m, ha, hp, hm, hr⟩ := s
  exact ⟨h, Keep.push l _ h hl, a, p, m, ha, hp, hm, by rw [List.getElem?_append_left (List.getElem?_eq_some_iff.mp hr).1]; exact hr⟩
theorem Strm.lt {ns : List Int} {l r : Nat} {g : G} (s : Strm ns l r g) : r < g.length := by
  obtain ⟨h, hl, a, p, m, ha, hp, hm, hr⟩ := s
  exact (List.getElem?_eq_some_iff.mp hr).1
theorem node {ns : List Int} {l r k : Nat} {g : G} {many : Int} (s : Strm ns l r g) (h0 : 0 < many) (h1 : many ≤ 1000) : Gen ns l r g (runF T (k + 3) 11 [.ref r, .int many] g) fun d => isNode many d = true ∧ okv [] d = true := by
  obtain ⟨v1, g1, e1, a1, b1, s1, k1⟩ := draw (k := k + 1) (many := 9) s (by decide) (by decide)
  by_cases c0 : v1 = 0
  · subst c0
    obtain ⟨d, g2, e2, ⟨hd, ho⟩, s2, k2⟩ := far (k := k) s1
    refine ⟨.tup [.str vVar, d], g2, runF_rt tf11 rfl ?_, ⟨by simp [isNode, hd], by simp [okv, okvs, ho]; decide⟩, s2, k1.trans k2⟩
    simp [fn11, evSs, evS, ev, evs, evI, Py.R.bind, ofO, isinst, truth, Py.R.test, Py.R.lay, lay, Py.R.toO, Py.O.then, asg, items, listOf, index, setIx, built1, built2, lenOf, cmpop, binop, keyed, isin, tr, trX, trL, eqv, eqvs, btype, bmok, bmeth, boolsOf, atI, ixN, small, e1, e2, line, ev_var]
  · by_cases c1 : v1 = 1
    · subst c1
      obtain ⟨v2, g2, e2, a2, b2, s2, k2⟩ := draw (k := k + 1) (many := 7) s1 (by decide) (by decide)
      obtain ⟨i, hi, ei⟩ : ∃ i : Int, isNum (-1000000000) 1000000000 (.int i) = true ∧ ([.int 0, .int 1, .int (-1), .int 7, .int (-12), .int 1000000000, .int (-1000000000)] : List D)[v2.toNat]? = some (.int i) := by
        have hv : v2 = 0 ∨ v2 = 1 ∨ v2 = 2 ∨ v2 = 3 ∨ v2 = 4 ∨ v2 = 5 ∨ v2 = 6 := by omega
        rcases hv with rfl | rfl | rfl | rfl | rfl | rfl | rfl <;> exact ⟨_, by decide, rfl⟩
      refine ⟨.tup [.str vInt, .int i], g2, runF_rt tf11 rfl ?_, ⟨by simp [isNode, ne1, hi], by simp [okv, okvs]; decide⟩, s2, k1.trans k2⟩
      have hv : v2 = 0 ∨ v2 = 1 ∨ v2 = 2 ∨ v2 = 3 ∨ v2 = 4 ∨ v2 = 5 ∨ v2 = 6 := by omega
      rcases hv with rfl | rfl | rfl | rfl | rfl | rfl | rfl <;> simp at ei <;> subst ei <;> simp [fn11, evSs, evS, ev, evs, evI, Py.R.bind, ofO, isinst, truth, Py.R.test, Py.R.lay, lay, Py.R.toO, Py.O.then, asg, items, listOf, index, setIx, built1, built2, lenOf, cmpop, binop, keyed, isin, tr, trX, trL, eqv, eqvs, btype, bmok, bmeth, boolsOf, atI, ixN, small, e1, e2, line, ev_int]
    · by_cases c2 : v1 = 2
      · subst c2
        obtain ⟨d, g2, e2, ⟨hd, ho⟩, s2, k2⟩ := atom (k := k) s1
        refine ⟨.tup [.str vAtom, d], g2, runF_rt tf11 rfl ?_, ⟨by simp [isNode, ne2, ne3, hd], by simp [okv, okvs, ho]; decide⟩, s2, k1.trans k2⟩
        simp [fn11, evSs, evS, ev, evs, evI, Py.R.bind, ofO, isinst, truth, Py.R.test, Py.R.lay, lay, Py.R.toO, Py.O.then, asg, items, listOf, index, setIx, built1, built2, lenOf, cmpop, binop, keyed, isin, tr, trX, trL, eqv, eqvs, btype, bmok, bmeth, boolsOf, atI, ixN, small, e1, e2, line, ev_atom]
      · by_cases c3 : v1 = 3
        · subst c3
          obtain ⟨d, g2, e2, ⟨hd, ho⟩, s2, k2⟩ := atom (k := k) s1
          obtain ⟨d3, g3, e3, ⟨hd3, ho3⟩, s3, k3⟩ := far (k := k) s2
          refine ⟨.tup [.str vName, d, d3], g3, runF_rt tf11 rfl ?_, ⟨by simp [isNode, ne4, ne5, ne6, hd, hd3], by simp [okv, okvs, ho, ho3]; decide⟩, s3, (k1.trans k2).trans k3⟩
          simp [fn11, evSs, evS, ev, evs, evI, Py.R.bind, ofO, isinst, truth, Py.R.test, Py.R.lay, lay, Py.R.toO, Py.O.then, asg, items, listOf, index, setIx, built1, built2, lenOf, cmpop, binop, keyed, isin, tr, trX, trL, eqv, eqvs, btype, bmok, bmeth, boolsOf, atI, ixN, small, e1, e2, e3, line, ev_name]
        · obtain ⟨ps, g2, e2, l1, l2, hps, hok, s2, k2⟩ := parts (k := k + 1) (many := many) (x2 := some (.int v1)) (x3 := none) (x4 := none) s1 h0 h1
          obtain ⟨v3, g3, e3, a3, b3, s3, k3⟩ := draw (k := k + 1) (many := 5) (s2.push [.lst ps]) (by decide) (by decide)
          obtain ⟨w, hw, hwo, ew⟩ : ∃ w : Tx, isAtom (.str w) = true ∧ w.length ≤ 100 ∧ ([.str ['f'], .str ['f'], .str ['f', 'a'], .str ['c', 'o', 'n', 's'], .str ['c', 'e', 'l', 'l']] : List D)[v3.toNat]? = some (.str w) := by
            have hv : v3 = 0 ∨ v3 = 1 ∨ v3 = 2 ∨ v3 = 3 ∨ v3 = 4 := by omega
            rcases hv with rfl | rfl | rfl | rfl | rfl <;> exact ⟨_, by decide, by decide, rfl⟩
          have hp : g3[g2.length]? = some (.lst ps) := k3 _ _ (by have := s2.lt; omega) (by simp)
          have l3 : ps.length ≤ 100000 := by omega
          have okd : okv [] (.tup [.str vTup, .str w, .tup ps]) = true := by
            simp [okv, okvs, hok, hwo, l3]
            decide
          refine ⟨.tup [.str vTup, .str w, .tup ps], g3, runF_rt tf11 rfl ?_, ⟨?_, okd⟩, s3, ((k1.trans k2).trans Keep.push).trans k3⟩
          · have hv : v3 = 0 ∨ v3 = 1 ∨ v3 = 2 ∨ v3 = 3 ∨ v3 = 4 := by omega
            rcases hv with rfl | rfl | rfl | rfl | rfl <;> simp at ew <;> subst ew <;> simp [fn11, evSs, evS, ev, evs, evI, Py.R.bind, ofO, isinst, truth, Py.R.test, Py.R.lay, lay, Py.R.toO, Py.O.then, asg, items, listOf, index, setIx, built1, built2, lenOf, cmpop, binop, keyed, isin, tr, trX, trL, eqv, eqvs, btype, bmok, bmeth, boolsOf, atI, ixN, small, e1, c0, c1, c2, c3, e2, e3, hp, line, ev_tup]
          · have e7 : ¬ vTup = vVar := ne7
            simp [isNode, ne7, ne8, ne9, ne10, hw, l1, l2]
            simpa using hps
end K01
set_option linter.all false
set_option maxRecDepth 100000
set_option maxHeartbeats 1000000
namespace K01
open Py
theorem rng2 {k r : Nat} {g : G} (z : Int) (h1 : z < 100) (h2 : 0 ≤ z) : evI T (runF T k) (.rng (.cons (.v 2) .nil)) [some (.ref r), some (.int 8), some (.int z), none] g = .ok (.rng 0 z.toNat) g := by
  simp [evSs, evS, ev, evs, evI, Py.R.bind, ofO, isinst, truth, Py.R.test, Py.R.lay, lay, Py.R.toO, Py.O.then, asg, items, listOf, index, setIx, built1, built2, lenOf, cmpop, binop, keyed, isin, tr, trX, trL, eqv, eqvs, btype, bmok, bmeth, boolsOf, atI, ixN, small]
  omega
theorem nodes {ns : List Int} {l r k : Nat} {g1 : G} {z : Int} (s1 : Strm ns l r g1) (z1 : 1 ≤ z) (z8 : z ≤ 8) :
    ∃ ds g', ev T (runF T (k + 3)) fn12_c0 [some (.ref r), some (.int 8), some (.int z), none] g1 = .ok (.tmp ds) g' ∧ (ds.length : Int) = z ∧ ds.all (isNode z) = true ∧ okvs [] ds = true ∧ Strm ns l r g' ∧ Keep r g1 g' := by
  obtain ⟨ds, g', e2, hl, hps, hok, s2, k2⟩ : ∃ ds g', loopC (.rng 0 z.toNat) (.nm 3) (fun L g => (ev T (runF T (k + 3)) (.c (.bl true)) L g).test) (fun L g => (ev T (runF T (k + 3)) (.call 11 (.cons (.v 0) (.cons (.v 2) .nil))) L g).lay) [some (.ref r), some (.int 8), some (.int z), none] fuel 0 [] g1 = .ok ds g' ∧ ds.length = z.toNat ∧ ds.all (isNode z) = true ∧ okvs [] ds = true ∧ Strm ns l r g' ∧ Keep r g1 g' := by
    refine loopC_ind (n := z.toNat) (fun i acc g' => acc.length = i ∧ acc.all (isNode z) = true ∧ okvs [] acc = true ∧ Strm ns l r g' ∧ Keep r g1 g') (fun i acc g' hi p => ?_) (fun acc g' p => by simp [turn]) fuel 0 [] g1 (Nat.zero_le _) (by unfold fuel; omega) ⟨rfl, rfl, rfl, s1, .refl r g1⟩
    obtain ⟨hl, ha, ho, sg, kg⟩ := p
    obtain ⟨d, g2, e, ⟨hd, hdo⟩, s2, k2⟩ := node (k := k) (many := z) sg (by omega) (by omega)
    refine ⟨.int i, [some (.ref r), some (.int 8), some (.int z), some (.int i)], by simp [turn, hi], rfl, by unfold line; omega, .inl ⟨d, g', g2, by simp [evSs, evS, ev, evs, evI, Py.R.bind, ofO, isinst, truth, Py.R.test, Py.R.lay, lay, Py.R.toO, Py.O.then, asg, items, listOf, index, setIx, built1, built2, lenOf, cmpop, binop, keyed, isin, tr, trX, trL, eqv, eqvs, btype, bmok, bmeth, boolsOf, atI, ixN, small], by simp [evSs, evS, ev, evs, evI, Py.R.bind, ofO, isinst, truth, Py.R.test, Py.R.lay, lay, Py.R.toO, Py.O.then, asg, items, listOf, index, setIx, built1, built2, lenOf, cmpop, binop, keyed, isin, tr, trX, trL, eqv, eqvs, btype, bmok, bmeth, boolsOf, atI, ixN, small, e], by simp [hl], ?_, okvs_of fun x hx => ?_, s2, kg.trans k2⟩⟩
    · simp only [List.all_append, ha, Bool.true_and, List.all_cons, List.all_nil, Bool.and_true, hd]
    · rcases List.mem_append.mp hx with hx | hx
      · exact okvs_all ho x hx
      · have : x = d := by simpa using hx
        subst this
        exact hdo
  exact ⟨ds, g', ev_comp (it := .rng 0 z.toNat) (g1 := g1) (rng2 z (by omega) (by omega)) e2, by omega, hps, hok, s2, k2⟩
theorem graph {ns : List Int} {l r k : Nat} {g : G} (s : Strm ns l r g) : Gen ns l r g (runF T (k + 4) 12 [.ref r, .int 8] g) fun d => isGraph d = true ∧ okv [] d = true := by
  obtain ⟨v1, g1, e1, a1, b1, s1, k1⟩ := draw (k := k + 2) (many := 8) s (by decide) (by decide)
  obtain ⟨ds, g', h1, hl, hps, hok, s2, k2⟩ := nodes (k := k) (z := 1 + v1) s1 (by omega) (by omega)
  have h2 : 1 ≤ ds.length := by omega
  have h3 : ds.length ≤ 400 := by omega
  refine ⟨.tup ds, g', runF_rt tf12 rfl ?_, ⟨?_, ?_⟩, s2, k1.trans k2⟩
  · simp [fn12, evSs, evS, ev, evs, evI, Py.R.bind, ofO, isinst, truth, Py.R.test, Py.R.lay, lay, Py.R.toO, Py.O.then, asg, items, listOf, index, setIx, built1, built2, lenOf, cmpop, binop, keyed, isin, tr, trX, trL, eqv, eqvs, btype, bmok, bmeth, boolsOf, atI, ixN, small, e1, h1]
  · simp only [isGraph, hl, hps, h2, h3, decide_true, Bool.and_self]
  · have h4 : ds.length ≤ 100000 := by omega
    simp only [okv, hok, h4, decide_true, Bool.and_self]
end K01
set_option linter.all false
set_option maxRecDepth 100000
set_option maxHeartbeats 1000000
namespace K01
open Py
def oddA (many : Int) : List D := [.bl true, .bl false, .non, .int (-1), .int many, .int 1000000000, .int 1000000001, .int (-1000000001), .str [], .str ['A'], .str ['1', 'a'], .str ['a', '_', 'b'], .str ['a', 'b', 'c', 'd', 'e', 'f', 'g', 'h', 'i', 'j', 'k', 'l', 'm'], .str ['a', '\n'], .str ['a', 'B'], .str ['a', ' ', 'b'], .str ['a', '-'], .str ['a', '~'], .str ['a', '0', 'B']]
def oddB (many : Int) (p : Nat) : List D := [.tup [], .tup [.int 0, .int 0, .int 0, .int 0, .int 0, .int 0], .tup [.int 0, .int 0, .int 0, .int 0, .int 0, .int 0, .int 0], .ref p, .tup [.int 0, .int many], .tup [.bl true], .tup [.non], .str vVar, .str vInt, .str vAtom, .str vTup, .str vName, .str ['z']]
theorem odd_okA (g : G) (many : Int) : okvs g (oddA many) = true := by simp [oddA, okvs, okv]
theorem odd_okB {g : G} {p : Nat} {xs : List D} (many : Int) (h : g[p]? = some (.lst xs)) : okvs g (oddB many p) = true := by
  simp [oddB, okvs, okv, h]
  decide
theorem odd1 {g : G} {cf : Cf} {r : Nat} {many : Int} : evS T cf (ss0 fn17.body) [some (.ref r), some (.int many), none] g = .nx [some (.ref r), some (.int many), some (.ref g.length)] (g ++ [.lst (oddA many)]) := by
  simp [fn17, ss0, evSs, evS, ev, evs, evI, Py.R.bind, ofO, isinst, truth, Py.R.test, Py.R.lay, lay, Py.R.toO, Py.O.then, asg, items, listOf, index, setIx, built1, built2, lenOf, cmpop, binop, keyed, isin, tr, trX, trL, eqv, eqvs, btype, bmok, bmeth, boolsOf, atI, ixN, small, oddA, line]
theorem odd2 {g : G} {cf : Cf} {r p : Nat} {many : Int} {xs : List D} (hp : g[p]? = some (.lst xs)) (hx : xs.length = 19) : evS T cf (ss0 (ss1 fn17.body)) [some (.ref r), some (.int many), some (.ref p)] g = .nx [some (.ref r), some (.int many), some (.ref (g.length + 1))] (g ++ [.lst [.int 0], .lst (xs ++ oddB many g.length)]) := by
  have hp2 : (g ++ [.lst [.int 0]])[p]? = some (.lst xs) := by rw [List.getElem?_append_left (List.getElem?_eq_some_iff.mp hp).1]; exact hp
  have e6 : (List.replicate 6 [D.int 0]).flatten = [.int 0, .int 0, .int 0, .int 0, .int 0, .int 0] := rfl
  have e7 : (List.replicate 7 [D.int 0]).flatten = [.int 0, .int 0, .int 0, .int 0, .int 0, .int 0, .int 0] := rfl
  simp [fn17, ss0, ss1, evSs, evS, ev, evs, evI, Py.R.bind, ofO, isinst, truth, Py.R.test, Py.R.lay, lay, Py.R.toO, Py.O.then, asg, items, listOf, index, setIx, built1, built2, lenOf, cmpop, binop, keyed, isin, tr, trX, trL, eqv, eqvs, btype, bmok, bmeth, boolsOf, atI, ixN, small, hp, hp2, hx, line, oddB, ev_var, ev_int, ev_atom, ev_tup, ev_name]
theorem odd {ns : List Int} {l r k : Nat} {g : G} {many : Int} (s : Strm ns l r g) : ∃ d g', runF T (k + 2) 17 [.ref r, .int many] g = .ok d g' ∧ okv g' d = true ∧ Strm ns l r g' ∧ Keep r g g' := by
  let g1 := g ++ [Ob.lst (oddA many)]
  have s1 : Strm ns l r g1 := s.push _
  let g2 := g1 ++ [Ob.lst [D.int 0], Ob.lst (oddA many ++ oddB many g1.length)]
  have s2 : Strm ns l r g2 := s1.push _
  have k12 : Keep r g g2 := Keep.push.trans Keep.push
  obtain ⟨v, g3, e, a, b, s3, k3⟩ := draw (k := k) (many := 32) s2 (by decide) (by decide)
  have h1 : g1[g.length]? = some (.lst (oddA many)) := by simp [g1]
  have h2 : g2[g1.length + 1]? = some (.lst (oddA many ++ oddB many g1.length)) := by simp [g2]
  have h0 : g2[g1.length]? = some (.lst [D.int 0]) := by simp [g2]
  have hr : r < g1.length := s1.lt
  have h3 : g3[g1.length + 1]? = some (.lst (oddA many ++ oddB many g1.length)) := k3 _ _ (by omega) h2
  have h4 : g3[g1.length]? = some (.lst [D.int 0]) := k3 _ _ (by omega) h0
  have hlen : (oddA many ++ oddB many g1.length).length = 32 := by simp [oddA, oddB]
  generalize hxs : oddA many ++ oddB many g1.length = xs at h2 h3 hlen
  have hv : v.toNat < xs.length := by omega
  refine ⟨xs[v.toNat], g3, runF_rt tf17 rfl ?_, ?_, s3, k12.trans k3⟩
  · refine (run_ss (L1 := [some (.ref r), some (.int many), some (.ref g.length)]) (g1 := g1) odd1 rfl).trans ((run_ss (L1 := [some (.ref r), some (.int many), some (.ref (g1.length + 1))]) (g1 := g2) (odd2 h1 (by simp [oddA])) rfl).trans ?_)
    have h5 : xs[v.toNat]? = some xs[v.toNat] := List.getElem?_eq_getElem hv
    generalize xs[v.toNat] = d at h5
    simp [fn17, ss1, evSs, evS, ev, evs, evI, Py.R.bind, ofO, isinst, truth, Py.R.test, Py.R.lay, lay, Py.R.toO, Py.O.then, asg, items, listOf, index, setIx, built1, built2, lenOf, cmpop, binop, keyed, isin, tr, trX, trL, eqv, eqvs, btype, bmok, bmeth, boolsOf, atI, ixN, small, h2, h3, hlen, a, b, e, h5]
    exact Option.some.inj ((List.getElem?_eq_getElem hv).symm.trans h5)
  · have ok : okvs g3 xs = true := by
      rw [← hxs]
      refine okvs_of fun d hd => ?_
      rcases List.mem_append.mp hd with hd | hd
      · exact okvs_all (odd_okA g3 many) d hd
      · exact okvs_all (odd_okB many h4) d hd
    exact okvs_all ok _ (List.getElem_mem hv)
end K01
set_option linter.all false
set_option maxRecDepth 100000
set_option maxHeartbeats 1000000
namespace K01
open Py
theorem cut_mem {xs : List D} {lo hi : Option Int} {d : D} (h : d ∈ cut xs lo hi) : d ∈ xs := List.mem_of_mem_drop (List.mem_of_mem_take h)
theorem cut_len {xs : List D} {lo hi : Option Int} : (cut xs lo hi).length ≤ xs.length := by
  unfold cut
  rw [List.length_take, List.length_drop]
  omega
theorem okvs_cut {g : G} {xs : List D} {lo hi : Option Int} (h : okvs g xs = true) : okvs g (cut xs lo hi) = true := okvs_of fun d hd => okvs_all h d (cut_mem hd)
theorem okvs_app {g : G} {xs ys : List D} (h : okvs g xs = true) (h' : okvs g ys = true) : okvs g (xs ++ ys) = true := okvs_of fun d hd => (List.mem_append.mp hd).elim (okvs_all h d) (okvs_all h' d)
theorem okvs_one {g : G} {d : D} (h : okv g d = true) : okvs g [d] = true := okvs_of fun x hx => by
  have : x = d := by simpa using hx
  rw [this]; exact h
theorem fin18 {g : G} {cf : Cf} {r : Nat} {ds : List D} {a : Int} {nd : D} {p q : Option D} (hl : ds.length ≤ 400) :
    evSs T cf (ss1 (ss1 (ss1 (ss1 fn18.body)))) [some (.ref r), some (.tup ds), some (.int a), some nd, p, q] g = .rt (.tup (cut ds none (some a) ++ (nd :: cut ds (some (a + 1)) none))) g := by
  have h1 : (cut ds none (some a)).length ≤ ds.length := cut_len
  have h2 : (cut ds (some (a + 1)) none).length ≤ ds.length := cut_len
  have h3 : (cut ds none (some a)).length + 1 ≤ line := by unfold line; omega
  have h4 : (cut ds none (some a)).length + 1 + (cut ds (some (a + 1)) none).length ≤ line := by unfold line; omega
  simp [fn18, ss1, evSs, evS, ev, evs, evI, Py.R.bind, ofO, isinst, truth, Py.R.test, Py.R.lay, lay, Py.R.toO, Py.O.then, asg, items, listOf, index, setIx, built1, built2, lenOf, cmpop, binop, keyed, isin, tr, trX, trL, eqv, eqvs, btype, bmok, bmeth, boolsOf, atI, ixN, small, slice, h3, h4, show 1 ≤ line from by decide]
theorem ok18 {g : G} {ds : List D} {a : Int} {nd : D} (hl : ds.length ≤ 400) (ho : okvs g ds = true) (hn : okv g nd = true) : okv g (.tup (cut ds none (some a) ++ (nd :: cut ds (some (a + 1)) none))) = true := by
  have h1 : (cut ds none (some a)).length ≤ ds.length := cut_len
  have h2 : (cut ds (some (a + 1)) none).length ≤ ds.length := cut_len
  simp only [okv, Bool.and_eq_true, decide_eq_true_eq, List.length_append, List.length_cons]
  exact ⟨okvs_app (okvs_cut ho) (okvs_app (okvs_one hn) (okvs_cut ho)), by omega⟩
/-- a node is a tuple of at most three -/
theorem node_tup {c : Int} {d : D} (h : isNode c d = true) : ∃ w rest, d = .tup (w :: rest) ∧ rest.length ≤ 2 := by
  unfold isNode at h
  split at h
  · rename_i w rest
    refine ⟨_, _, rfl, ?_⟩
    split at h
    · split at h
      · simp
      · cases h
    · split at h
      · split at h
        · simp
        · cases h
      · split at h
        · split at h
          · simp
          · cases h
        · split at h
          · simp
          · cases h
  · cases h
theorem changed {ns : List Int} {l r k : Nat} {g : G} {ds : List D} (s : Strm ns l r g) (hg : isGraph (.tup ds) = true) (ho : okvs g ds = true) : ∃ d g', runF T (k + 3) 18 [.ref r, .tup ds] g = .ok d g' ∧ okv g' d = true ∧ Strm ns l r g' ∧ Keep r g g' := by
  simp only [isGraph, Bool.and_eq_true, decide_eq_true_eq] at hg
  obtain ⟨⟨hl1, hl⟩, hall⟩ := hg
  obtain ⟨a, g1, e1, a1, b1, s1, k1⟩ := draw (k := k + 1) (many := ds.length) s (by omega) (by omega)
  have ha : a.toNat < ds.length := by omega
  obtain ⟨nd, hnd⟩ : ∃ nd, ds[a.toNat]? = some nd := ⟨_, List.getElem?_eq_getElem ha⟩
  have hmem : nd ∈ ds := List.mem_of_getElem? hnd
  obtain ⟨w, rest, rfl, hrest⟩ := node_tup (List.all_eq_true.mp hall nd hmem)
  obtain ⟨pk, g2, e2, a2, b2, s2, k2⟩ := draw (k := k + 1) (many := 6) s1 (by decide) (by decide)
  have l2 : Lsts g g2 := s.lsts s2 (k1.trans k2)
  have ho2 := okvs_mono l2 ho
  have hn2 : okv g2 (.tup (w :: rest)) = true := okvs_all ho2 _ hmem
  have st1 : evS T (runF T (k + 2)) (ss0 fn18.body) [some (.ref r), some (.tup ds), none, none, none, none] g = .nx [some (.ref r), some (.tup ds), some (.int a), none, none, none] g1 := by
    simp [fn18, ss0, evSs, evS, ev, evs, evI, Py.R.bind, ofO, isinst, truth, Py.R.test, Py.R.lay, lay, Py.R.toO, Py.O.then, asg, items, listOf, index, setIx, built1, built2, lenOf, cmpop, binop, keyed, isin, tr, trX, trL, eqv, eqvs, btype, bmok, bmeth, boolsOf, atI, ixN, small, e1]
  have st2 : evS T (runF T (k + 2)) (ss0 (ss1 fn18.body)) [some (.ref r), some (.tup ds), some (.int a), none, none, none] g1 = .nx [some (.ref r), some (.tup ds), some (.int a), some (.tup (w :: rest)), none, none] g1 := by
    have hx : ds[a.toNat]'ha = .tup (w :: rest) := Option.some.inj ((List.getElem?_eq_getElem ha).symm.trans hnd)
    simp [fn18, ss0, ss1, evSs, evS, ev, evs, evI, Py.R.bind, ofO, isinst, truth, Py.R.test, Py.R.lay, lay, Py.R.toO, Py.O.then, asg, items, listOf, index, setIx, built1, built2, lenOf, cmpop, binop, keyed, isin, tr, trX, trL, eqv, eqvs, btype, bmok, bmeth, boolsOf, atI, ixN, small, a1, b1, hnd, hx]
  have st3 : evS T (runF T (k + 2)) (ss0 (ss1 (ss1 fn18.body))) [some (.ref r), some (.tup ds), some (.int a), some (.tup (w :: rest)), none, none] g1 = .nx [some (.ref r), some (.tup ds), some (.int a), some (.tup (w :: rest)), some (.int pk), none] g2 := by
    simp [fn18, ss0, ss1, evSs, evS, ev, evs, evI, Py.R.bind, ofO, isinst, truth, Py.R.test, Py.R.lay, lay, Py.R.toO, Py.O.then, asg, items, listOf, index, setIx, built1, built2, lenOf, cmpop, binop, keyed, isin, tr, trX, trL, eqv, eqvs, btype, bmok, bmeth, boolsOf, atI, ixN, small, e2]
  have pre : ∀ {res}, evSs T (runF T (k + 2)) (ss1 (ss1 (ss1 fn18.body))) [some (.ref r), some (.tup ds), some (.int a), some (.tup (w :: rest)), some (.int pk), none] g2 = res → evSs T (runF T (k + 2)) fn18.body [some (.ref r), some (.tup ds), none, none, none, none] g = res := fun h => (run_ss st1 rfl).trans ((run_ss st2 rfl).trans ((run_ss st3 rfl).trans h))
  -- what the fourth statement leaves
  suffices h4 : (∃ nd' q g4, evS T (runF T (k + 2)) (ss0 (ss1 (ss1 (ss1 fn18.body)))) [some (.ref r), some (.tup ds), some (.int a), some (.tup (w :: rest)), some (.int pk), none] g2 = .nx [some (.ref r), some (.tup ds), some (.int a), some nd', some (.int pk), q] g4 ∧ okv g4 nd' = true ∧ Strm ns l r g4 ∧ Keep r g2 g4) ∨
      ∃ d g4, evS T (runF T (k + 2)) (ss0 (ss1 (ss1 (ss1 fn18.body)))) [some (.ref r), some (.tup ds), some (.int a), some (.tup (w :: rest)), some (.int pk), none] g2 = .rt d g4 ∧ okv g4 d = true ∧ Strm ns l r g4 ∧ Keep r g2 g4 by
    rcases h4 with ⟨nd', q, g4, e4, o4, s4, k4⟩ | ⟨d, g4, e4, o4, s4, k4⟩
    · exact ⟨_, g4, runF_rt tf18 rfl (pre ((run_ss e4 rfl).trans (fin18 hl))), ok18 hl (okvs_mono (s2.lsts s4 k4) ho2) o4, s4, (k1.trans k2).trans k4⟩
    · exact ⟨d, g4, runF_rt tf18 rfl (pre (run_rt e4 rfl)), o4, s4, (k1.trans k2).trans k4⟩
  have hlen : (w :: rest).length ≤ 3 := by simp; omega
  have hok : okvs g2 (w :: rest) = true := by
    simp only [okv, Bool.and_eq_true] at hn2
    exact hn2.1
  by_cases p3 : pk < 3
  · obtain ⟨sp, g5, e5, a5, b5, s5, k5⟩ := draw (k := k + 1) (many := (rest.length : Int) + 1) s2 (by omega) (by omega)
    obtain ⟨d, g6, e6, o6, s6, k6⟩ := odd (k := k) (many := ds.length) s5
    have h1 : (cut (w :: rest) none (some sp)).length ≤ (w :: rest).length := cut_len
    have h2 : (cut (w :: rest) (some (sp + 1)) none).length ≤ (w :: rest).length := cut_len
    have h3 : (cut (w :: rest) none (some sp)).length + 1 ≤ line := by unfold line; omega
    have h4 : (cut (w :: rest) none (some sp)).length + 1 + (cut (w :: rest) (some (sp + 1)) none).length ≤ line := by unfold line; omega
    have hok6 := okvs_mono (s2.lsts s6 (k5.trans k6)) hok
    refine .inl ⟨.tup (cut (w :: rest) none (some sp) ++ (d :: cut (w :: rest) (some (sp + 1)) none)), some (.int sp), g6, ?_, ?_, s6, k5.trans k6⟩
    · simp [fn18, ss0, ss1, evSs, evS, ev, evs, evI, Py.R.bind, ofO, isinst, truth, Py.R.test, Py.R.lay, lay, Py.R.toO, Py.O.then, asg, items, listOf, index, setIx, built1, built2, lenOf, cmpop, binop, keyed, isin, tr, trX, trL, eqv, eqvs, btype, bmok, bmeth, boolsOf, atI, ixN, small, p3, e5, e6, slice, h3, h4, show 1 ≤ line from by decide]
    · simp only [okv, Bool.and_eq_true, decide_eq_true_eq, List.length_append, List.length_cons]
      exact ⟨okvs_app (okvs_cut hok6) (okvs_app (okvs_one o6) (okvs_cut hok6)), by omega⟩
  · by_cases p4 : pk = 3
    · subst p4
      obtain ⟨v, g5, e5, a5, b5, s5, k5⟩ := draw (k := k + 1) (many := 6) (s2.push [.lst (w :: rest)]) (by decide) (by decide)
      have hp : g5[g2.length]? = some (.lst (w :: rest)) := k5 _ _ (by have := s2.lt; omega) (by simp)
      have hok5 := okvs_mono (s2.lsts s5 (Keep.push.trans k5)) hok
      have h1 : (cut (w :: rest) none (some (-1))).length ≤ (w :: rest).length := cut_len
      have h2 : rest.length ≤ 16777214 := by omega
      have hv : v = 0 ∨ v = 1 ∨ v = 2 ∨ v = 3 ∨ v = 4 ∨ v = 5 := by omega
      have kk := (Keep.push (os := [.lst (w :: rest)])).trans k5
      rcases hv with rfl | rfl | rfl | rfl | rfl | rfl
      · refine .inl ⟨.tup (cut (w :: rest) none (some (-1))), none, g5, by simp [fn18, ss0, ss1, evSs, evS, ev, evs, evI, Py.R.bind, ofO, isinst, truth, Py.R.test, Py.R.lay, lay, Py.R.toO, Py.O.then, asg, items, listOf, index, setIx, built1, built2, lenOf, cmpop, binop, keyed, isin, tr, trX, trL, eqv, eqvs, btype, bmok, bmeth, boolsOf, atI, ixN, small, e5, slice, h2, line], ?_, s5, kk⟩
        simp only [okv, Bool.and_eq_true, decide_eq_true_eq]
        exact ⟨okvs_cut hok5, by omega⟩
      · refine .inl ⟨.tup (w :: (rest ++ [.int 0])), none, g5, by simp [fn18, ss0, ss1, evSs, evS, ev, evs, evI, Py.R.bind, ofO, isinst, truth, Py.R.test, Py.R.lay, lay, Py.R.toO, Py.O.then, asg, items, listOf, index, setIx, built1, built2, lenOf, cmpop, binop, keyed, isin, tr, trX, trL, eqv, eqvs, btype, bmok, bmeth, boolsOf, atI, ixN, small, e5, slice, h2, line], ?_, s5, kk⟩
        simp only [okv, Bool.and_eq_true, decide_eq_true_eq, List.length_cons, List.length_append, List.length_nil]
        exact ⟨okvs_app (xs := w :: rest) hok5 (by simp [okvs, okv]), by simp at hlen; omega⟩
      · refine .inl ⟨.ref g2.length, none, g5, by simp [fn18, ss0, ss1, evSs, evS, ev, evs, evI, Py.R.bind, ofO, isinst, truth, Py.R.test, Py.R.lay, lay, Py.R.toO, Py.O.then, asg, items, listOf, index, setIx, built1, built2, lenOf, cmpop, binop, keyed, isin, tr, trX, trL, eqv, eqvs, btype, bmok, bmeth, boolsOf, atI, ixN, small, e5, slice, h2, line], by simp [okv, hp], s5, kk⟩
      · refine .inl ⟨.tup [], none, g5, by simp [fn18, ss0, ss1, evSs, evS, ev, evs, evI, Py.R.bind, ofO, isinst, truth, Py.R.test, Py.R.lay, lay, Py.R.toO, Py.O.then, asg, items, listOf, index, setIx, built1, built2, lenOf, cmpop, binop, keyed, isin, tr, trX, trL, eqv, eqvs, btype, bmok, bmeth, boolsOf, atI, ixN, small, e5, slice, h2, line], by simp [okv, okvs], s5, kk⟩
      · refine .inl ⟨.non, none, g5, by simp [fn18, ss0, ss1, evSs, evS, ev, evs, evI, Py.R.bind, ofO, isinst, truth, Py.R.test, Py.R.lay, lay, Py.R.toO, Py.O.then, asg, items, listOf, index, setIx, built1, built2, lenOf, cmpop, binop, keyed, isin, tr, trX, trL, eqv, eqvs, btype, bmok, bmeth, boolsOf, atI, ixN, small, e5, slice, h2, line], rfl, s5, kk⟩
      · refine .inl ⟨w, none, g5, by simp [fn18, ss0, ss1, evSs, evS, ev, evs, evI, Py.R.bind, ofO, isinst, truth, Py.R.test, Py.R.lay, lay, Py.R.toO, Py.O.then, asg, items, listOf, index, setIx, built1, built2, lenOf, cmpop, binop, keyed, isin, tr, trX, trL, eqv, eqvs, btype, bmok, bmeth, boolsOf, atI, ixN, small, e5, slice, h2, line], okvs_all hok5 w (by simp), s5, kk⟩
    · by_cases p5 : pk = 4
      · subst p5
        obtain ⟨v, g5, e5, a5, b5, s5, k5⟩ := draw (k := k + 1) (many := 7) (s2.push [.lst ds]) (by decide) (by decide)
        have hp : g5[g2.length]? = some (.lst ds) := k5 _ _ (by have := s2.lt; omega) (by simp)
        have hx : ds[a.toNat]'ha = .tup (w :: rest) := Option.some.inj ((List.getElem?_eq_getElem ha).symm.trans hnd)
        have kk := (Keep.push (os := [.lst ds])).trans k5
        have hn5 := okv_mono (s2.lsts s5 kk) hn2
        have hv : v = 0 ∨ v = 1 ∨ v = 2 ∨ v = 3 ∨ v = 4 ∨ v = 5 ∨ v = 6 := by omega
        rcases hv with rfl | rfl | rfl | rfl | rfl | rfl | rfl
        · exact .inr ⟨.ref g2.length, g5, by simp [fn18, ss0, ss1, evSs, evS, ev, evs, evI, Py.R.bind, ofO, isinst, truth, Py.R.test, Py.R.lay, lay, Py.R.toO, Py.O.then, asg, items, listOf, index, setIx, built1, built2, lenOf, cmpop, binop, keyed, isin, tr, trX, trL, eqv, eqvs, btype, bmok, bmeth, boolsOf, atI, ixN, small, e5, a1, b1, hx, line], by simp [okv, hp], s5, kk⟩
        · exact .inr ⟨.tup [], g5, by simp [fn18, ss0, ss1, evSs, evS, ev, evs, evI, Py.R.bind, ofO, isinst, truth, Py.R.test, Py.R.lay, lay, Py.R.toO, Py.O.then, asg, items, listOf, index, setIx, built1, built2, lenOf, cmpop, binop, keyed, isin, tr, trX, trL, eqv, eqvs, btype, bmok, bmeth, boolsOf, atI, ixN, small, e5, a1, b1, hx, line], by simp [okv, okvs], s5, kk⟩
        · exact .inr ⟨.non, g5, by simp [fn18, ss0, ss1, evSs, evS, ev, evs, evI, Py.R.bind, ofO, isinst, truth, Py.R.test, Py.R.lay, lay, Py.R.toO, Py.O.then, asg, items, listOf, index, setIx, built1, built2, lenOf, cmpop, binop, keyed, isin, tr, trX, trL, eqv, eqvs, btype, bmok, bmeth, boolsOf, atI, ixN, small, e5, a1, b1, hx, line], rfl, s5, kk⟩
        · exact .inr ⟨.str ['a'], g5, by simp [fn18, ss0, ss1, evSs, evS, ev, evs, evI, Py.R.bind, ofO, isinst, truth, Py.R.test, Py.R.lay, lay, Py.R.toO, Py.O.then, asg, items, listOf, index, setIx, built1, built2, lenOf, cmpop, binop, keyed, isin, tr, trX, trL, eqv, eqvs, btype, bmok, bmeth, boolsOf, atI, ixN, small, e5, a1, b1, hx, line], by simp [okv], s5, kk⟩
        · exact .inr ⟨.tup (w :: rest), g5, by simp [fn18, ss0, ss1, evSs, evS, ev, evs, evI, Py.R.bind, ofO, isinst, truth, Py.R.test, Py.R.lay, lay, Py.R.toO, Py.O.then, asg, items, listOf, index, setIx, built1, built2, lenOf, cmpop, binop, keyed, isin, tr, trX, trL, eqv, eqvs, btype, bmok, bmeth, boolsOf, atI, ixN, small, e5, a1, b1, hx, line], hn5, s5, kk⟩
        · exact .inr ⟨.int 0, g5, by simp [fn18, ss0, ss1, evSs, evS, ev, evs, evI, Py.R.bind, ofO, isinst, truth, Py.R.test, Py.R.lay, lay, Py.R.toO, Py.O.then, asg, items, listOf, index, setIx, built1, built2, lenOf, cmpop, binop, keyed, isin, tr, trX, trL, eqv, eqvs, btype, bmok, bmeth, boolsOf, atI, ixN, small, e5, a1, b1, hx, line], rfl, s5, kk⟩
        · exact .inr ⟨.bl true, g5, by simp [fn18, ss0, ss1, evSs, evS, ev, evs, evI, Py.R.bind, ofO, isinst, truth, Py.R.test, Py.R.lay, lay, Py.R.toO, Py.O.then, asg, items, listOf, index, setIx, built1, built2, lenOf, cmpop, binop, keyed, isin, tr, trX, trL, eqv, eqvs, btype, bmok, bmeth, boolsOf, atI, ixN, small, e5, a1, b1, hx, line], rfl, s5, kk⟩
      · obtain ⟨v, g5, e5, a5, b5, s5, k5⟩ := draw (k := k + 1) (many := 5) s2 (by decide) (by decide)
        have hok5 := okvs_mono (s2.lsts s5 k5) hok
        have h1 : (cut (w :: rest) (some 1) none).length ≤ (w :: rest).length := cut_len
        have h2 : 1 + (cut (w :: rest) (some 1) none).length ≤ line := by unfold line; omega
        obtain ⟨q, hq, oq⟩ : ∃ q : D, ([.str ['T', 'u', 'p', 'l', 'e'], .str [], .str ['i', 'n', 't', 's'], .int 0, .non] : List D)[v.toNat]? = some q ∧ okv g5 q = true := by
          have hv : v = 0 ∨ v = 1 ∨ v = 2 ∨ v = 3 ∨ v = 4 := by omega
          rcases hv with rfl | rfl | rfl | rfl | rfl
          · exact ⟨_, rfl, by simp [okv]⟩
          · exact ⟨_, rfl, by simp [okv]⟩
          · exact ⟨_, rfl, by simp [okv]⟩
          · exact ⟨_, rfl, rfl⟩
          · exact ⟨_, rfl, rfl⟩
        refine .inl ⟨.tup (q :: cut (w :: rest) (some 1) none), none, g5, ?_, ?_, s5, k5⟩
        · have hv : v = 0 ∨ v = 1 ∨ v = 2 ∨ v = 3 ∨ v = 4 := by omega
          have h2' : 1 + (cut (w :: rest) (some 1) none).length ≤ 16777216 := h2
          rcases hv with rfl | rfl | rfl | rfl | rfl <;> simp at hq <;> subst hq <;> simp [fn18, ss0, ss1, evSs, evS, ev, evs, evI, Py.R.bind, ofO, isinst, truth, Py.R.test, Py.R.lay, lay, Py.R.toO, Py.O.then, asg, items, listOf, index, setIx, built1, built2, lenOf, cmpop, binop, keyed, isin, tr, trX, trL, eqv, eqvs, btype, bmok, bmeth, boolsOf, atI, ixN, small, p3, p4, p5, e5, slice, h2', line]
        · simp only [okv, Bool.and_eq_true, decide_eq_true_eq, List.length_cons]
          exact ⟨okvs_app (xs := [q]) (okvs_one oq) (okvs_cut hok5), by omega⟩
end K01
set_option linter.all false
set_option maxRecDepth 100000
set_option maxHeartbeats 1000000
namespace K01
open Py
theorem r_due {k : Nat} {g : G} {d : D} (h : okv g d = true) : runF T (k + 3) 16 [d] g = .ok (.bl (isGraph d)) g := by
  obtain ⟨kd, h1, _, _, _, h2⟩ := kd_ok h
  refine runF_rt tf16 rfl ?_
  cases d with
  | tup ds =>
    simp only [okv, Bool.and_eq_true, decide_eq_true_eq] at h
    obtain ⟨hs, hl⟩ := h
    by_cases l1 : 1 ≤ ds.length
    · have l3 : (1 : Int) ≤ ds.length := by omega
      by_cases l2 : ds.length ≤ 400
      · have l4 : (ds.length : Int) ≤ 400 := by omega
        have lp : ev T (runF T (k + 2)) fn16_c0 [some (.tup ds), none] g = .ok (.tmp (ds.map fun d => .bl (isNode ds.length d))) g := by
          refine ev_comp (it := .vals ds) (g1 := g) (by simp [evSs, evS, ev, evs, evI, Py.R.bind, ofO, isinst, truth, Py.R.test, Py.R.lay, lay, Py.R.toO, Py.O.then, asg, items, listOf, index, setIx, built1, built2, lenOf, cmpop, binop, keyed, isin, tr, trX, trL, eqv, eqvs, btype, bmok, bmeth, boolsOf, atI, ixN, small]) (loopC_map _ (by unfold line; omega) (fun L => by simp [evSs, evS, ev, evs, evI, Py.R.bind, ofO, isinst, truth, Py.R.test, Py.R.lay, lay, Py.R.toO, Py.O.then, asg, items, listOf, index, setIx, built1, built2, lenOf, cmpop, binop, keyed, isin, tr, trX, trL, eqv, eqvs, btype, bmok, bmeth, boolsOf, atI, ixN, small]) fun x hx => ?_)
          simp [evSs, evS, ev, evs, evI, Py.R.bind, ofO, isinst, truth, Py.R.test, Py.R.lay, lay, Py.R.toO, Py.O.then, asg, items, listOf, index, setIx, built1, built2, lenOf, cmpop, binop, keyed, isin, tr, trX, trL, eqv, eqvs, btype, bmok, bmeth, boolsOf, atI, ixN, small, r_nodeL (okvs_all hs x hx)]
        have bo := boolsOf_mapD (isNode ds.length) ds
        simp [fn16, evSs, evS, ev, evs, evI, Py.R.bind, ofO, isinst, truth, Py.R.test, Py.R.lay, lay, Py.R.toO, Py.O.then, asg, items, listOf, index, setIx, built1, built2, lenOf, cmpop, binop, keyed, isin, tr, trX, trL, eqv, eqvs, btype, bmok, bmeth, boolsOf, atI, ixN, small, kdOf, Kd.isa, isGraph, l1, l2, l3, l4, lp, bo]
      · have l4 : ¬ (ds.length : Int) ≤ 400 := by omega
        simp [fn16, evSs, evS, ev, evs, evI, Py.R.bind, ofO, isinst, truth, Py.R.test, Py.R.lay, lay, Py.R.toO, Py.O.then, asg, items, listOf, index, setIx, built1, built2, lenOf, cmpop, binop, keyed, isin, tr, trX, trL, eqv, eqvs, btype, bmok, bmeth, boolsOf, atI, ixN, small, kdOf, Kd.isa, isGraph, l1, l2, l3, l4]
    · have l3 : ¬ (1 : Int) ≤ ds.length := by omega
      simp [fn16, evSs, evS, ev, evs, evI, Py.R.bind, ofO, isinst, truth, Py.R.test, Py.R.lay, lay, Py.R.toO, Py.O.then, asg, items, listOf, index, setIx, built1, built2, lenOf, cmpop, binop, keyed, isin, tr, trX, trL, eqv, eqvs, btype, bmok, bmeth, boolsOf, atI, ixN, small, kdOf, Kd.isa, isGraph, l1, l3]
  | _ => simp [fn16, evSs, evS, ev, evs, evI, Py.R.bind, ofO, isinst, truth, Py.R.test, Py.R.lay, lay, Py.R.toO, Py.O.then, asg, items, listOf, index, setIx, built1, built2, lenOf, cmpop, binop, keyed, isin, tr, trX, trL, eqv, eqvs, btype, bmok, bmeth, boolsOf, atI, ixN, small, h1, h2, isGraph]
theorem flat_rep (x : D) : ∀ n : Nat, (List.replicate n [x]).flatten = List.replicate n x
  | 0 => rfl
  | n + 1 => by rw [List.replicate_succ, List.replicate_succ, List.flatten_cons, flat_rep x n]; rfl
def ndA : D := .tup [.str vAtom, .str ['a']]
theorem all_rep (p : D → Bool) (x : D) (h : p x = true) : ∀ n : Nat, (List.replicate n x).all p = true
  | 0 => rfl
  | n + 1 => by rw [List.replicate_succ, List.all_cons, h, all_rep p x h n]; rfl
theorem big_graph {n : Nat} (h : 1 ≤ n) : isGraph (.tup (List.replicate n ndA)) = decide (n ≤ 400) := by
  simp only [isGraph, List.length_replicate, h, decide_true, Bool.true_and]
  rw [all_rep _ _ (by simp [isNode, ndA, ne2, ne3]; decide), Bool.and_true]
theorem big_ok {g : G} {n : Nat} (h : n ≤ 100000) : okv g (.tup (List.replicate n ndA)) = true := by
  simp only [okv, Bool.and_eq_true, decide_eq_true_eq, List.length_replicate]
  refine ⟨okvs_of fun d hd => ?_, h⟩
  rw [(List.mem_replicate.mp hd).2]
  simp [ndA, okv, okvs]
  decide
theorem ok0 {g : G} {d : D} (h : okv [] d = true) : okv g d = true := okv_mono (fun n xs h => by simp at h) h
theorem step19 {ns : List Int} {g : G} {script : D} {d : D} {i : Nat} {k : Nat} (s : Strm ns 0 1 g) (ho : okv g d = true) :
    ∃ d' g', evSs T (runF T (k + 4)) fn19_b0 [some script, some (.ref 1), some d, some (.int i), none, none] g = .nx [some script, some (.ref 1), some d', some (.int i), none, none] g' ∧ okv g' d' = true ∧ Strm ns 0 1 g' := by
  have e0 := r_due (k := k + 1) ho
  by_cases hi : i < 2
  · by_cases hg : isGraph d = true
    · cases d with
      | tup ds =>
        have hd : okvs g ds = true := by
          simp only [okv, Bool.and_eq_true] at ho
          exact ho.1
        obtain ⟨d', g', e1, o1, s1, k1⟩ := changed (k := k + 1) s hg hd
        refine ⟨d', g', ?_, o1, s1⟩
        have hi' : (i : Int) < 2 := by omega
        generalize (i : Int) = z at hi'
        simp [fn19_b0, evSs, evS, ev, evs, evI, Py.R.bind, ofO, isinst, truth, Py.R.test, Py.R.lay, lay, Py.R.toO, Py.O.then, asg, items, listOf, index, setIx, built1, built2, lenOf, cmpop, binop, keyed, isin, tr, trX, trL, eqv, eqvs, btype, bmok, bmeth, boolsOf, atI, ixN, small, hi', e0, hg, e1]
      | _ => cases hg
    · refine ⟨d, g, ?_, ho, s⟩
      have hi' : (i : Int) < 2 := by omega
      generalize (i : Int) = z at hi'
      simp [fn19_b0, evSs, evS, ev, evs, evI, Py.R.bind, ofO, isinst, truth, Py.R.test, Py.R.lay, lay, Py.R.toO, Py.O.then, asg, items, listOf, index, setIx, built1, built2, lenOf, cmpop, binop, keyed, isin, tr, trX, trL, eqv, eqvs, btype, bmok, bmeth, boolsOf, atI, ixN, small, hi', e0, hg]
  · refine ⟨d, g, ?_, ho, s⟩
    have hi' : ¬ (i : Int) < 2 := by omega
    generalize (i : Int) = z at hi'
    simp [fn19_b0, evSs, evS, ev, evs, evI, Py.R.bind, ofO, isinst, truth, Py.R.test, Py.R.lay, lay, Py.R.toO, Py.O.then, asg, items, listOf, index, setIx, built1, built2, lenOf, cmpop, binop, keyed, isin, tr, trX, trL, eqv, eqvs, btype, bmok, bmeth, boolsOf, atI, ixN, small, hi']
end K01
set_option linter.all false
set_option maxRecDepth 100000
set_option maxHeartbeats 1000000
namespace K01
open Py
theorem law_plain : ∀ ns : List Int, ns.length ≤ 63 → ∃ g, runF T 20 19 [.ls (ns.map D.int)] [] = .ok (.bl true) g := by
  intro ns hn
  obtain ⟨g0, e0, s0⟩ := stream (ns := ns) (k := 18) hn
  obtain ⟨d1, g1, e1, ⟨hg1, ho1⟩, s1, k1⟩ := graph (k := 15) s0
  have o1 : okv g1 d1 = true := ok0 ho1
  have e2 := r_graph (k := 15) o1
  rw [hg1] at e2
  have e3 : runF T 19 8 [.bl true] g1 = .ok (.bl true) g1 := r_back (k := 17)
  generalize hS : D.ls (ns.map D.int) = S at e0 ⊢
  have st0 : evS T (runF T 19) (ss0 fn19.body) [some S, none, none, none, none, none] [] = .nx [some S, some (.ref 1), none, none, none, none] g0 := by simp [fn19, ss0, evSs, evS, ev, evs, evI, Py.R.bind, ofO, isinst, truth, Py.R.test, Py.R.lay, lay, Py.R.toO, Py.O.then, asg, items, listOf, index, setIx, built1, built2, lenOf, cmpop, binop, keyed, isin, tr, trX, trL, eqv, eqvs, btype, bmok, bmeth, boolsOf, atI, ixN, small, e0]
  have st1 : evS T (runF T 19) (ss0 (ss1 fn19.body)) [some S, some (.ref 1), none, none, none, none] g0 = .nx [some S, some (.ref 1), some d1, none, none, none] g1 := by simp [fn19, ss0, ss1, evSs, evS, ev, evs, evI, Py.R.bind, ofO, isinst, truth, Py.R.test, Py.R.lay, lay, Py.R.toO, Py.O.then, asg, items, listOf, index, setIx, built1, built2, lenOf, cmpop, binop, keyed, isin, tr, trX, trL, eqv, eqvs, btype, bmok, bmeth, boolsOf, atI, ixN, small, e1]
  have st2 : evS T (runF T 19) (ss0 (ss1 (ss1 fn19.body))) [some S, some (.ref 1), some d1, none, none, none] g1 = .nx [some S, some (.ref 1), some d1, none, none, none] g1 := by simp [fn19, ss0, ss1, evSs, evS, ev, evs, evI, Py.R.bind, ofO, isinst, truth, Py.R.test, Py.R.lay, lay, Py.R.toO, Py.O.then, asg, items, listOf, index, setIx, built1, built2, lenOf, cmpop, binop, keyed, isin, tr, trX, trL, eqv, eqvs, btype, bmok, bmeth, boolsOf, atI, ixN, small, e2, e3, tg0]
  -- the loop
  obtain ⟨v, g2, e4, a4, b4, s2, k2⟩ := draw (k := 18) (many := 4) s1 (by decide) (by decide)
  have o2 : okv g2 d1 = true := ok0 ho1
  obtain ⟨L3, g3, e5, d3, x3, rfl, o3, s3⟩ : ∃ L3 g3, loopF (.rng 0 v.toNat) (.nm 3) (fun L g => evSs T (runF T 19) fn19_b0 L g) fuel 0 [some S, some (.ref 1), some d1, none, none, none] g2 = .nx L3 g3 ∧ ∃ d3 x3, L3 = [some S, some (.ref 1), some d3, x3, none, none] ∧ okv g3 d3 = true ∧ Strm ns 0 1 g3 := by
    refine loopF_ind (n := v.toNat) (fun i L g => ∃ d x, L = [some S, some (.ref 1), some d, x, none, none] ∧ okv g d = true ∧ Strm ns 0 1 g) (fun i L g hi p => ?_) (fun L g p => by simp [turn]) fuel 0 _ _ (Nat.zero_le _) (by unfold fuel; omega) ⟨d1, none, rfl, o2, s2⟩
    obtain ⟨d, x, rfl, ho, sg⟩ := p
    obtain ⟨d', g', e, o', s'⟩ := step19 (k := 15) (script := S) (i := i) sg ho
    exact ⟨.int i, [some S, some (.ref 1), some d, some (.int i), none, none], by simp [turn, hi], rfl, _, g', .inl e, d', some (.int i), rfl, o', s'⟩
  have st3 : evS T (runF T 19) (ss0 (ss1 (ss1 (ss1 fn19.body)))) [some S, some (.ref 1), some d1, none, none, none] g1 = .nx [some S, some (.ref 1), some d3, x3, none, none] g3 := by
    show evS T (runF T 19) fn19_l1 _ _ = _
    exact ev_for (it := .rng 0 v.toNat) (g1 := g2) (by simp [evSs, evS, ev, evs, evI, Py.R.bind, ofO, isinst, truth, Py.R.test, Py.R.lay, lay, Py.R.toO, Py.O.then, asg, items, listOf, index, setIx, built1, built2, lenOf, cmpop, binop, keyed, isin, tr, trX, trL, eqv, eqvs, btype, bmok, bmeth, boolsOf, atI, ixN, small, e4]; omega) e5
  have e6 := r_graph (k := 15) o3
  have e7 : runF T 19 8 [.bl (isGraph d3)] g3 = .ok (.bl (isGraph d3)) g3 := r_back (k := 17)
  have st4 : evS T (runF T 19) (ss0 (ss1 (ss1 (ss1 (ss1 fn19.body))))) [some S, some (.ref 1), some d3, x3, none, none] g3 = .nx [some S, some (.ref 1), some d3, x3, some (.bl (isGraph d3)), none] g3 := by simp [fn19, ss0, ss1, evSs, evS, ev, evs, evI, Py.R.bind, ofO, isinst, truth, Py.R.test, Py.R.lay, lay, Py.R.toO, Py.O.then, asg, items, listOf, index, setIx, built1, built2, lenOf, cmpop, binop, keyed, isin, tr, trX, trL, eqv, eqvs, btype, bmok, bmeth, boolsOf, atI, ixN, small, e6, e7]
  have e8 := r_due (k := 16) o3
  have st5 : evS T (runF T 19) (ss0 (ss1 (ss1 (ss1 (ss1 (ss1 fn19.body)))))) [some S, some (.ref 1), some d3, x3, some (.bl (isGraph d3)), none] g3 = .nx [some S, some (.ref 1), some d3, x3, some (.bl (isGraph d3)), none] g3 := by simp [fn19, ss0, ss1, evSs, evS, ev, evs, evI, Py.R.bind, ofO, isinst, truth, Py.R.test, Py.R.lay, lay, Py.R.toO, Py.O.then, asg, items, listOf, index, setIx, built1, built2, lenOf, cmpop, binop, keyed, isin, tr, trX, trL, eqv, eqvs, btype, bmok, bmeth, boolsOf, atI, ixN, small, kdOf, Kd.isa, e8]
  obtain ⟨u, g4, e9, a9, b9, s4, k4⟩ := draw (k := 18) (many := 4) s3 (by decide) (by decide)
  obtain ⟨m, hm⟩ : ∃ m : Int, 399 + u = m := ⟨_, rfl⟩
  have st6 : evS T (runF T 19) (ss0 (ss1 (ss1 (ss1 (ss1 (ss1 (ss1 fn19.body))))))) [some S, some (.ref 1), some d3, x3, some (.bl (isGraph d3)), none] g3 = .nx [some S, some (.ref 1), some d3, x3, some (.bl (isGraph d3)), some (.int m)] g4 := by simp [fn19, ss0, ss1, evSs, evS, ev, evs, evI, Py.R.bind, ofO, isinst, truth, Py.R.test, Py.R.lay, lay, Py.R.toO, Py.O.then, asg, items, listOf, index, setIx, built1, built2, lenOf, cmpop, binop, keyed, isin, tr, trX, trL, eqv, eqvs, btype, bmok, bmeth, boolsOf, atI, ixN, small, e9, hm]
  have m1 : 399 ≤ m := by omega
  have m2 : m ≤ 402 := by omega
  have e10 := r_graph (k := 15) (g := g4) (big_ok (n := m.toNat) (by omega))
  rw [big_graph (by omega)] at e10
  have e11 : runF T 19 8 [.bl (decide (m.toNat ≤ 400))] g4 = .ok (.bl (decide (m.toNat ≤ 400))) g4 := r_back (k := 17)
  have e12 : decide (m.toNat ≤ 400) = decide (m ≤ 400) := by
    rw [Bool.eq_iff_iff]
    simp only [decide_eq_true_eq]
    omega
  refine ⟨g4, runF_rt tf19 rfl ((run_ss st0 rfl).trans ((run_ss st1 rfl).trans ((run_ss st2 rfl).trans ((run_ss st3 rfl).trans ((run_ss st4 rfl).trans ((run_ss st5 rfl).trans ((run_ss st6 rfl).trans ?_)))))))⟩
  have f1 : (List.replicate m.toNat [D.tup [.str vAtom, .str ['a']]]).flatten = List.replicate m.toNat ndA := flat_rep _ _
  have f2 : (2 : Int) ≤ m := by omega
  have f3 : m ≤ 1000 := by omega
  rw [e12] at e10 e11
  simp [fn19, ss1, evSs, evS, ev, evs, evI, Py.R.bind, ofO, isinst, truth, Py.R.test, Py.R.lay, lay, Py.R.toO, Py.O.then, asg, items, listOf, index, setIx, built1, built2, lenOf, cmpop, binop, keyed, isin, tr, trX, trL, eqv, eqvs, btype, bmok, bmeth, boolsOf, atI, ixN, small, ev_atom, f1, f2, f3, e10, e11, show 1 ≤ line from by decide, show 2 ≤ line from by decide]
end K01
set_option Elab.async false
set_option linter.all false
set_option maxRecDepth 100000
/-! Snd1: what a value, a heap of Ev0 says of HandS's values and heaps. -/
namespace Sd
open PySem PySem.Spec PyProof.Rows L2 Py

def toS (x : Tx) : Str := ⟨(x.map Char.toNat).toArray⟩
theorem toS_len (x : Tx) : (toS x).length = x.length := by simp [toS, Str.length]
theorem toS_inj {x y : Tx} (h : toS x = toS y) : x = y := by
  have h1 : x.map Char.toNat = y.map Char.toNat := by
    have := congrArg (fun s : Str => s.cps.toList) h
    simpa [toS] using this
  have inj : ∀ a b : Char, a.toNat = b.toNat → a = b := fun a b e => by
    apply Char.ext
    exact UInt32.toNat_inj.mp e
  clear h
  induction x generalizing y with
  | nil => cases y with
    | nil => rfl
    | cons _ _ => simp at h1
  | cons a x ih => cases y with
    | nil => simp at h1
    | cons b y =>
      simp only [List.map_cons, List.cons.injEq] at h1
      rw [inj a b h1.1, ih h1.2]
theorem toS_eq {x y : Tx} : toS x = toS y ↔ x = y := ⟨toS_inj, fun h => by rw [h]⟩
theorem toS_append (x y : Tx) : toS x ++ toS y = toS (x ++ y) := by
  show Str.append _ _ = _
  unfold Str.append toS
  simp

/-- a list that never changes -/
def FzL (K : PySem.W.Frag) (H : Hp) (a : Addr) (xs : List V) : Prop :=
  (∃ o, H a = some (.frz o (.lst xs))) ∨
    ∃ (o : Obj) (its : Array Value) (n : Nat), K.lookup a = some o ∧ o.cls = .type "list" ∧ o.dict = none ∧ o.data = .seq its n ∧ its.size ≤ sizeLine ∧ Vals xs its.toList
theorem FzL.sq {K : PySem.W.Frag} {H : Hp} {a : Addr} {xs : List V} (h : FzL K H a xs) : SqL K H a xs := by
  rcases h with ⟨o, h⟩ | h
  · exact .inl (.inr ⟨o, h⟩)
  · exact .inr h

section
variable (K : PySem.W.Frag) (ρ : List Addr) (H : Hp)
mutual
def RV : D → V → Prop
  | .non, v => v = .non
  | .bl b, v => v = .bl b
  | .int i, v => v = .int i
  | .str x, v => v = .str (toS x)
  | .tup ds, v => ∃ a xs, v = .ref a ∧ H a = some (.tup xs) ∧ RVs ds xs
  | .kt ds, v => ∃ a xs, v = .ref a ∧ SqT K H a xs ∧ RVs ds xs
  | .ls ds, v => ∃ a xs, v = .ref a ∧ FzL K H a xs ∧ RVs ds xs
  | .ref n, v => ∃ a, v = .ref a ∧ ρ[n]? = some a
def RVs : List D → List V → Prop
  | [], vs => vs = []
  | d :: ds, vs => ∃ v vr, vs = v :: vr ∧ RV d v ∧ RVs ds vr
end
end

/-- what the names of the text are -/
structure Nm where
  fns : List (Option Str)
  cls : List Str
  gls : List Str
  ats : List Str

/-- where things of the top stand -/
structure Pl where
  nm : Nm
  ca : Nat → Addr
  ini : Nat → Option Nat

def kyT : KY → Key
  | .i n => .inl n
  | .s x => .inr (toS x)

/-- attributes by number, by name -/
def RF (nm : Nm) (K : PySem.W.Frag) (ρ : List Addr) (H : Hp) (fs : List (Nat × D)) (fv : List (Str × V)) : Prop :=
  fv.length ≤ fs.length ∧ (∀ x v, fv.lookup x = some v → ∃ i : Nat, nm.ats[i]? = some x) ∧
  ∀ (i : Nat) x, nm.ats[i]? = some x → (match fs.lookup i with | some d => ∃ v, fv.lookup x = some v ∧ RV K ρ H d v | none => fv.lookup x = none)

def RO (pl : Pl) (K : PySem.W.Frag) (ρ : List Addr) (H : Hp) (a : Addr) : Ob → Prop
  | .lst ds => ∃ xs, H a = some (.lst xs) ∧ RVs K ρ H ds xs
  | .dk kvs => ∃ vs, H a = some (.dK vs) ∧ vs.map (·.1) = kvs.map (fun p => kyT p.1) ∧ RVs K ρ H (kvs.map (·.2)) (vs.map (·.2))
  | .dt kvs => ∃ vs, H a = some (.dT vs) ∧ vs.map (·.1) = kvs.map (fun p => p.1.map kyT) ∧ RVs K ρ H (kvs.map (·.2)) (vs.map (·.2))
  | .ins C fs => (∃ f, pl.ini C = some f) ∧ ∃ dx fv, H a = some (.ins (pl.ca C) dx fv) ∧ RF pl.nm K ρ H fs fv

structure RG (pl : Pl) (K : PySem.W.Frag) (ρ : List Addr) (H : Hp) (g : G) : Prop where
  len : ρ.length = g.length
  nd : ρ.Nodup
  obj : ∀ (n : Nat) (o : Ob) (a : Addr), g[n]? = some o → ρ[n]? = some a → RO pl K ρ H a o

structure Ext (ρ ρ' : List Addr) (H H' : Hp) : Prop where
  pre : ∃ s, ρ' = ρ ++ s
  new : ∀ p ∈ ρ', p ∉ ρ → H p = none
  keep : ∀ b o, H b = some o → b ∉ ρ → H' b = some o
  tups : ∀ b xs, H b = some (.tup xs) → H' b = some (.tup xs)
  frzs : ∀ b o u, H b = some (.frz o u) → H' b = some (.frz o u)

section
variable {pl : Pl} {K : PySem.W.Frag} {ρ ρ' ρ'' : List Addr} {H H' H'' : Hp} {g : G} {a : Addr} {v : V} {d : D}
theorem Ext.refl : Ext ρ ρ H H := ⟨⟨[], by simp⟩, fun p h n => absurd h n, fun _ _ h _ => h, fun _ _ h => h, fun _ _ _ h => h⟩
theorem Ext.trans (x : Ext ρ ρ' H H') (y : Ext ρ' ρ'' H' H'') : Ext ρ ρ'' H H'' := by
  obtain ⟨s, e⟩ := x.pre
  obtain ⟨s', e'⟩ := y.pre
  have hk : ∀ b o, H b = some o → b ∉ ρ → b ∉ ρ' := fun b o h n m => by
    have := x.new b m n
    rw [h] at this; cases this
  refine ⟨⟨s ++ s', by rw [e', e, List.append_assoc]⟩, fun p hp n => ?_, fun b o h n => y.keep b o (x.keep b o h n) (hk b o h n), fun b xs h => y.tups b xs (x.tups b xs h), fun b o u h => y.frzs b o u (x.frzs b o u h)⟩
  by_cases m : p ∈ ρ'
  · exact x.new p m n
  · have h1 := y.new p hp m
    cases q : H p with
    | none => rfl
    | some o =>
      rw [x.keep p o q n] at h1; cases h1
theorem Ext.sqT (x : Ext ρ ρ' H H') {xs : List V} (h : SqT K H a xs) : SqT K H' a xs := by
  rcases h with (h | ⟨o, h⟩) | h
  · exact .inl (.inl (x.tups _ _ h))
  · exact .inl (.inr ⟨o, x.frzs _ _ _ h⟩)
  · exact .inr h
theorem Ext.fzL (x : Ext ρ ρ' H H') {xs : List V} (h : FzL K H a xs) : FzL K H' a xs := by
  rcases h with ⟨o, h⟩ | h
  · exact .inl ⟨o, x.frzs _ _ _ h⟩
  · exact .inr h
theorem Ext.at (x : Ext ρ ρ' H H') {n : Nat} (h : ρ[n]? = some a) : ρ'[n]? = some a := by
  obtain ⟨s, e⟩ := x.pre
  rw [e, List.getElem?_append_left (List.getElem?_eq_some_iff.mp h).1]
  exact h
/-- what a value's being related asks to stay -/
structure Mon (K : PySem.W.Frag) (ρ ρ' : List Addr) (H H' : Hp) : Prop where
  at_ : ∀ (n : Nat) (a : Addr), ρ[n]? = some a → ρ'[n]? = some a
  tup : ∀ a xs, H a = some (.tup xs) → H' a = some (.tup xs)
  sqT : ∀ a xs, SqT K H a xs → SqT K H' a xs
  fzL : ∀ a xs, FzL K H a xs → FzL K H' a xs
theorem Ext.mon (x : Ext ρ ρ' H H') : Mon K ρ ρ' H H' := ⟨fun _ _ => x.at, x.tups, fun _ _ => x.sqT, fun _ _ => x.fzL⟩
mutual
theorem RV.by_ (x : Mon K ρ ρ' H H') : ∀ {d : D} {v : V}, RV K ρ H d v → RV K ρ' H' d v
  | .non, _, h => by rw [RV] at h ⊢; exact h
  | .bl _, _, h => by rw [RV] at h ⊢; exact h
  | .int _, _, h => by rw [RV] at h ⊢; exact h
  | .str _, _, h => by rw [RV] at h ⊢; exact h
  | .tup ds, v, h => by
    rw [RV] at h ⊢
    obtain ⟨a, xs, e, q, r⟩ := h
    exact ⟨a, xs, e, x.tup _ _ q, RVs.by_ x r⟩
  | .kt ds, v, h => by
    rw [RV] at h ⊢
    obtain ⟨a, xs, e, q, r⟩ := h
    exact ⟨a, xs, e, x.sqT _ _ q, RVs.by_ x r⟩
  | .ls ds, v, h => by
    rw [RV] at h ⊢
    obtain ⟨a, xs, e, q, r⟩ := h
    exact ⟨a, xs, e, x.fzL _ _ q, RVs.by_ x r⟩
  | .ref n, v, h => by
    rw [RV] at h ⊢
    obtain ⟨a, e, q⟩ := h
    exact ⟨a, e, x.at_ _ _ q⟩
theorem RVs.by_ (x : Mon K ρ ρ' H H') : ∀ {ds : List D} {vs : List V}, RVs K ρ H ds vs → RVs K ρ' H' ds vs
  | [], _, h => by rw [RVs] at h ⊢; exact h
  | d :: ds, vs, h => by
    rw [RVs] at h ⊢
    obtain ⟨v, vr, e, q, r⟩ := h
    exact ⟨v, vr, e, RV.by_ x q, RVs.by_ x r⟩
end
theorem RV.mono (x : Ext ρ ρ' H H') {d : D} {v : V} (h : RV K ρ H d v) : RV K ρ' H' d v := h.by_ x.mon
theorem RVs.mono (x : Ext ρ ρ' H H') {d : List D} {v : List V} (h : RVs K ρ H d v) : RVs K ρ' H' d v := h.by_ x.mon
theorem RVs.len : ∀ {ds : List D} {vs : List V}, RVs K ρ H ds vs → vs.length = ds.length
  | [], _, h => by rw [RVs] at h; subst h; rfl
  | d :: ds, vs, h => by
    rw [RVs] at h
    obtain ⟨v, vr, e, q, r⟩ := h
    subst e
    simp [RVs.len r]
theorem RVs.get : ∀ {ds : List D} {vs : List V} {i : Nat} {d : D}, RVs K ρ H ds vs → ds[i]? = some d → ∃ v, vs[i]? = some v ∧ RV K ρ H d v
  | [], _, _, _, _, h => by simp at h
  | d :: ds, vs, i, e, h, hi => by
    rw [RVs] at h
    obtain ⟨v, vr, rfl, q, r⟩ := h
    cases i with
    | zero => simp at hi; subst hi; exact ⟨v, by simp, q⟩
    | succ i =>
      obtain ⟨u, h1, h2⟩ := RVs.get (i := i) r (by simpa using hi)
      exact ⟨u, by simpa using h1, h2⟩
theorem RVs.none : ∀ {ds : List D} {vs : List V} {i : Nat}, RVs K ρ H ds vs → ds[i]? = none → vs[i]? = none := fun {ds vs i} h e => by
  have := RVs.len h
  rw [List.getElem?_eq_none_iff] at e ⊢
  omega
theorem RVs.append : ∀ {ds es : List D} {vs us : List V}, RVs K ρ H ds vs → RVs K ρ H es us → RVs K ρ H (ds ++ es) (vs ++ us)
  | [], _, _, _, h, k => by rw [RVs] at h; subst h; exact k
  | d :: ds, es, vs, us, h, k => by
    rw [RVs] at h
    obtain ⟨v, vr, rfl, q, r⟩ := h
    show RVs K ρ H (d :: (ds ++ es)) (v :: (vr ++ us))
    rw [RVs]
    exact ⟨v, _, rfl, q, RVs.append r k⟩
theorem RVs.cons (h : RV K ρ H d v) {ds : List D} {vs : List V} (k : RVs K ρ H ds vs) : RVs K ρ H (d :: ds) (v :: vs) := by
  rw [RVs]; exact ⟨v, vs, rfl, h, k⟩
theorem RVs.nil : RVs K ρ H [] [] := by rw [RVs]
theorem RVs.one (h : RV K ρ H d v) : RVs K ρ H [d] [v] := .cons h .nil
theorem RVs.drop : ∀ {ds : List D} {vs : List V} (n : Nat), RVs K ρ H ds vs → RVs K ρ H (ds.drop n) (vs.drop n)
  | _, _, 0, h => by simpa using h
  | [], _, n + 1, h => by rw [RVs] at h; subst h; exact .nil
  | d :: ds, vs, n + 1, h => by
    rw [RVs] at h
    obtain ⟨v, vr, rfl, q, r⟩ := h
    simpa using RVs.drop n r
theorem RVs.take : ∀ {ds : List D} {vs : List V} (n : Nat), RVs K ρ H ds vs → RVs K ρ H (ds.take n) (vs.take n)
  | _, _, 0, h => by simpa using RVs.nil
  | [], _, n + 1, h => by rw [RVs] at h; subst h; exact .nil
  | d :: ds, vs, n + 1, h => by
    rw [RVs] at h
    obtain ⟨v, vr, rfl, q, r⟩ := h
    simpa using RVs.cons q (RVs.take n r)
theorem RVs.set (h : RV K ρ H d v) : ∀ {ds : List D} {vs : List V} (n : Nat), RVs K ρ H ds vs → RVs K ρ H (ds.set n d) (vs.set n v)
  | [], _, n, k => by rw [RVs] at k; subst k; simpa using RVs.nil
  | e :: ds, vs, 0, k => by
    rw [RVs] at k
    obtain ⟨u, vr, rfl, q, r⟩ := k
    simpa using RVs.cons h r
  | e :: ds, vs, n + 1, k => by
    rw [RVs] at k
    obtain ⟨u, vr, rfl, q, r⟩ := k
    simpa using RVs.cons q (RVs.set h n r)
theorem RVs.dropLast : ∀ {ds : List D} {vs : List V}, RVs K ρ H ds vs → RVs K ρ H ds.dropLast vs.dropLast := fun {ds vs} h => by
  rw [List.dropLast_eq_take, List.dropLast_eq_take, h.len]
  exact h.take _
theorem RVs.reverse : ∀ {ds : List D} {vs : List V}, RVs K ρ H ds vs → RVs K ρ H ds.reverse vs.reverse
  | [], _, h => by rw [RVs] at h; subst h; exact .nil
  | d :: ds, vs, h => by
    rw [RVs] at h
    obtain ⟨v, vr, rfl, q, r⟩ := h
    simpa using (RVs.reverse r).append (.one q)
theorem RF.by_ (x : Mon K ρ ρ' H H') {nm : Nm} {fs : List (Nat × D)} {fv : List (Str × V)} (h : RF nm K ρ H fs fv) : RF nm K ρ' H' fs fv := by
  obtain ⟨h1, h2, h3⟩ := h
  refine ⟨h1, h2, fun i x' e => ?_⟩
  have := h3 i x' e
  revert this
  cases fs.lookup i with
  | none => exact fun z => z
  | some d => exact fun ⟨v, z, q⟩ => ⟨v, z, q.by_ x⟩
/-- an object that stands as it stood -/
theorem RO.by_ (x : Mon K ρ ρ' H H') {o : Ob} (h : RO pl K ρ H a o) (e : H' a = H a) : RO pl K ρ' H' a o := by
  cases o with
  | lst ds =>
    obtain ⟨xs, q, r⟩ := h
    exact ⟨xs, e.trans q, r.by_ x⟩
  | dk kvs =>
    obtain ⟨vs, q, k, r⟩ := h
    exact ⟨vs, e.trans q, k, r.by_ x⟩
  | dt kvs =>
    obtain ⟨vs, q, k, r⟩ := h
    exact ⟨vs, e.trans q, k, r.by_ x⟩
  | ins C fs =>
    obtain ⟨m, dx, fv, q, r⟩ := h
    exact ⟨m, dx, fv, e.trans q, r.by_ x⟩
theorem RO.some {o : Ob} (h : RO pl K ρ H a o) : ∃ u, H a = some u := by
  cases o with
  | lst ds => obtain ⟨xs, q, r⟩ := h; exact ⟨_, q⟩
  | dk kvs => obtain ⟨vs, q, k, r⟩ := h; exact ⟨_, q⟩
  | dt kvs => obtain ⟨vs, q, k, r⟩ := h; exact ⟨_, q⟩
  | ins C fs => obtain ⟨_, dx, fv, q, r⟩ := h; exact ⟨_, q⟩
theorem RO.mut {o : Ob} (h : RO pl K ρ H a o) : (∀ xs, H a ≠ Option.some (HO.tup xs)) ∧ (∀ ob u, H a ≠ Option.some (HO.frz ob u)) ∧ ∀ y, H a ≠ Option.some (HO.own y) := by
  cases o with
  | lst ds => obtain ⟨xs, q, r⟩ := h; rw [q]; exact ⟨fun _ z => (by cases z), fun _ _ z => (by cases z), fun _ z => (by cases z)⟩
  | dk kvs => obtain ⟨vs, q, k, r⟩ := h; rw [q]; exact ⟨fun _ z => (by cases z), fun _ _ z => (by cases z), fun _ z => (by cases z)⟩
  | dt kvs => obtain ⟨vs, q, k, r⟩ := h; rw [q]; exact ⟨fun _ z => (by cases z), fun _ _ z => (by cases z), fun _ z => (by cases z)⟩
  | ins C fs => obtain ⟨_, dx, fv, q, r⟩ := h; rw [q]; exact ⟨fun _ z => (by cases z), fun _ _ z => (by cases z), fun _ z => (by cases z)⟩

theorem RG.at (r : RG pl K ρ H g) {n : Nat} {o : Ob} (h : g[n]? = some o) : ∃ a, ρ[n]? = some a ∧ RO pl K ρ H a o := by
  have hn : n < ρ.length := by rw [r.len]; exact (List.getElem?_eq_some_iff.mp h).1
  exact ⟨ρ[n], List.getElem?_eq_getElem hn, r.obj n o _ h (List.getElem?_eq_getElem hn)⟩
theorem RG.of (r : RG pl K ρ H g) {n : Nat} {o : Ob} (h : g[n]? = some o) (e : ρ[n]? = some a) : RO pl K ρ H a o := r.obj n o a h e
/-- nothing tracked has changed but what no ghost holds -/
theorem RG.ext (r : RG pl K ρ H g) (x : Ext ρ ρ H H') (e : ∀ a ∈ ρ, H' a = H a) : RG pl K ρ H' g :=
  ⟨r.len, r.nd, fun n o a h q => (r.obj n o a h q).by_ x.mon (e a (List.mem_of_getElem? q))⟩
/-- a new thing laid, that no ghost holds -/
theorem Ext.fresh {p : Addr} {o : HO} (h : H p = none) : Ext ρ ρ H (upd H p o) :=
  ⟨⟨[], by simp⟩, fun q hq n => absurd hq n, fun b u e _ => by rw [upd_ne (ne_of_none e h)]; exact e, fun b u e => by rw [upd_ne (ne_of_none e h)]; exact e, fun b u w e => by rw [upd_ne (ne_of_none e h)]; exact e⟩
theorem RG.mem_ne (r : RG pl K ρ H g) {p : Addr} (h : H p = none) : p ∉ ρ := fun m => by
  obtain ⟨n, hn, e⟩ := List.getElem_of_mem m
  have e' : ρ[n]? = some p := by rw [List.getElem?_eq_getElem hn, e]
  have hg : n < g.length := by rw [← r.len]; exact hn
  obtain ⟨u, q⟩ := (r.obj n g[n] p (List.getElem?_eq_getElem hg) e').some
  rw [h] at q; cases q
theorem RG.fresh (r : RG pl K ρ H g) {p : Addr} {o : HO} (h : H p = none) : RG pl K ρ (upd H p o) g :=
  r.ext (.fresh h) fun a ha => upd_ne fun e => r.mem_ne h (e ▸ ha)
/-- what stands at p is held by a ghost from here on -/
theorem RG.push (r : RG pl K ρ H g) {p : Addr} {o : Ob} (n : p ∉ ρ) (h : RO pl K ρ H p o) : RG pl K (ρ ++ [p]) H (g ++ [o]) := by
  have m : Mon K ρ (ρ ++ [p]) H H := ⟨fun n a e => by rw [List.getElem?_append_left (List.getElem?_eq_some_iff.mp e).1]; exact e, fun _ _ h => h, fun _ _ h => h, fun _ _ h => h⟩
  refine ⟨by simp [r.len], ?_, fun k u a hk ha => ?_⟩
  · rw [List.nodup_append]
    refine ⟨r.nd, by simp, fun x hx y hy => ?_⟩
    have : y = p := by simpa using hy
    subst this
    exact fun e => n (e ▸ hx)
  · by_cases hlt : k < g.length
    · rw [List.getElem?_append_left hlt] at hk
      rw [List.getElem?_append_left (by rw [r.len]; exact hlt)] at ha
      exact (r.obj k u a hk ha).by_ m rfl
    · have e : k = g.length := by
        have := (List.getElem?_eq_some_iff.mp hk).1
        simp at this
        omega
      subst e
      rw [List.getElem?_concat_length] at hk
      rw [← r.len, List.getElem?_concat_length] at ha
      cases hk; cases ha
      exact h.by_ m rfl
theorem Ext.push {p : Addr} (n : H p = none) (x : Ext ρ ρ' H H') : Ext ρ (ρ' ++ [p]) H H' := by
  obtain ⟨s, e⟩ := x.pre
  refine ⟨⟨s ++ [p], by rw [e, List.append_assoc]⟩, fun q hq nq => ?_, x.keep, x.tups, x.frzs⟩
  rcases List.mem_append.mp hq with m | m
  · exact x.new q m nq
  · have : q = p := by simpa using m
    subst this
    exact n
/-- an object is written -/
theorem RG.write (r : RG pl K ρ H g) {n : Nat} {o : Ob} {u : HO} (ha : ρ[n]? = some a) (ho : ∃ o', g[n]? = some o') (h : ∀ H', Mon K ρ ρ H H' → H' a = some u → RO pl K ρ H' a o) :
    RG pl K ρ (upd H a u) (g.set n o) ∧ Ext ρ ρ H (upd H a u) := by
  obtain ⟨o', ho⟩ := ho
  have old := r.obj n o' a ho ha
  obtain ⟨m1, m2, _⟩ := old.mut
  have x : Ext ρ ρ H (upd H a u) := by
    refine ⟨⟨[], by simp⟩, fun p h n => absurd h n, fun b w e nb => ?_, fun b xs e => ?_, fun b w z e => ?_⟩
    · rw [upd_ne (show b ≠ a from fun z => nb (z ▸ List.mem_of_getElem? ha))]; exact e
    · rw [upd_ne (show b ≠ a from fun z => m1 xs (z ▸ e))]; exact e
    · rw [upd_ne (show b ≠ a from fun q => m2 w z (q ▸ e))]; exact e
  refine ⟨⟨by simp [r.len], r.nd, fun k w b hk hb => ?_⟩, x⟩
  by_cases e : k = n
  · subst e
    rw [ha] at hb; cases hb
    rw [List.getElem?_set_self (List.getElem?_eq_some_iff.mp ho).1] at hk
    cases hk
    exact h _ x.mon upd_same
  · rw [List.getElem?_set_ne (Ne.symm e)] at hk
    refine (r.obj k w b hk hb).by_ x.mon (upd_ne fun z => e ?_)
    subst z
    obtain ⟨h1, e1⟩ := List.getElem?_eq_some_iff.mp ha
    obtain ⟨h2, e2⟩ := List.getElem?_eq_some_iff.mp hb
    exact (List.getElem_inj r.nd).mp (e2.trans e1.symm)
end
end Sd
set_option Elab.async false
set_option linter.all false
set_option maxRecDepth 100000
/-! Snd2: readings by the evaluator's ends; the expressions' rules. -/
namespace Sd
open PySem PySem.Spec PyProof.Rows L2 Py

/-- the slots -/
def RL (K : PySem.W.Frag) (ρ : List Addr) (H : Hp) (σ : L2.St) (L : Lc) : Prop :=
  σ.length = L.length ∧ ∀ (i : Nat) d, L[i]? = some (some d) → ∃ v, σ[i]? = some (some v) ∧ RV K ρ H d v
/-- a value, or a list that no ghost holds, new since H0 -/
def RX (K : PySem.W.Frag) (ρ : List Addr) (H0 H : Hp) (v : V) : XV → Prop
  | .d d => RV K ρ H d v
  | .tmp xs => ∃ a vs, v = .ref a ∧ H a = some (.lst vs) ∧ RVs K ρ H xs vs ∧ a ∉ ρ ∧ H0 a = none
section
variable {pl : Pl} {K : PySem.W.Frag} {ρ ρ' ρ'' : List Addr} {H H' H'' H0 : Hp} {g : G} {a : Addr} {v : V} {d : D}
theorem RL.mono (x : Ext ρ ρ' H H') {σ : L2.St} {L : Lc} (h : RL K ρ H σ L) : RL K ρ' H' σ L :=
  ⟨h.1, fun i d e => let ⟨v, q, r⟩ := h.2 i d e; ⟨v, q, r.mono x⟩⟩
theorem RL.set (h : RL K ρ H σ L) (r : RV K ρ H d v) (i : Nat) : RL K ρ H (σ.set i (some v)) (L.set i (some d)) := by
  refine ⟨by simp [h.1], fun j e q => ?_⟩
  by_cases hj : i = j
  · subst hj
    have hl : i < L.length := by
      have := (List.getElem?_eq_some_iff.mp q).1
      simpa using this
    rw [List.getElem?_set_self hl] at q
    cases q
    exact ⟨v, by rw [List.getElem?_set_self (by rw [h.1]; exact hl)], r⟩
  · rw [List.getElem?_set_ne hj] at q
    obtain ⟨u, q1, q2⟩ := h.2 j e q
    exact ⟨u, by rw [List.getElem?_set_ne hj]; exact q1, q2⟩
theorem Ext.none_of (x : Ext ρ ρ' H H') (h : H' a = none) (n : a ∉ ρ') : H a = none := by
  have n' : a ∉ ρ := fun m => by
    obtain ⟨s, e⟩ := x.pre
    exact n (by rw [e]; exact List.mem_append_left _ m)
  cases q : H a with
  | none => rfl
  | some o =>
    rw [x.keep a o q n'] at h
    cases h
theorem Ext.nmem (x : Ext ρ ρ' H H') {o : HO} (h : H a = some o) (n : a ∉ ρ) : a ∉ ρ' := fun m => by
  have := x.new a m n
  rw [h] at this; cases this
/-- later -/
theorem RX.mono {x : XV} (e : Ext ρ ρ' H H') (h : RX K ρ H0 H v x) : RX K ρ' H0 H' v x := by
  cases x with
  | d d => exact RV.mono e h
  | tmp xs =>
    obtain ⟨a, vs, e1, q, r, n, z⟩ := h
    exact ⟨a, vs, e1, e.keep _ _ q n, r.mono e, e.nmem q n, z⟩
/-- since earlier -/
theorem RX.since {x : XV} (e : Ext ρ ρ' H0 H) (f : Ext ρ' ρ'' H H') (h : RX K ρ'' H H' v x) : RX K ρ'' H0 H' v x := by
  cases x with
  | d d => exact h
  | tmp xs =>
    obtain ⟨a, vs, e1, q, r, n, z⟩ := h
    refine ⟨a, vs, e1, q, r, n, e.none_of z fun m => n ?_⟩
    obtain ⟨s, e⟩ := f.pre
    rw [e]; exact List.mem_append_left _ m
end

/-! ### ends -/
abbrev Wish := Xc → Hp → Prop
/-- what is wanted of an end; Rel says how what is given is related (places, the heap ahead, the heap behind) -/
def Po {α β : Type} (pl : Pl) (K : PySem.W.Frag) (Rel : List Addr → Hp → Hp → β → α → Prop) (ρ : List Addr) (H : Hp) (Wx : Wish) (Q : β → Hp → Prop) : R α → Prop
  | .ok x g => ∀ ρ' H' v, Ext ρ ρ' H H' → RG pl K ρ' H' g → Rel ρ' H H' v x → Q v H'
  | .ex e g => ∀ ρ' H', Ext ρ ρ' H H' → RG pl K ρ' H' g → Wx e H'
  | .bad => False
abbrev relX (K : PySem.W.Frag) : List Addr → Hp → Hp → V → XV → Prop := fun ρ H0 H v x => RX K ρ H0 H v x
abbrev relD (K : PySem.W.Frag) : List Addr → Hp → Hp → V → D → Prop := fun ρ _ H v x => RV K ρ H x v
abbrev relDs (K : PySem.W.Frag) : List Addr → Hp → Hp → List V → List D → Prop := fun ρ _ H v x => RVs K ρ H x v
abbrev relB : List Addr → Hp → Hp → Bool → Bool → Prop := fun _ _ _ b x => b = x
/-- a relation that forgets nothing when it is looked at from earlier -/
def Since {α β : Type} (Rel : List Addr → Hp → Hp → β → α → Prop) : Prop := ∀ ρ ρ' ρ'' H0 H H' v x, Ext ρ ρ' H0 H → Ext ρ' ρ'' H H' → Rel ρ'' H H' v x → Rel ρ'' H0 H' v x
theorem since_X {K : PySem.W.Frag} : Since (relX K) := fun _ _ _ _ _ _ _ _ e f h => RX.since e f h
theorem since_D {K : PySem.W.Frag} : Since (relD K) := fun _ _ _ _ _ _ _ _ _ _ h => h
theorem since_Ds {K : PySem.W.Frag} : Since (relDs K) := fun _ _ _ _ _ _ _ _ _ _ h => h
theorem since_B : Since relB := fun _ _ _ _ _ _ _ _ _ _ h => h

section
variable {α β γ δ : Type} {pl : Pl} {K : PySem.W.Frag} {Rel : List Addr → Hp → Hp → β → α → Prop} {Rel' : List Addr → Hp → Hp → δ → γ → Prop} {ρ ρ' : List Addr} {H H' : Hp} {Wx : Wish} {Q : β → Hp → Prop} {Q' : δ → Hp → Prop} {r : R α}
theorem Po.imp {Q2 : β → Hp → Prop} (h : Po pl K Rel ρ H Wx Q r) (k : ∀ v H', Q v H' → Q2 v H') : Po pl K Rel ρ H Wx Q2 r := by
  cases r with
  | ok x g => exact fun ρ' H' v e rg rx => k _ _ (h ρ' H' v e rg rx)
  | ex e g => exact h
  | bad => exact h
theorem Po.shift (s : Since Rel) (h : Po pl K Rel ρ H Wx Q r) (e : Ext ρ ρ' H H') : Po pl K Rel ρ' H' Wx Q r := by
  cases r with
  | ok x g => exact fun ρ2 H2 v f rg rx => h ρ2 H2 v (e.trans f) rg (s _ _ _ _ _ _ _ _ e f rx)
  | ex x g => exact fun ρ2 H2 f rg => h ρ2 H2 (e.trans f) rg
  | bad => exact h
/-- one after another -/
theorem Po.bind (s : Since Rel') {f : α → G → R γ} (h : Po pl K Rel' ρ H Wx Q' (r.bind f)) :
    Po pl K Rel ρ H Wx (fun v H1 => ∃ ρ1 x g1, Ext ρ ρ1 H H1 ∧ RG pl K ρ1 H1 g1 ∧ Rel ρ1 H H1 v x ∧ Po pl K Rel' ρ1 H1 Wx Q' (f x g1)) r := by
  cases r with
  | ok x g => exact fun ρ' H' v e rg rx => ⟨ρ', x, g, e, rg, rx, Po.shift s h e⟩
  | ex e g => exact h
  | bad => exact h
/-- one after another, the end looked at from the start too -/
theorem Po.bind' (s : Since Rel') {f : α → G → R γ} (h : Po pl K Rel' ρ H Wx Q' (r.bind f)) :
    Po pl K Rel ρ H Wx (fun v H1 => ∃ ρ1 x g1, Ext ρ ρ1 H H1 ∧ RG pl K ρ1 H1 g1 ∧ Rel ρ1 H H1 v x ∧ Po pl K Rel' ρ1 H1 Wx Q' (f x g1) ∧ Po pl K Rel' ρ H Wx Q' (f x g1)) r := by
  cases r with
  | ok x g => exact fun ρ' H' v e rg rx => ⟨ρ', x, g, e, rg, rx, Po.shift s h e, h⟩
  | ex e g => exact h
  | bad => exact h
theorem Po.ofO {o : Option α} {g : G} (h : Po pl K Rel ρ H Wx Q (ofO o g)) : ∃ x, o = some x ∧ ∀ ρ' H' v, Ext ρ ρ' H H' → RG pl K ρ' H' g → Rel ρ' H H' v x → Q v H' := by
  cases o with
  | none => exact h.elim
  | some x => exact ⟨x, rfl, h⟩
end

/-! ### the context -/
/-- how an exception of Ev0 stands in HandS's wishes -/
def wish (pl : Pl) (W : WX) (σ : L2.St) : Wish := fun e H => e.fs = [] → W (.ref (pl.ca e.cls)) none σ H
/-- what a def promises -/
def spE (pl : Pl) (K : PySem.W.Frag) (T : Tb) (np : Nat) (k f : Nat) : Sp := fun vs H Q E => vs.length = np ∧ ∃ ρ ds g, RVs K ρ H ds vs ∧ RG pl K ρ H g ∧
  Po pl K (relD K) ρ H (fun e H => e.fs = [] → E (.ref (pl.ca e.cls)) none H) Q (runF T k f ds g)

/-- a def of the table as it is called -/
structure FnAt (P : Program) (w : World) (K : PySem.W.Frag) (mg : Str → Option Value) (base : Heap) (pl : Pl) (T : Tb) (k f : Nat) (fa : Addr) : Prop where
  ok : ∃ (fd : FuncData) (ps : List Str) (F : Fn), T.fn f = some F ∧ FnOk P w K mg base (L2.CX P w) (2 * k) fa fd ps (spE pl K T F.np k f) ∧ Binds K fd ps [] ∧ ps.length = F.np
  kp : PySem.W.keepIn K (.ref fa) = true

def bnames : List Str := ["len", "abs", "int", "bool", "str", "tuple", "list", "all", "any", "sum", "max", "min", "sorted", "dict", "repr", "range", "enumerate", "zip", "reversed", "isinstance", "set"]

/-- the top, as the defs see it, at calls k deep -/
structure Top (P : Program) (w : World) (K : PySem.W.Frag) (mg : Str → Option Value) (base : Heap) (pl : Pl) (T : Tb) (k : Nat) : Prop where
  blt : ∀ x ∈ bnames, mg x = none
  gls : ∀ (i : Nat) x d, pl.nm.gls[i]? = some x → T.gl i = some d → ∃ u v, mg x = some u ∧ RelV v u ∧ ∀ ρ H, RV K ρ H d v
  fns : ∀ (f : Nat) x, pl.nm.fns[f]? = some (some x) → ∃ fa, mg x = some (.ref fa) ∧ FnAt P w K mg base pl T k f fa
  mts : ∀ C m f x, T.mt C m = some f → pl.nm.ats[m]? = some x → ∃ fa, Meth K (pl.ca C) x fa ∧ FnAt P w K mg base pl T k f fa
  cls : ∀ C x f, T.ini C = some f → pl.nm.cls[C]? = some x → mg x = some (.ref (pl.ca C)) ∧ ∃ fa, Mk K (pl.ca C) fa ∧ FnAt P w K mg base pl T k f fa
  cl : ∀ C f, T.ini C = some f → Cls K (pl.ca C)
  exc : ∀ (C : Nat) x, pl.nm.cls[C]? = some x → T.ini C = none → mg x = some (.ref (pl.ca C)) ∧ PySem.W.excIn K (pl.ca C) [.type "ValueError", .type "Exception", .type "BaseException", .type "object"] "ValueError.__new__" = true ∧ PySem.W.keepIn K (.ref (pl.ca C)) = true ∧
    PySem.W.subIn K (.ref (pl.ca C)) (.type "BaseException") = some true ∧ PySem.W.typeIn K (.ref (pl.ca C)) = some (.type "type")
  sub : ∀ c C b, T.sub c C = some b → PySem.W.exmOne K (.ref (pl.ca c)) (.ref (pl.ca C)) = some b
  nat : ∀ C f (i : Nat) x, T.ini C = some f → pl.nm.ats[i]? = some x → T.mt C i = none → NoAttr K (pl.ca C) x
  nd : pl.nm.ats.Nodup
  ini : pl.ini = T.ini

/-- a context in which the table is seen; W: what is wished of exceptions -/
structure Good (T : Tb) (pl : Pl) (k : Nat) (N : List Str) (sc : Scope) (W : WX) (X : Cx) : Prop where
  top : Top X.prog X.w X.K X.mg X.base pl T k
  hN : X.N = N
  sc_ : X.env.scope = sc
  nd : N.Nodup
  un : X.A.units + 66 < cLine
  tk : Takes X W
/-- a context in which defs may be called -/
structure Calm (k : Nat) (X : Cx) : Prop where
  calm : X.calm = true
  room : Room (2 * k + 1) X.A

/-- an expression's reading by the evaluator -/
def tE (T : Tb) (pl : Pl) (K : PySem.W.Frag) (k : Nat) (W : WX) (e : E) : TE := fun σ H Q =>
  ∃ ρ L g, RL K ρ H σ L ∧ RG pl K ρ H g ∧ Po pl K (relX K) ρ H (wish pl W σ) Q (ev T (runF T k) e L g)
def tEs (T : Tb) (pl : Pl) (K : PySem.W.Frag) (k : Nat) (W : WX) (e : Es) : TA := fun σ H Q =>
  ∃ ρ L g, RL K ρ H σ L ∧ RG pl K ρ H g ∧ Po pl K (relDs K) ρ H (wish pl W σ) Q (evs T (runF T k) e L g)
/-- a value laid into the heap where no ghost held it -/
def tD (T : Tb) (pl : Pl) (K : PySem.W.Frag) (k : Nat) (W : WX) (e : E) : TE := fun σ H Q =>
  ∃ ρ L g, RL K ρ H σ L ∧ RG pl K ρ H g ∧ Po pl K (relD K) ρ H (wish pl W σ) Q (ev T (runF T k) e L g).lay
def tT (T : Tb) (pl : Pl) (K : PySem.W.Frag) (k : Nat) (W : WX) (e : E) : TT := fun σ H Q =>
  ∃ ρ L g, RL K ρ H σ L ∧ RG pl K ρ H g ∧ Po pl K relB ρ H (wish pl W σ) Q (ev T (runF T k) e L g).test

section
variable {T : Tb} {pl : Pl} {X : Cx} {k : Nat} {N : List Str} {sc : Scope} {W : WX} {ia ib ic : E} {a b c : Expr} {pos : Pos}
/-- the next one begins -/
theorem next {α β : Type} {Rel : List Addr → Hp → Hp → β → α → Prop} {K : PySem.W.Frag} {ρ ρ1 : List Addr} {H H1 : Hp} {σ : L2.St} {L : Lc} {g : G} {Wx : Wish} {Q : β → Hp → Prop} {r : R α} (rl : RL K ρ H σ L) (e : Ext ρ ρ1 H H1) (rg : RG pl K ρ1 H1 g) (h : Po pl K Rel ρ1 H1 Wx Q r) :
    ∃ ρ, RL K ρ H1 σ L ∧ RG pl K ρ H1 g ∧ Po pl K Rel ρ H1 Wx Q r := ⟨ρ1, rl.mono e, rg, h⟩

theorem s_v {i : Nat} {x : Str} (hN : X.N[i]? = some x) (hv : Vis X.env.scope x) (hd : (x == ("__debug__" : Str)) = false) (hcd : (x == ("__classdict__" : Str)) = false) : PE X (.Name x pos) (tE T pl X.K k W (.v i)) := by
  refine ⟨fun pins s σ H Q I h => ?_⟩
  obtain ⟨ρ, L, g, rl, rg, h⟩ := h
  rw [ev] at h
  cases e : L[i]? with
  | none => rw [e] at h; exact h.elim
  | some o =>
    rw [e] at h
    cases o with
    | none => exact h.elim
    | some d =>
      obtain ⟨v, q, r⟩ := rl.2 i d e
      exact (pe_var hN hv hd hcd).run pins s σ H Q I ⟨v, q, h ρ H v .refl rg r⟩
theorem s_int {i : Int} {j : Nat} : PE X (.Constant (.int i) j pos) (tE T pl X.K k W (.c (.int i))) := by
  refine ⟨fun pins s σ H Q I h => ?_⟩
  obtain ⟨ρ, L, g, rl, rg, h⟩ := h
  rw [ev] at h
  exact pe_int.run pins s σ H Q I (h ρ H (.int i) .refl rg (by show RV _ _ _ _ _; rw [RV]))
theorem s_bl {i : Bool} {j : Nat} : PE X (.Constant (.bool i) j pos) (tE T pl X.K k W (.c (.bl i))) := by
  refine ⟨fun pins s σ H Q I h => ?_⟩
  obtain ⟨ρ, L, g, rl, rg, h⟩ := h
  rw [ev] at h
  exact pe_bl.run pins s σ H Q I (h ρ H (.bl i) .refl rg (by show RV _ _ _ _ _; rw [RV]))
theorem s_non {j : Nat} : PE X (.Constant .none j pos) (tE T pl X.K k W (.c .non)) := by
  refine ⟨fun pins s σ H Q I h => ?_⟩
  obtain ⟨ρ, L, g, rl, rg, h⟩ := h
  rw [ev] at h
  exact pe_non.run pins s σ H Q I (h ρ H .non .refl rg (by show RV _ _ _ _ _; rw [RV]))
theorem s_str {z : Tx} {j : Nat} : PE X (.Constant (.str (toS z)) j pos) (tE T pl X.K k W (.c (.str z))) := by
  refine ⟨fun pins s σ H Q I h => ?_⟩
  obtain ⟨ρ, L, g, rl, rg, h⟩ := h
  rw [ev] at h
  exact pe_str.run pins s σ H Q I (h ρ H (.str (toS z)) .refl rg (by show RV _ _ _ _ _; rw [RV]))
theorem s_g {i : Nat} {x : Str} (G : Good T pl k N sc W X) (hg : Gl X x) (hn : pl.nm.gls[i]? = some x) (hd : (x == ("__debug__" : Str)) = false) : PE X (.Name x pos) (tE T pl X.K k W (.g i)) := by
  refine ⟨fun pins s σ H Q I h => ?_⟩
  obtain ⟨ρ, L, g, rl, rg, h⟩ := h
  rw [ev] at h
  obtain ⟨y, e, h⟩ := h.ofO
  cases e1 : T.gl i with
  | none => rw [e1] at e; cases e
  | some d =>
    rw [e1] at e
    cases e
    obtain ⟨u, v, m, r, q⟩ := G.top.gls i x d hn e1
    exact (pe_glob hg m r hd).run pins s σ H Q I (h ρ H v .refl rg (q ρ H))

/-! ### by values -/
/-- what an operation on two values may be asked -/
def rB (pl : Pl) (K : PySem.W.Frag) (f : G → XV → XV → Option XV) : R2 := fun v u H Q => ∃ ρ g x y z H1 H2, RG pl K ρ H g ∧ RX K ρ H1 H v x ∧ RX K ρ H2 H u y ∧ f g x y = some z ∧ ∀ ρ' H' v', Ext ρ ρ' H H' → RG pl K ρ' H' g → RX K ρ' H H' v' z → Q v' H'
theorem s_bin2 {t : TE} {f : G → XV → XV → Option XV} {e : Expr} (h : t = fun σ H Q => tE T pl X.K k W ia σ H fun x H1 => tE T pl X.K k W ib σ H1 fun y H2 => rB pl X.K f x y H2 Q) (p : PE X e t) :
    PE X e (fun σ H Q => ∃ ρ L g, RL X.K ρ H σ L ∧ RG pl X.K ρ H g ∧ Po pl X.K (relX X.K) ρ H (wish pl W σ) Q ((ev T (runF T k) ia L g).bind fun x g => (ev T (runF T k) ib L g).bind fun y g => ofO (f g x y) g)) := by
  refine ⟨fun pins s σ H Q I hw => p.run pins s σ H Q I ?_⟩
  subst h
  obtain ⟨ρ, L, g, rl, rg, h⟩ := hw
  refine ⟨ρ, L, g, rl, rg, (h.bind (Rel := relX X.K) since_X).imp fun v H1 ⟨ρ1, x, g1, e1, rg1, rx, h⟩ => ?_⟩
  refine ⟨ρ1, L, g1, rl.mono e1, rg1, (h.bind (Rel := relX X.K) since_X).imp fun u H2 ⟨ρ2, y, g2, e2, rg2, ry, h⟩ => ?_⟩
  obtain ⟨z, ez, h⟩ := h.ofO
  exact ⟨ρ2, g2, x, y, z, H, H1, rg2, rx.mono e2, ry, ez, h⟩
end
end Sd
set_option Elab.async false
set_option linter.all false
set_option maxRecDepth 100000
set_option maxHeartbeats 1000000
/-! Snd3: operators and comparisons by values. -/
namespace Sd
open PySem PySem.Spec PyProof.Rows L2 Py

theorem line_eq : Py.line = sizeLine := by rw [sizeLine_eq]; rfl

section
variable {pl : Pl} {K : PySem.W.Frag} {ρ ρ' : List Addr} {H H' H0 : Hp} {g : G} {a : Addr} {v : V} {d : D}
theorem rv_int {i : Int} (h : RV K ρ H (.int i) v) : v = .int i := by rw [RV] at h; exact h
theorem rv_str {i : Tx} (h : RV K ρ H (.str i) v) : v = .str (toS i) := by rw [RV] at h; exact h
theorem rv_bl {i : Bool} (h : RV K ρ H (.bl i) v) : v = .bl i := by rw [RV] at h; exact h
theorem rv_non (h : RV K ρ H .non v) : v = .non := by rw [RV] at h; exact h
theorem rv_tup {ds : List D} (h : RV K ρ H (.tup ds) v) : ∃ a xs, v = .ref a ∧ H a = some (.tup xs) ∧ RVs K ρ H ds xs := by rw [RV] at h; exact h
theorem rv_kt {ds : List D} (h : RV K ρ H (.kt ds) v) : ∃ a xs, v = .ref a ∧ SqT K H a xs ∧ RVs K ρ H ds xs := by rw [RV] at h; exact h
theorem rv_ls {ds : List D} (h : RV K ρ H (.ls ds) v) : ∃ a xs, v = .ref a ∧ FzL K H a xs ∧ RVs K ρ H ds xs := by rw [RV] at h; exact h
theorem rv_ref {n : Nat} (h : RV K ρ H (.ref n) v) : ∃ a, v = .ref a ∧ ρ[n]? = some a := by rw [RV] at h; exact h
theorem RV.int (i : Int) : RV K ρ H (.int i) (.int i) := by rw [RV]
theorem RV.bl (i : Bool) : RV K ρ H (.bl i) (.bl i) := by rw [RV]
theorem RV.str (i : Tx) : RV K ρ H (.str i) (.str (toS i)) := by rw [RV]
theorem RV.non : RV K ρ H .non .non := by rw [RV]
theorem RV.tup {ds : List D} {xs : List V} (h : H a = some (.tup xs)) (r : RVs K ρ H ds xs) : RV K ρ H (.tup ds) (.ref a) := by rw [RV]; exact ⟨a, xs, rfl, h, r⟩
theorem RV.ref {n : Nat} (h : ρ[n]? = some a) : RV K ρ H (.ref n) (.ref a) := by rw [RV]; exact ⟨a, rfl, h⟩

theorem RX.int (i : Int) : RX K ρ H0 H (.int i) (.d (.int i)) := by show RV K ρ H _ _; exact RV.int i
theorem RX.bl (i : Bool) : RX K ρ H0 H (.bl i) (.d (.bl i)) := by show RV K ρ H _ _; exact RV.bl i
theorem RX.str (i : Tx) : RX K ρ H0 H (.str (toS i)) (.d (.str i)) := by show RV K ρ H _ _; exact RV.str i
theorem RX.non : RX K ρ H0 H .non (.d .non) := by show RV K ρ H _ _; exact RV.non
theorem RX.tup {ds : List D} {xs : List V} (h : H a = some (.tup xs)) (r : RVs K ρ H ds xs) : RX K ρ H0 H (.ref a) (.d (.tup ds)) := by show RV K ρ H _ _; exact RV.tup h r
theorem RX.ref {n : Nat} (h : ρ[n]? = some a) : RX K ρ H0 H (.ref a) (.d (.ref n)) := by show RV K ρ H _ _; exact RV.ref h
theorem ref_obj (rg : RG pl K ρ H g) {n : Nat} {o : Ob} (h : RV K ρ H (.ref n) v) (e : g[n]? = some o) : ∃ a, v = .ref a ∧ ρ[n]? = some a ∧ RO pl K ρ H a o := by
  obtain ⟨a, rfl, q⟩ := rv_ref h
  exact ⟨a, rfl, q, rg.of e q⟩
theorem rx_int {i : Int} (h : RX K ρ H0 H v (.d (.int i))) : v = .int i := rv_int (show RV K ρ H _ _ from h)
theorem rx_str {i : Tx} (h : RX K ρ H0 H v (.d (.str i))) : v = .str (toS i) := rv_str (show RV K ρ H _ _ from h)
theorem rx_bl {i : Bool} (h : RX K ρ H0 H v (.d (.bl i))) : v = .bl i := rv_bl (show RV K ρ H _ _ from h)
theorem rx_non (h : RX K ρ H0 H v (.d .non)) : v = .non := rv_non (show RV K ρ H _ _ from h)
theorem rx_tup {ds : List D} (h : RX K ρ H0 H v (.d (.tup ds))) : ∃ a xs, v = .ref a ∧ H a = some (.tup xs) ∧ RVs K ρ H ds xs := rv_tup (show RV K ρ H _ _ from h)
theorem rx_kt {ds : List D} (h : RX K ρ H0 H v (.d (.kt ds))) : ∃ a xs, v = .ref a ∧ SqT K H a xs ∧ RVs K ρ H ds xs := rv_kt (show RV K ρ H _ _ from h)
theorem rx_ls {ds : List D} (h : RX K ρ H0 H v (.d (.ls ds))) : ∃ a xs, v = .ref a ∧ FzL K H a xs ∧ RVs K ρ H ds xs := rv_ls (show RV K ρ H _ _ from h)
theorem rx_ref {n : Nat} (h : RX K ρ H0 H v (.d (.ref n))) : ∃ a, v = .ref a ∧ ρ[n]? = some a := rv_ref (show RV K ρ H _ _ from h)
theorem rx_obj (rg : RG pl K ρ H g) {n : Nat} {o : Ob} (h : RX K ρ H0 H v (.d (.ref n))) (e : g[n]? = some o) : ∃ a, v = .ref a ∧ ρ[n]? = some a ∧ RO pl K ρ H a o := ref_obj rg (show RV K ρ H _ _ from h) e
theorem listOf_ok (rg : RG pl K ρ H g) {x : XV} {ds : List D} (h : RX K ρ H0 H v x) (e : Py.listOf g x = some ds) : ∃ a vs, v = .ref a ∧ H a = some (.lst vs) ∧ RVs K ρ H ds vs := by
  unfold Py.listOf at e
  split at e
  · cases e
    obtain ⟨a, vs, e1, q, r, _⟩ := h
    exact ⟨a, vs, e1, q, r⟩
  · split at e
    · rename_i e2
      cases e
      obtain ⟨a, e1, _, vs, q, r⟩ := rx_obj rg h e2
      exact ⟨a, vs, e1, q, r⟩
    · cases e
  · cases e
theorem items_ok (rg : RG pl K ρ H g) {x : XV} {ds : List D} (h : RX K ρ H0 H v x) (e : Py.items g x = some ds) : ∃ a vs, v = .ref a ∧ (SqL K H a vs ∨ SqT K H a vs) ∧ RVs K ρ H ds vs := by
  unfold Py.items at e
  split at e
  · cases e
    obtain ⟨a, vs, e1, q, r, _⟩ := h
    exact ⟨a, vs, e1, .inl (.of q), r⟩
  · cases e
    obtain ⟨a, vs, e1, q, r⟩ := rx_tup h
    exact ⟨a, vs, e1, .inr (.of q), r⟩
  · cases e
    obtain ⟨a, vs, e1, q, r⟩ := rx_ls h
    exact ⟨a, vs, e1, .inl q.sq, r⟩
  · cases e
    obtain ⟨a, vs, e1, q, r⟩ := rx_kt h
    exact ⟨a, vs, e1, .inr q, r⟩
  · split at e
    · rename_i e2
      cases e
      obtain ⟨a, e1, _, vs, q, r⟩ := rx_obj rg h e2
      exact ⟨a, vs, e1, .inl (.of q), r⟩
    · cases e
  · cases e
/-- a new list that no ghost holds -/
theorem new_tmp (rg : RG pl K ρ H g) {Q : VK} {ds : List D} {vs : List V} (r : RVs K ρ H ds vs) (q : ∀ ρ' H' v', Ext ρ ρ' H H' → RG pl K ρ' H' g → RX K ρ' H H' v' (.tmp ds) → Q v' H') (p : Addr) (n : H p = none) : Q (.ref p) (upd H p (.lst vs)) :=
  q ρ _ _ (.fresh n) (rg.fresh n) ⟨p, vs, rfl, upd_same, r.mono (.fresh n), rg.mem_ne n, n⟩
theorem new_tup (rg : RG pl K ρ H g) {Q : VK} {ds : List D} {vs : List V} (r : RVs K ρ H ds vs) (q : ∀ ρ' H' v', Ext ρ ρ' H H' → RG pl K ρ' H' g → RX K ρ' H H' v' (.d (.tup ds)) → Q v' H') (p : Addr) (n : H p = none) : Q (.ref p) (upd H p (.tup vs)) :=
  q ρ _ _ (.fresh n) (rg.fresh n) (RX.tup upd_same (r.mono (.fresh n)))
theorem RVs.eq_nil {ds : List D} {vs : List V} (r : RVs K ρ H ds vs) : vs = [] ↔ ds = [] := by
  have := r.len
  constructor
  · intro e; subst e; exact List.length_eq_zero_iff.mp this.symm
  · intro e; subst e; exact List.length_eq_zero_iff.mp this
theorem RVs.rep {ds : List D} {vs : List V} (r : RVs K ρ H ds vs) : ∀ n : Nat, RVs K ρ H (List.replicate n ds).flatten (List.replicate n vs).flatten
  | 0 => by simpa using RVs.nil
  | n + 1 => by
    rw [List.replicate_succ, List.replicate_succ, List.flatten_cons, List.flatten_cons]
    exact r.append (RVs.rep r n)
end

section
variable {pl : Pl} {X : Cx}
theorem op_bin_add : OpR X (binaryOp .Add) (rB pl X.K fun g => binop g .add) := by
  intro pins s σ H x y v u Q I rx ry h
  obtain ⟨ρ, g, dx, dy, z, H1, H2, rg, r1, r2, ez, q⟩ := h
  simp only [binop] at ez
  split at ez
  · cases ez
    obtain rfl := rx_int r1
    obtain rfl := rx_int r2
    exact op_add pins s σ H _ _ v u Q I rx ry ⟨_, _, rfl, rfl, q ρ H _ .refl rg (RX.int _)⟩
  · rename_i a b
    split at ez
    · rename_i hl
      cases ez
      obtain rfl := rx_str r1
      obtain rfl := rx_str r2
      refine op_add_str pins s σ H _ _ v u Q I rx ry ⟨_, _, rfl, rfl, by rw [toS_len, toS_len, ← line_eq]; exact hl, ?_⟩
      rw [toS_append]
      exact q ρ H _ .refl rg (RX.str _)
    · cases ez
  · rename_i a b
    split at ez
    · rename_i hl
      cases ez
      obtain ⟨p, xs, rfl, h1, k1⟩ := rx_tup r1
      obtain ⟨p', ys, rfl, h2, k2⟩ := rx_tup r2
      refine op_catA pins s σ H _ _ v u Q I rx ry ⟨p, p', xs, ys, rfl, rfl, .of h1, .of h2, by rw [k1.len, k2.len, ← line_eq]; exact hl, fun e => ?_, fun e e' => ?_, fun _ _ p n => new_tup rg (k1.append k2) q p n⟩
      · have e1 : a = [] := k1.eq_nil.mp e
        subst e1
        exact q ρ H _ .refl rg (RX.tup h2 k2)
      · have e1 : b = [] := k2.eq_nil.mp e'
        subst e1
        rw [List.append_nil] at q
        exact q ρ H _ .refl rg (RX.tup h1 k1)
    · cases ez
  · split at ez
    · rename_i a b e1 e2
      split at ez
      · rename_i hl
        cases ez
        obtain ⟨p, xs, rfl, h1, k1⟩ := listOf_ok rg r1 e1
        obtain ⟨p', ys, rfl, h2, k2⟩ := listOf_ok rg r2 e2
        exact op_cat pins s σ H _ _ v u Q I rx ry ⟨p, p', xs, ys, rfl, rfl, h1, h2, by rw [k1.len, k2.len, ← line_eq]; exact hl, fun p n => new_tmp rg (k1.append k2) q p n⟩
      · cases ez
    · cases ez
theorem op_bin_sub : OpR X (binaryOp .Sub) (rB pl X.K fun g => binop g .sub) := by
  intro pins s σ H x y v u Q I rx ry h
  obtain ⟨ρ, g, dx, dy, z, H1, H2, rg, r1, r2, ez, q⟩ := h
  simp only [binop] at ez
  split at ez
  · cases ez
    obtain rfl := rx_int r1
    obtain rfl := rx_int r2
    exact op_sub pins s σ H _ _ v u Q I rx ry ⟨_, _, rfl, rfl, q ρ H _ .refl rg (RX.int _)⟩
  · cases ez
theorem op_bin_mul : OpR X (binaryOp .Mult) (rB pl X.K fun g => binop g .mul) := by
  intro pins s σ H x y v u Q I rx ry h
  obtain ⟨ρ, g, dx, dy, z, H1, H2, rg, r1, r2, ez, q⟩ := h
  simp only [binop] at ez
  split at ez
  · rename_i j
    obtain rfl := rx_int r2
    split at ez
    · split at ez
      · rename_i hs
        cases ez
        obtain rfl := rx_int r1
        refine op_mul pins s σ H _ _ v u Q I rx ry ⟨_, _, rfl, rfl, ?_, q ρ H _ .refl rg (RX.int _)⟩
        rw [Bool.or_eq_true] at hs
        simp only [small, Bool.and_eq_true, decide_eq_true_eq] at hs
        exact hs
      · cases ez
    · split at ez
      · rename_i hs
        cases ez
        simp only [Bool.and_eq_true, decide_eq_true_eq] at hs
        obtain ⟨p, xs, rfl, h1, k1⟩ := rx_tup r1
        exact op_repT pins s σ H _ _ v u Q I rx ry ⟨p, j, xs, rfl, rfl, .of h1, fun e => hs.1.1.1 (k1.eq_nil.mp e), hs.1.1.2, hs.1.2, by rw [k1.len]; exact hs.2, fun p n => new_tup rg (k1.rep _) q p n⟩
      · cases ez
    · split at ez
      · rename_i e1
        split at ez
        · rename_i hs
          cases ez
          simp only [Bool.and_eq_true, decide_eq_true_eq] at hs
          obtain ⟨p, xs, rfl, h1, k1⟩ := listOf_ok rg r1 e1
          exact op_rep pins s σ H _ _ v u Q I rx ry ⟨p, j, xs, rfl, rfl, h1, by omega, by omega, by rw [k1.len, ← line_eq]; exact hs.2, fun p n => new_tmp rg (k1.rep _) q p n⟩
        · cases ez
      · cases ez
  · cases ez
theorem op_bin_fdiv : OpR X (binaryOp .FloorDiv) (rB pl X.K fun g => binop g .fdiv) := by
  intro pins s σ H x y v u Q I rx ry h
  obtain ⟨ρ, g, dx, dy, z, H1, H2, rg, r1, r2, ez, q⟩ := h
  simp only [binop] at ez
  split at ez
  · split at ez
    · rename_i hs
      cases ez
      simp only [Bool.and_eq_true, decide_eq_true_eq] at hs
      obtain rfl := rx_int r1
      obtain rfl := rx_int r2
      exact op_fdiv pins s σ H _ _ v u Q I rx ry ⟨_, _, rfl, rfl, hs, q ρ H _ .refl rg (RX.int _)⟩
    · cases ez
  · cases ez
theorem op_bin_mod : OpR X (binaryOp .Mod) (rB pl X.K fun g => binop g .mod) := by
  intro pins s σ H x y v u Q I rx ry h
  obtain ⟨ρ, g, dx, dy, z, H1, H2, rg, r1, r2, ez, q⟩ := h
  simp only [binop] at ez
  split at ez
  · split at ez
    · rename_i hs
      cases ez
      simp only [decide_eq_true_eq] at hs
      obtain rfl := rx_int r1
      obtain rfl := rx_int r2
      exact op_mod pins s σ H _ _ v u Q I rx ry ⟨_, _, rfl, rfl, hs, q ρ H _ .refl rg (RX.int _)⟩
    · cases ez
  · cases ez
theorem op_bin_pow : OpR X (binaryOp .Pow) (rB pl X.K fun g => binop g .pow) := by
  intro pins s σ H x y v u Q I rx ry h
  obtain ⟨ρ, g, dx, dy, z, H1, H2, rg, r1, r2, ez, q⟩ := h
  simp only [binop] at ez
  split at ez
  · split at ez
    · rename_i hs
      cases ez
      simp only [Bool.and_eq_true, decide_eq_true_eq] at hs
      obtain rfl := rx_int r1
      obtain rfl := rx_int r2
      exact op_pow pins s σ H _ _ v u Q I rx ry ⟨_, _, rfl, rfl, ⟨hs.1.1, hs.1.2, hs.2⟩, q ρ H _ .refl rg (RX.int _)⟩
    · cases ez
  · cases ez
end
end Sd
set_option Elab.async false
set_option linter.all false
set_option maxRecDepth 100000
set_option maxHeartbeats 1000000
/-! Snd4: comparisons by values, truth. -/
namespace Sd
open PySem PySem.Spec PyProof.Rows L2 Py

mutual
def toPy : D → PyData
  | .non => .none
  | .bl b => .bool b
  | .int i => .int i
  | .str x => .str (toS x)
  | .tup xs => .tuple (toPys xs)
  | .ls xs => .list (toPys xs)
  | .kt _ => .dict []
  | .ref _ => .dict []
def toPys : List D → List PyData
  | [] => []
  | x :: xs => toPy x :: toPys xs
end
mutual
theorem eqv_py : ∀ a b : D, PyData.eqv (toPy a) (toPy b) = eqv a b
  | .non, b => by cases b <;> simp [toPy, eqv, PyData.eqv]
  | .bl x, b => by
    cases b <;> simp [toPy, eqv, PyData.eqv]
    all_goals rw [Bool.beq_eq_decide_eq]
  | .int x, b => by
    cases b <;> simp [toPy, eqv, PyData.eqv]
    all_goals rw [Bool.beq_eq_decide_eq]
  | .str x, b => by
    cases b <;> simp [toPy, eqv, PyData.eqv]
    rename_i y
    rw [Bool.eq_iff_iff]
    simp [toS_eq]
  | .tup xs, b => by
    cases b <;> simp [toPy, eqv, PyData.eqv]
    exact eqvs_py xs _
  | .ls xs, b => by
    cases b <;> simp [toPy, eqv, PyData.eqv]
    exact eqvs_py xs _
  | .kt xs, b => by cases b <;> simp [toPy, eqv, PyData.eqv]
  | .ref n, b => by cases b <;> simp [toPy, eqv, PyData.eqv]
theorem eqvs_py : ∀ xs ys : List D, PyData.eqvAll (toPys xs) (toPys ys) = eqvs xs ys
  | [], [] => by simp [toPys, eqvs, PyData.eqvAll]
  | [], y :: ys => by simp [toPys, eqvs, PyData.eqvAll]
  | x :: xs, [] => by simp [toPys, eqvs, PyData.eqvAll]
  | x :: xs, y :: ys => by simp [toPys, eqvs, PyData.eqvAll, eqv_py x y, eqvs_py xs ys]
end
theorem any_py (t : D) : ∀ ts : List D, (toPys ts).any (fun z => PyData.eqv z (toPy t)) = ts.any fun z => eqv z t
  | [] => rfl
  | x :: xs => by simp [toPys, eqv_py, any_py t xs]
theorem strOk_toS (x : Tx) : PySem.PyData.strOk (toS x) = true ∨ True := .inr trivial

section
variable {pl : Pl} {K : PySem.W.Frag} {ρ ρ' : List Addr} {H H' H0 : Hp} {g : G} {a : Addr} {v : V}
/-- a resolved tree: HandS's data, well laid, at most n deep -/
structure Tree (K : PySem.W.Frag) (H : Hp) (v : V) (t : D) (n : Nat) : Prop where
  dp : Dp K H v (toPy t)
  lay : (toPy t).canLay0 = true
  dep : (toPy t).depth ≤ n
structure Trees (K : PySem.W.Frag) (H : Hp) (vs : List V) (ts : List D) (n : Nat) : Prop where
  dp : DpAll K H vs (toPys ts)
  lay : PyData.canLayAll0 (toPys ts) = true
  dep : PyData.depthAll (toPys ts) ≤ n
theorem trL_ok {f : D → Option D} {n : Nat} (hf : ∀ d v t, RV K ρ H d v → f d = some t → Tree K H v t n) : ∀ {ds : List D} {vs : List V} {ts : List D}, RVs K ρ H ds vs → trL f ds = some ts → Trees K H vs ts n
  | [], vs, ts, r, e => by
    rw [RVs] at r
    subst r
    cases e
    exact ⟨.nil, by simp [toPys, PyData.canLayAll0], by simp [toPys, PyData.depthAll]⟩
  | d :: ds, vs, ts, r, e => by
    rw [RVs] at r
    obtain ⟨v, vr, rfl, q, r⟩ := r
    unfold trL at e
    split at e
    · rename_i y ys e1 e2
      cases e
      have h1 := hf d v y q e1
      have h2 := trL_ok hf r e2
      exact ⟨.cons h1.dp h2.dp, by simp [toPys, PyData.canLayAll0, h1.lay, h2.lay], by simp only [toPys, PyData.depthAll]; exact Nat.max_le.mpr ⟨h1.dep, h2.dep⟩⟩
    · cases e
theorem tr_ok (rg : RG pl K ρ H g) : ∀ (n : Nat) (d : D) (v : V) (t : D), RV K ρ H d v → tr g n d = some t → Tree K H v t n
  | 0, d, v, t, r, e => by cases e
  | n + 1, d, v, t, r, e => by
    have ih := tr_ok rg n
    cases d with
    | non => cases e; obtain rfl := rv_non r; exact ⟨.non, by simp [toPy, PyData.canLay0], by simp [toPy, PyData.depth]⟩
    | bl b => cases e; obtain rfl := rv_bl r; exact ⟨.bl b, by simp [toPy, PyData.canLay0], by simp [toPy, PyData.depth]⟩
    | int i => cases e; obtain rfl := rv_int r; exact ⟨.int i, by simp [toPy, PyData.canLay0], by simp [toPy, PyData.depth]⟩
    | str x =>
      cases e
      obtain rfl := rv_str r
      refine ⟨.str _, ?_, by simp [toPy, PyData.depth]⟩
      simp only [toPy, PyData.canLay0, PyData.strOk, toS]
      rw [← Array.all_toList]
      simp only [List.all_map, List.all_eq_true, Function.comp, decide_eq_true_eq]
      intro c _
      have := c.valid
      simp only [UInt32.isValidChar, Nat.isValidChar] at this
      show c.val.toNat < _
      omega
    | tup xs =>
      obtain ⟨a, vs, rfl, h, k⟩ := rv_tup r
      cases e1 : trL (tr g n) xs with
      | none => simp only [tr, e1, Option.map_none] at e; cases e
      | some ts =>
        simp only [tr, e1, Option.map_some] at e
        cases e
        have q := trL_ok ih k e1
        exact ⟨.tup (.of h) q.dp, by simp [toPy, PyData.canLay0, q.lay], by simp only [toPy, PyData.depth]; have := q.dep; omega⟩
    | kt xs =>
      obtain ⟨a, vs, rfl, h, k⟩ := rv_kt r
      cases e1 : trL (tr g n) xs with
      | none => simp only [tr, e1, Option.map_none] at e; cases e
      | some ts =>
        simp only [tr, e1, Option.map_some] at e
        cases e
        have q := trL_ok ih k e1
        exact ⟨.tup h q.dp, by simp [toPy, PyData.canLay0, q.lay], by simp only [toPy, PyData.depth]; have := q.dep; omega⟩
    | ls xs => cases e
    | ref m =>
      simp only [tr] at e
      split at e
      · rename_i xs eg
        obtain ⟨a, rfl, _, vs, h, k⟩ := ref_obj rg r eg
        cases e1 : trL (tr g n) xs with
        | none => simp only [e1, Option.map_none] at e; cases e
        | some ts =>
          simp only [e1, Option.map_some] at e
          cases e
          have q := trL_ok ih k e1
          exact ⟨.lst (.of h) q.dp, by simp [toPy, PyData.canLay0, q.lay], by simp only [toPy, PyData.depth]; have := q.dep; omega⟩
      · cases e
theorem trX_ok (rg : RG pl K ρ H g) {x : XV} {t : D} (r : RX K ρ H0 H v x) (e : trX g x = some t) : Tree K H v t 60 := by
  cases x with
  | d d => exact tr_ok rg 60 d v t r e
  | tmp xs =>
    obtain ⟨a, vs, rfl, h, k, _⟩ := r
    cases e1 : trL (tr g 59) xs with
    | none => simp only [trX, e1, Option.map_none] at e; cases e
    | some ts =>
      simp only [trX, e1, Option.map_some] at e
      cases e
      have q := trL_ok (tr_ok rg 59) k e1
      exact ⟨.lst (.of h) q.dp, by simp [toPy, PyData.canLay0, q.lay], by simp only [toPy, PyData.depth]; have := q.dep; omega⟩
theorem Tree.shaped {t : D} {n : Nat} (h : Tree K H v t n) (hn : n ≤ 64) : SeqAt.shaped (toPy t) = true := by
  unfold SeqAt.shaped
  rw [h.lay, decide_eq_true (Nat.le_trans h.dep hn)]
  rfl
end

/-! ### comparisons -/
def rC (pl : Pl) (K : PySem.W.Frag) (f : G → XV → XV → Option Bool) : R2 := fun v u H Q => ∃ ρ g x y b H1 H2, RG pl K ρ H g ∧ RX K ρ H1 H v x ∧ RX K ρ H2 H u y ∧ f g x y = some b ∧ Q (.bl b) H

theorem lexLt_ok : ∀ a b : Tx, decide ((toS a).cps.toList < (toS b).cps.toList) = lexLt a b := by
  have h : ∀ a b : Tx, decide (a.map Char.toNat < b.map Char.toNat) = lexLt a b := by
    intro a
    induction a with
    | nil => intro b; cases b <;> simp [Py.lexLt]
    | cons x a ih =>
      intro b
      cases b with
      | nil => simp [Py.lexLt]
      | cons y b =>
        have i := ih b
        simp only [List.map_cons, List.cons_lt_cons_iff, Py.lexLt]
        by_cases h1 : x.toNat < y.toNat
        · simp [h1]
        · by_cases h2 : y.toNat < x.toNat
          · simp [h1, h2, Nat.ne_of_gt h2]
          · have e : x.toNat = y.toNat := by omega
            simp only [h1, h2, e, if_false, false_or, true_and]
            simpa using i
  intro a b
  rw [← h a b]
  exact decide_eq_decide.mpr (by simp [toS])

section
variable {pl : Pl} {X : Cx}
theorem op_cmp_eq (hu : X.A.units + 66 < cLine) : OpR X (compareOp .Eq) (rC pl X.K fun g => cmpop g .eq) := by
  intro pins s σ H x y v u Q I rx ry h
  obtain ⟨ρ, g, dx, dy, b, H1, H2, rg, r1, r2, eb, q⟩ := h
  simp only [cmpop] at eb
  split at eb
  · rename_i ta tb e1 e2
    cases eb
    have t1 := trX_ok rg r1 e1
    have t2 := trX_ok rg r2 e2
    exact op_eqD (by omega) pins s σ H _ _ v u Q I rx ry ⟨_, _, t1.dp, t2.dp, t1.shaped (by decide), t2.shaped (by decide), by rw [eqv_py]; exact q⟩
  · cases eb
theorem op_cmp_ne (hu : X.A.units + 66 < cLine) : OpR X (compareOp .NotEq) (rC pl X.K fun g => cmpop g .ne) := by
  intro pins s σ H x y v u Q I rx ry h
  obtain ⟨ρ, g, dx, dy, b, H1, H2, rg, r1, r2, eb, q⟩ := h
  simp only [cmpop] at eb
  split at eb
  · rename_i ta tb e1 e2
    cases eb
    have t1 := trX_ok rg r1 e1
    have t2 := trX_ok rg r2 e2
    exact op_neD (by omega) pins s σ H _ _ v u Q I rx ry ⟨_, _, t1.dp, t2.dp, t1.shaped (by decide), t2.shaped (by decide), by rw [eqv_py]; exact q⟩
  · cases eb
theorem op_cmp_lt : OpR X (compareOp .Lt) (rC pl X.K fun g => cmpop g .lt) := by
  intro pins s σ H x y v u Q I rx ry h
  obtain ⟨ρ, g, dx, dy, b, H1, H2, rg, r1, r2, eb, q⟩ := h
  simp only [cmpop] at eb
  split at eb
  · cases eb
    obtain rfl := rx_int r1
    obtain rfl := rx_int r2
    exact op_lt pins s σ H _ _ v u Q I rx ry ⟨_, _, rfl, rfl, q⟩
  · cases eb
    obtain rfl := rx_str r1
    obtain rfl := rx_str r2
    exact op_lt_str pins s σ H _ _ v u Q I rx ry ⟨_, _, rfl, rfl, by rw [lexLt_ok]; exact q⟩
  · cases eb
theorem op_cmp_le : OpR X (compareOp .LtE) (rC pl X.K fun g => cmpop g .le) := by
  intro pins s σ H x y v u Q I rx ry h
  obtain ⟨ρ, g, dx, dy, b, H1, H2, rg, r1, r2, eb, q⟩ := h
  simp only [cmpop] at eb
  split at eb
  · cases eb
    obtain rfl := rx_int r1
    obtain rfl := rx_int r2
    exact op_le pins s σ H _ _ v u Q I rx ry ⟨_, _, rfl, rfl, q⟩
  · cases eb
    obtain rfl := rx_str r1
    obtain rfl := rx_str r2
    exact op_le_str pins s σ H _ _ v u Q I rx ry ⟨_, _, rfl, rfl, by rw [lexLt_ok]; exact q⟩
  · cases eb
theorem op_cmp_gt : OpR X (compareOp .Gt) (rC pl X.K fun g => cmpop g .gt) := by
  intro pins s σ H x y v u Q I rx ry h
  obtain ⟨ρ, g, dx, dy, b, H1, H2, rg, r1, r2, eb, q⟩ := h
  simp only [cmpop] at eb
  split at eb
  · cases eb
    obtain rfl := rx_int r1
    obtain rfl := rx_int r2
    exact op_gt pins s σ H _ _ v u Q I rx ry ⟨_, _, rfl, rfl, q⟩
  · cases eb
    obtain rfl := rx_str r1
    obtain rfl := rx_str r2
    exact op_gt_str pins s σ H _ _ v u Q I rx ry ⟨_, _, rfl, rfl, by rw [lexLt_ok]; exact q⟩
  · cases eb
theorem op_cmp_ge : OpR X (compareOp .GtE) (rC pl X.K fun g => cmpop g .ge) := by
  intro pins s σ H x y v u Q I rx ry h
  obtain ⟨ρ, g, dx, dy, b, H1, H2, rg, r1, r2, eb, q⟩ := h
  simp only [cmpop] at eb
  split at eb
  · cases eb
    obtain rfl := rx_int r1
    obtain rfl := rx_int r2
    exact op_ge pins s σ H _ _ v u Q I rx ry ⟨_, _, rfl, rfl, q⟩
  · cases eb
    obtain rfl := rx_str r1
    obtain rfl := rx_str r2
    exact op_ge_str pins s σ H _ _ v u Q I rx ry ⟨_, _, rfl, rfl, by rw [lexLt_ok]; exact q⟩
  · cases eb
theorem rx_isnone {K : PySem.W.Frag} {ρ : List Addr} {H0 H : Hp} {v : V} {a : D} (r : RX K ρ H0 H v (.d a)) : decide (v = .non) = a.isNon := by
  have r : RV K ρ H a v := r
  cases a with
  | non => obtain rfl := rv_non r; rfl
  | bl b => obtain rfl := rv_bl r; simp [D.isNon]
  | int b => obtain rfl := rv_int r; simp [D.isNon]
  | str b => obtain rfl := rv_str r; simp [D.isNon]
  | tup b => obtain ⟨_, _, rfl, _⟩ := rv_tup r; simp [D.isNon]
  | kt b => obtain ⟨_, _, rfl, _⟩ := rv_kt r; simp [D.isNon]
  | ls b => obtain ⟨_, _, rfl, _⟩ := rv_ls r; simp [D.isNon]
  | ref b => obtain ⟨_, rfl, _⟩ := rv_ref r; simp [D.isNon]
theorem op_cmp_is : OpR X (compareOp .Is) (rC pl X.K fun g => cmpop g .is) := by
  intro pins s σ H x y v u Q I rx ry h
  obtain ⟨ρ, g, dx, dy, b, H1, H2, rg, r1, r2, eb, q⟩ := h
  simp only [cmpop] at eb
  split at eb
  · cases eb
    obtain rfl := rx_non r2
    exact op_isN pins s σ H _ _ v u Q I rx ry ⟨rfl, by rw [rx_isnone r1]; exact q⟩
  · cases eb
    obtain rfl := rx_bl r1
    obtain rfl := rx_bl r2
    exact op_isBl pins s σ H _ _ v u Q I rx ry ⟨_, _, rfl, rfl, by rw [← Bool.beq_eq_decide_eq]; exact q⟩
  · cases eb
theorem op_cmp_isnt : OpR X (compareOp .IsNot) (rC pl X.K fun g => cmpop g .isnt) := by
  intro pins s σ H x y v u Q I rx ry h
  obtain ⟨ρ, g, dx, dy, b, H1, H2, rg, r1, r2, eb, q⟩ := h
  simp only [cmpop] at eb
  split at eb
  · rename_i a
    cases eb
    obtain rfl := rx_non r2
    exact op_notN pins s σ H _ _ v u Q I rx ry ⟨rfl, by rw [rx_isnone r1]; exact q⟩
  · cases eb
    obtain rfl := rx_bl r1
    obtain rfl := rx_bl r2
    exact op_notBl pins s σ H _ _ v u Q I rx ry ⟨_, _, rfl, rfl, by rw [← Bool.beq_eq_decide_eq]; exact q⟩
  · cases eb

/-! ### dicts -/
theorem kyT_inj {a b : KY} (h : kyT a = kyT b) : a = b := by
  cases a <;> cases b <;> simp only [kyT] at h
  · cases h; rfl
  · cases h
  · cases h
  · rw [Sum.inr.injEq] at h; rw [toS_inj h]
theorem kyTs_inj {a b : List KY} (h : a.map kyT = b.map kyT) : a = b := by
  induction a generalizing b with
  | nil => cases b with
    | nil => rfl
    | cons _ _ => cases h
  | cons x a ih => cases b with
    | nil => cases h
    | cons y b =>
      simp only [List.map_cons, List.cons.injEq] at h
      rw [kyT_inj h.1, ih h.2]
/-- an entry, there or not -/
def OR (K : PySem.W.Frag) (ρ : List Addr) (H : Hp) : Option D → Option V → Prop
  | some d, r => ∃ v, r = some v ∧ RV K ρ H d v
  | none, r => r = none
theorem OR.isSome {K : PySem.W.Frag} {ρ : List Addr} {H : Hp} {o : Option D} {r : Option V} (h : OR K ρ H o r) : r.isSome = o.isSome := by
  cases o with
  | none => rw [show r = none from h]; rfl
  | some d => obtain ⟨v, e, _⟩ := h; rw [e]; rfl
theorem look_ok {κ κ' : Type} [DecidableEq κ] [DecidableEq κ'] {K : PySem.W.Frag} {ρ : List Addr} {H : Hp} (f : κ → κ') (inj : ∀ a b, f a = f b → a = b) (k : κ) : ∀ {kvs : List (κ × D)} {vs : List (κ' × V)}, vs.map (·.1) = kvs.map (fun p => f p.1) → RVs K ρ H (kvs.map (·.2)) (vs.map (·.2)) →
    OR K ρ H (look k kvs) (valV vs (f k))
  | [], vs, h, _ => by
    have : vs = [] := by simpa using h
    subst this
    exact valV_nil
  | (j, d) :: r, vs, h, q => by
    cases vs with
    | nil => simp at h
    | cons p vs =>
      simp only [List.map_cons, List.cons.injEq] at h
      simp only [List.map_cons] at q
      rw [RVs] at q
      obtain ⟨v, vr, e, q1, q2⟩ := q
      simp only [List.cons.injEq] at e
      obtain ⟨rfl, rfl⟩ := e
      have ih := look_ok f inj k h.2 q2
      unfold look
      by_cases hk : j = k
      · subst hk
        rw [if_pos rfl]
        exact ⟨p.2, valV_pos h.1, q1⟩
      · rw [if_neg hk]
        have : ¬ p.1 = f k := fun e => hk (inj _ _ (h.1.symm.trans e))
        rw [valV_neg this]
        exact ih
theorem kyOf_ok {K : PySem.W.Frag} {ρ : List Addr} {H : Hp} {d : D} {v : V} {k : KY} (r : RV K ρ H d v) (e : kyOf d = some k) : v = kV (kyT k) := by
  cases d <;> simp only [kyOf] at e <;> cases e
  · obtain rfl := rv_int r; rfl
  · obtain rfl := rv_str r; rfl
theorem keysOf_ok {K : PySem.W.Frag} {ρ : List Addr} {H : Hp} : ∀ {ds : List D} {vs : List V} {ks : List KY}, RVs K ρ H ds vs → keysOf ds = some ks → vs = (ks.map kyT).map kV
  | [], vs, ks, r, e => by rw [RVs] at r; subst r; cases e; rfl
  | d :: ds, vs, ks, r, e => by
    rw [RVs] at r
    obtain ⟨v, vr, rfl, q, r⟩ := r
    unfold keysOf at e
    split at e
    · rename_i k ks' e1 e2
      cases e
      rw [kyOf_ok q e1, keysOf_ok r e2]
      rfl
    · cases e
/-- what a dict says of a key -/
theorem dget_ok {K : PySem.W.Frag} {ρ : List Addr} {H H1 : Hp} {g : G} {d : D} {v u : V} {y : XV} (rg : RG pl K ρ H g) (rd : RX K ρ H1 H u y) (rk : RV K ρ H d v) {o : Option D}
    (e : (∃ kvs k, keyed g y = some (.inl kvs) ∧ kyOf d = some k ∧ o = look k kvs) ∨ (∃ kvs ds k, keyed g y = some (.inr kvs) ∧ d = .tup ds ∧ keysOf ds = some k ∧ o = look k kvs)) :
    ∃ a r, u = .ref a ∧ DGet H a v r ∧ OR K ρ H o r := by
  have inv : ∀ {z}, keyed g y = some z → ∃ n, y = .d (.ref n) ∧ ((∃ kvs, g[n]? = some (.dk kvs) ∧ z = .inl kvs) ∨ ∃ kvs, g[n]? = some (.dt kvs) ∧ z = .inr kvs) := by
    intro z e
    cases y with
    | tmp xs => simp [keyed] at e
    | d d =>
      cases d with
      | ref n =>
        refine ⟨n, rfl, ?_⟩
        simp only [keyed] at e
        cases h : g[n]? with
        | none => rw [h] at e; cases e
        | some o =>
          rw [h] at e
          cases o with
          | dk kvs => cases e; exact .inl ⟨kvs, rfl, rfl⟩
          | dt kvs => cases e; exact .inr ⟨kvs, rfl, rfl⟩
          | lst xs => cases e
          | ins C fs => cases e
      | _ => simp [keyed] at e
  rcases e with ⟨kvs, k, e1, e2, rfl⟩ | ⟨kvs, ds, k, e1, rfl, e2, rfl⟩
  · obtain ⟨n, rfl, ⟨kvs', eg, ez⟩ | ⟨kvs', eg, ez⟩⟩ := inv e1 <;> cases ez
    obtain ⟨a, rfl, _, vs, h, hk, q⟩ := rx_obj rg rd eg
    rw [kyOf_ok rk e2]
    exact ⟨a, _, rfl, .k h, look_ok kyT (fun _ _ => kyT_inj) k hk q⟩
  · obtain ⟨n, rfl, ⟨kvs', eg, ez⟩ | ⟨kvs', eg, ez⟩⟩ := inv e1 <;> cases ez
    obtain ⟨a, rfl, _, vs, h, hk, q⟩ := rx_obj rg rd eg
    obtain ⟨b, xs, rfl, hb, qb⟩ := rv_tup rk
    rw [keysOf_ok qb e2] at hb
    exact ⟨a, _, rfl, .t h hb, look_ok (fun ks : List KY => ks.map kyT) (fun _ _ => kyTs_inj) k hk q⟩
theorem mem_toS {c : Char} {z : Tx} : (c.toNat ∈ (toS z).cps.toList) ↔ c ∈ z := by
  simp only [toS, List.mem_map]
  constructor
  · rintro ⟨d, hd, e⟩
    have : d = c := Char.ext (UInt32.toNat_inj.mp e)
    rwa [← this]
  · intro h
    exact ⟨c, h, rfl⟩
theorem isin_ok (hu : X.A.units + 66 < cLine) {pins : List (Addr × Obj)} {s : Shared} {σ : L2.St} {H H2 : Hp} {x y : V} {v u : Value} {ρ : List Addr} {g : G} {dx : D} {dy : XV} {b : Bool} (I : Inv X pins σ H s) (rx : RelV x v) (ry : RelV y u)
    (rg : RG pl X.K ρ H g) (r1 : RV X.K ρ H dx x) (r2 : RX X.K ρ H2 H y dy) (e : isin g dx dy = some b) :
    (∀ Q : VK, Q (.bl b) H → wpAny (model X.prog X.w) X.A (compareOp .In v u) (EP X pins σ Q) X.xe s) ∧ ∀ Q : VK, Q (.bl (!b)) H → wpAny (model X.prog X.w) X.A (compareOp .NotIn v u) (EP X pins σ Q) X.xe s := by
  unfold isin at e
  split at e
  · rename_i z
    split at e
    · rename_i c
      cases e
      obtain rfl := rv_str r1
      obtain rfl := rx_str r2
      have h1 : toS [c] = ⟨#[c.toNat]⟩ := rfl
      refine ⟨fun Q q => op_in_sign pins s σ H _ _ v u Q I rx ry ⟨c.toNat, toS z, by rw [h1], rfl, ?_⟩, fun Q q => op_notIn_sign pins s σ H _ _ v u Q I rx ry ⟨c.toNat, toS z, by rw [h1], rfl, ?_⟩⟩
      · simpa only [mem_toS] using q
      · simpa only [mem_toS] using q
    · cases e
  · split at e
    · rename_i kvs ek
      cases e1 : kyOf dx with
      | none => rw [e1] at e; cases e
      | some k =>
        rw [e1] at e
        cases e
        obtain ⟨a, r, rfl, dg, hr⟩ := dget_ok rg r2 r1 (o := look k kvs) (.inl ⟨kvs, k, ek, e1, rfl⟩)
        obtain rfl : u = Value.ref a := ry
        have hs := hr.isSome
        refine ⟨fun Q q => d_in (by omega) I dg rx fun s3 I3 => ⟨.bl _, H, I3, rfl, by rw [hs]; exact q⟩, fun Q q => d_notIn (by omega) I dg rx fun s3 I3 => ⟨.bl _, H, I3, rfl, by rw [hs]; exact q⟩⟩
    · rename_i kvs ek
      split at e
      · rename_i ds
        cases e1 : keysOf ds with
        | none => rw [e1] at e; cases e
        | some k =>
          rw [e1] at e
          cases e
          obtain ⟨a, r, rfl, dg, hr⟩ := dget_ok rg r2 r1 (o := look k kvs) (.inr ⟨kvs, ds, k, ek, rfl, e1, rfl⟩)
          obtain rfl : u = Value.ref a := ry
          have hs := hr.isSome
          refine ⟨fun Q q => d_in (by omega) I dg rx fun s3 I3 => ⟨.bl _, H, I3, rfl, by rw [hs]; exact q⟩, fun Q q => d_notIn (by omega) I dg rx fun s3 I3 => ⟨.bl _, H, I3, rfl, by rw [hs]; exact q⟩⟩
      · cases e
    · have fin : ∀ {t : D} {ts : List D} {n m : Nat}, Tree X.K H x t n → n ≤ 60 → ∀ (d : PyData), (d = .tuple (toPys ts) ∨ d = .list (toPys ts)) → Dp X.K H y d → PyData.canLayAll0 (toPys ts) = true → 
          (∀ Q : VK, Q (.bl (ts.any fun z => eqv z t)) H → wpAny (model X.prog X.w) X.A (compareOp .In v u) (EP X pins σ Q) X.xe s) ∧ ∀ Q : VK, Q (.bl (!(ts.any fun z => eqv z t))) H → wpAny (model X.prog X.w) X.A (compareOp .NotIn v u) (EP X pins σ Q) X.xe s := by
        intro t ts n m h1 hn d hd hp hl
        obtain ⟨as, q1⟩ := Dp.reads I _ x v h1.dp rx
        obtain ⟨bs, q2⟩ := Dp.reads I d y u hp ry
        have hd1 := h1.dep
        have room : X.A.units + 1 + min (PyData.depthAll (toPys ts)) (toPy t).depth < cLine := by
          have := Nat.min_le_right (PyData.depthAll (toPys ts)) (toPy t).depth
          omega
        rcases hd with rfl | rfl
        · exact ⟨fun Q q => SeqAt.in_tuple_reads q2 q1 hl h1.lay room ⟨.bl _, H, I, rfl, by rw [any_py]; exact q⟩, fun Q q => SeqAt.notIn_tuple_reads q2 q1 hl h1.lay room ⟨.bl _, H, I, rfl, by rw [any_py]; exact q⟩⟩
        · exact ⟨fun Q q => SeqAt.in_list_reads q2 q1 hl h1.lay room ⟨.bl _, H, I, rfl, by rw [any_py]; exact q⟩, fun Q q => SeqAt.notIn_list_reads q2 q1 hl h1.lay room ⟨.bl _, H, I, rfl, by rw [any_py]; exact q⟩⟩
      split at e
      · rename_i t ts e1 e2
        cases e
        have t1 := tr_ok rg 60 dx x t r1 e1
        have t2 := trX_ok rg r2 e2
        have l2 := t2.lay
        simp only [toPy, PyData.canLay0] at l2
        exact fin (n := 60) (m := 0) t1 (by decide) _ (.inl (by simp only [toPy])) t2.dp l2
      · rename_i t ts e1 e2
        cases e
        have t1 := tr_ok rg 60 dx x t r1 e1
        have t2 := trX_ok rg r2 e2
        have l2 := t2.lay
        simp only [toPy, PyData.canLay0] at l2
        exact fin (n := 60) (m := 0) t1 (by decide) _ (.inr (by simp only [toPy])) t2.dp l2
      · cases e
theorem op_cmp_in (hu : X.A.units + 66 < cLine) : OpR X (compareOp .In) (rC pl X.K fun g => cmpop g .isin) := by
  intro pins s σ H x y v u Q I rx ry h
  obtain ⟨ρ, g, dx, dy, b, H1, H2, rg, r1, r2, eb, q⟩ := h
  simp only [cmpop] at eb
  split at eb
  · exact (isin_ok hu I rx ry rg r1 r2 eb).1 Q q
  · cases eb
theorem op_cmp_notin (hu : X.A.units + 66 < cLine) : OpR X (compareOp .NotIn) (rC pl X.K fun g => cmpop g .notin) := by
  intro pins s σ H x y v u Q I rx ry h
  obtain ⟨ρ, g, dx, dy, b, H1, H2, rg, r1, r2, eb, q⟩ := h
  simp only [cmpop] at eb
  split at eb
  · rename_i a
    cases e : isin g a dy with
    | none => rw [e] at eb; cases eb
    | some b' =>
      rw [e] at eb
      cases eb
      exact (isin_ok hu I rx ry rg r1 r2 e).2 Q q
  · cases eb

/-! ### truth -/
theorem truth_ok {K : PySem.W.Frag} {ρ : List Addr} {H H1 : Hp} {g : G} {v : V} {x : XV} {b : Bool} (rg : RG pl K ρ H g) (r : RX K ρ H1 H v x) (e : truth g x = some b) : TruV K v H b := by
  have ie : ∀ {ds : List D} {vs : List V}, RVs K ρ H ds vs → (!ds.isEmpty) = !vs.isEmpty := by
    intro ds vs q
    have := q.len
    cases ds <;> cases vs <;> simp_all
  unfold truth at e
  split at e
  · cases e
    obtain ⟨a, vs, rfl, h, k, _⟩ := r
    exact .inl ⟨vs, .of h, ie k⟩
  · cases e; obtain rfl := rx_non r; rfl
  · cases e; obtain rfl := rx_bl r; rfl
  · cases e; obtain rfl := rx_int r; rfl
  · rename_i x
    split at e
    · rename_i hl
      cases e
      obtain rfl := rx_str r
      refine ⟨by rw [toS_len, ← line_eq]; exact hl, ?_⟩
      rw [toS_len]
      cases x with
      | nil => rfl
      | cons c x =>
        show true = _
        simp
        omega
    · cases e
  · cases e
    obtain ⟨a, vs, rfl, h, k⟩ := rx_tup r
    exact .inr (.inl ⟨vs, .of h, ie k⟩)
  · cases e
    obtain ⟨a, vs, rfl, h, k⟩ := rx_ls r
    exact .inl ⟨vs, h.sq, ie k⟩
  · cases e
    obtain ⟨a, vs, rfl, h, k⟩ := rx_kt r
    exact .inr (.inl ⟨vs, h, ie k⟩)
  · split at e
    · rename_i eg
      cases e
      obtain ⟨a, rfl, _, vs, h, k⟩ := rx_obj rg r eg
      exact .inl ⟨vs, .of h, ie k⟩
    · rename_i kvs eg
      cases e
      obtain ⟨a, rfl, _, vs, h, hk, k⟩ := rx_obj rg r eg
      refine .inr (.inr ⟨vs, h, ?_⟩)
      have := congrArg List.length hk
      simp only [List.length_map] at this
      cases kvs <;> cases vs <;> simp_all
    · cases e
end
end Sd
set_option Elab.async false
set_option linter.all false
set_option maxRecDepth 100000
set_option maxHeartbeats 1000000
/-! Snd5: expressions' rules: operators, comparisons, truth, displays. -/
namespace Sd
open PySem PySem.Spec PyProof.Rows L2 Py

def opOf : BOp → Operator
  | .add => .Add | .sub => .Sub | .mul => .Mult | .fdiv => .FloorDiv | .mod => .Mod | .pow => .Pow
def copOf : COp → CmpOp
  | .eq => .Eq | .ne => .NotEq | .lt => .Lt | .le => .LtE | .gt => .Gt | .ge => .GtE | .is => .Is | .isnt => .IsNot | .isin => .In | .notin => .NotIn

section
variable {T : Tb} {pl : Pl} {X : Cx} {k : Nat} {N : List Str} {sc : Scope} {W : WX} {ia ib ic : E} {a b c : Expr} {pos : Pos}
theorem Good.hu (G : Good T pl k N sc W X) : X.A.units + 66 < cLine := G.un

theorem op_bin (o : BOp) : OpR X (binaryOp (opOf o)) (rB pl X.K fun g => binop g o) := by
  cases o
  · exact op_bin_add
  · exact op_bin_sub
  · exact op_bin_mul
  · exact op_bin_fdiv
  · exact op_bin_mod
  · exact op_bin_pow
theorem op_cmp (hu : X.A.units + 66 < cLine) (o : COp) : OpR X (compareOp (copOf o)) (rC pl X.K fun g => cmpop g o) := by
  cases o
  · exact op_cmp_eq hu
  · exact op_cmp_ne hu
  · exact op_cmp_lt
  · exact op_cmp_le
  · exact op_cmp_gt
  · exact op_cmp_ge
  · exact op_cmp_is
  · exact op_cmp_isnt
  · exact op_cmp_in hu
  · exact op_cmp_notin hu
theorem s_bin {o : BOp} (ha : PE X a (tE T pl X.K k W ia)) (hb : PE X b (tE T pl X.K k W ib)) : PE X (.BinOp a (opOf o) b pos) (tE T pl X.K k W (.bin o ia ib)) := by
  refine ⟨fun pins s σ H Q I h => (s_bin2 (f := fun g => binop g o) rfl (pe_op (op_bin o) ha hb)).run pins s σ H Q I ?_⟩
  obtain ⟨ρ, L, g, rl, rg, h⟩ := h
  rw [ev] at h
  exact ⟨ρ, L, g, rl, rg, h⟩
theorem s_neg (ha : PE X a (tE T pl X.K k W ia)) : PE X (.UnaryOp .USub a pos) (tE T pl X.K k W (.neg ia)) := by
  refine ⟨fun pins s σ H Q I h => (pe_un un_neg ha).run pins s σ H Q I ?_⟩
  obtain ⟨ρ, L, g, rl, rg, h⟩ := h
  rw [ev] at h
  refine ⟨ρ, L, g, rl, rg, (h.bind (Rel := relX X.K) since_X).imp fun v H1 ⟨ρ1, x, g1, e1, rg1, rx, h⟩ => ?_⟩
  split at h
  · rename_i i
    exact ⟨i, rx_int rx, h ρ1 H1 _ .refl rg1 (RX.int _)⟩
  · exact h.elim
/-- an end that gives a truth -/
theorem Po.bool {K : PySem.W.Frag} {ρ : List Addr} {H : Hp} {Wx : Wish} {Q : VK} {o : Option Bool} {g : G} (rg : RG pl K ρ H g) (h : Po pl K (relX K) ρ H Wx Q (Py.ofO (o.map fun b => XV.d (.bl b)) g)) : ∃ b, o = some b ∧ Q (.bl b) H := by
  cases o with
  | none => exact h.elim
  | some b => exact ⟨b, rfl, h ρ H (.bl b) .refl rg (RX.bl b)⟩
theorem s_cmp {o : COp} (hu : X.A.units + 66 < cLine) (ha : PE X a (tE T pl X.K k W ia)) (hb : PE X b (tE T pl X.K k W ib)) (hm : behindInMarks (copOf o) b = false) : PE X (.Compare a [copOf o] [b] pos) (tE T pl X.K k W (.cmp o ia ib)) := by
  refine ⟨fun pins s σ H Q I h => (pe_cmpR (op_cmp (pl := pl) hu o) ha hb hm).run pins s σ H Q I ?_⟩
  obtain ⟨ρ, L, g, rl, rg, h⟩ := h
  rw [ev] at h
  refine ⟨ρ, L, g, rl, rg, (h.bind (Rel := relX X.K) since_X).imp fun v H1 ⟨ρ1, x, g1, e1, rg1, rx, h⟩ => ?_⟩
  refine ⟨ρ1, L, g1, rl.mono e1, rg1, (h.bind (Rel := relX X.K) since_X).imp fun u H2 ⟨ρ2, y, g2, e2, rg2, ry, h⟩ => ?_⟩
  obtain ⟨z, ez, h⟩ := h.bool rg2
  exact ⟨ρ2, g2, x, y, z, H, H1, rg2, rx.mono e2, ry, ez, h⟩
theorem s_cmp2 {o o' : COp} (hu : X.A.units + 66 < cLine) (ha : PE X a (tE T pl X.K k W ia)) (hb : PE X b (tE T pl X.K k W ib)) (hc : PE X c (tE T pl X.K k W ic)) (hm : lastMarks [copOf o, copOf o'] [b, c] = false) : PE X (.Compare a [copOf o, copOf o'] [b, c] pos) (tE T pl X.K k W (.cmp2 o o' ia ib ic)) := by
  refine ⟨fun pins s σ H Q I h => (pe_chain (op_cmp (pl := pl) hu o) (op_cmp (pl := pl) hu o') ha hb hc hm).run pins s σ H Q I ?_⟩
  obtain ⟨ρ, L, g, rl, rg, h⟩ := h
  rw [ev] at h
  refine ⟨ρ, L, g, rl, rg, (h.bind (Rel := relX X.K) since_X).imp fun v H1 ⟨ρ1, x, g1, e1, rg1, rx, h⟩ => ?_⟩
  refine ⟨ρ1, L, g1, rl.mono e1, rg1, (h.bind (Rel := relX X.K) since_X).imp fun u H2 ⟨ρ2, y, g2, e2, rg2, ry, h⟩ => ?_⟩
  split at h
  · rename_i ez
    refine ⟨ρ2, g2, x, y, true, H, H1, rg2, rx.mono e2, ry, ez, true, rfl, ?_⟩
    rw [if_pos rfl]
    refine ⟨ρ2, L, g2, (rl.mono e1).mono e2, rg2, (h.bind (Rel := relX X.K) since_X).imp fun w H3 ⟨ρ3, z, g3, e3, rg3, rz, h⟩ => ?_⟩
    obtain ⟨b', eb, h⟩ := h.bool rg3
    exact ⟨ρ3, g3, y, z, b', H1, H2, rg3, ry.mono e3, rz, eb, h⟩
  · rename_i ez
    refine ⟨ρ2, g2, x, y, false, H, H1, rg2, rx.mono e2, ry, ez, false, rfl, ?_⟩
    rw [if_neg (by decide)]
    exact h ρ2 H2 _ .refl rg2 (RX.bl _)
  · exact h.elim

/-! ### truth -/
theorem s_and {rest : List Expr} (ha : PE X a (tE T pl X.K k W ia)) (hb : PE X (.BoolOp .And (b :: rest) pos) (tE T pl X.K k W ib)) : PE X (.BoolOp .And (a :: b :: rest) pos) (tE T pl X.K k W (.and ia ib)) := by
  refine ⟨fun pins s σ H Q I h => (pe_andT ha hb).run pins s σ H Q I ?_⟩
  obtain ⟨ρ, L, g, rl, rg, h⟩ := h
  rw [ev] at h
  refine ⟨ρ, L, g, rl, rg, (h.bind' (Rel := relX X.K) since_X).imp fun v H1 ⟨ρ1, x, g1, e1, rg1, rx, h, h0⟩ => ?_⟩
  cases et : truth g1 x with
  | none => rw [et] at h; exact h.elim
  | some t =>
    rw [et] at h h0
    cases t with
    | true => exact ⟨true, truth_ok rg1 rx et, by rw [if_pos rfl]; exact ⟨ρ1, L, g1, rl.mono e1, rg1, h⟩⟩
    | false => exact ⟨false, truth_ok rg1 rx et, by rw [if_neg (by decide)]; exact h0 ρ1 H1 v e1 rg1 rx⟩
theorem s_or {rest : List Expr} (ha : PE X a (tE T pl X.K k W ia)) (hb : PE X (.BoolOp .Or (b :: rest) pos) (tE T pl X.K k W ib)) : PE X (.BoolOp .Or (a :: b :: rest) pos) (tE T pl X.K k W (.or ia ib)) := by
  refine ⟨fun pins s σ H Q I h => (pe_orT ha hb).run pins s σ H Q I ?_⟩
  obtain ⟨ρ, L, g, rl, rg, h⟩ := h
  rw [ev] at h
  refine ⟨ρ, L, g, rl, rg, (h.bind' (Rel := relX X.K) since_X).imp fun v H1 ⟨ρ1, x, g1, e1, rg1, rx, h, h0⟩ => ?_⟩
  cases et : truth g1 x with
  | none => rw [et] at h; exact h.elim
  | some t =>
    rw [et] at h h0
    cases t with
    | true => exact ⟨true, truth_ok rg1 rx et, by rw [if_pos rfl]; exact h0 ρ1 H1 v e1 rg1 rx⟩
    | false => exact ⟨false, truth_ok rg1 rx et, by rw [if_neg (by decide)]; exact ⟨ρ1, L, g1, rl.mono e1, rg1, h⟩⟩
theorem s_not (ha : PE X a (tE T pl X.K k W ia)) : PE X (.UnaryOp .Not a pos) (tE T pl X.K k W (.not ia)) := by
  refine ⟨fun pins s σ H Q I h => (pe_notT ha).run pins s σ H Q I ?_⟩
  obtain ⟨ρ, L, g, rl, rg, h⟩ := h
  rw [ev] at h
  refine ⟨ρ, L, g, rl, rg, (h.bind (Rel := relX X.K) since_X).imp fun v H1 ⟨ρ1, x, g1, e1, rg1, rx, h⟩ => ?_⟩
  cases et : truth g1 x with
  | none => rw [et] at h; exact h.elim
  | some t =>
    rw [et] at h
    exact ⟨t, truth_ok rg1 rx et, h ρ1 H1 _ .refl rg1 (RX.bl _)⟩
/-- a test by its value's truth -/
theorem t_plain (ha : PE X a (tE T pl X.K k W ia)) (he : ∀ whole, isTrue a X.env whole = (do let v ← whole; standAt a.pos; holding [v] (truthy v))) : PT X a (tT T pl X.K k W ia) := by
  refine ⟨fun pins s σ H Q I h => (pt_truth ha he).run pins s σ H Q I ?_⟩
  obtain ⟨ρ, L, g, rl, rg, h⟩ := h
  refine ⟨ρ, L, g, rl, rg, (Po.bind (Rel := relX X.K) since_B h).imp fun v H1 ⟨ρ1, x, g1, e1, rg1, rx, h⟩ => ?_⟩
  obtain ⟨t, et, h⟩ := h.ofO
  exact ⟨t, truth_ok rg1 rx et, h ρ1 H1 t .refl rg1 rfl⟩
/-- what a test's reading says: the value's end, then its truth -/
theorem tT_bind {K : PySem.W.Frag} {ρ : List Addr} {H : Hp} {Wx : Wish} {Q : Bool → Hp → Prop} {r : R XV} {f : XV → G → R XV} (h : Po pl K relB ρ H Wx Q (r.bind f).test) :
    Po pl K relB ρ H Wx Q (r.bind fun x g => (f x g).test) := by
  cases r with
  | ok x g => exact h
  | ex x g => exact h
  | bad => exact h
theorem t_not (ha : PT X a (tT T pl X.K k W ia)) : PT X (.UnaryOp .Not a pos) (tT T pl X.K k W (.not ia)) := by
  refine ⟨fun pins s σ H Q I h => (pt_not ha).run pins s σ H Q I ?_⟩
  obtain ⟨ρ, L, g, rl, rg, h⟩ := h
  rw [ev] at h
  refine ⟨ρ, L, g, rl, rg, ?_⟩
  cases e : ev T (runF T k) ia L g with
  | bad => rw [e] at h; exact h
  | ex x g => rw [e] at h; exact h
  | ok x g1 =>
    rw [e] at h
    show Po pl X.K relB ρ H (wish pl W σ) (fun c H1 => Q (!c) H1) (Py.ofO (truth g1 x) g1)
    change Po pl X.K relB ρ H (wish pl W σ) Q (R.test (Py.ofO ((truth g1 x).map fun b => XV.d (.bl (!b))) g1)) at h
    cases et : truth g1 x with
    | none => rw [et] at h; exact h
    | some t =>
      rw [et] at h
      intro ρ1 H1 b e1 rg1 eb
      have eb : b = t := eb
      subst eb
      exact h ρ1 H1 _ e1 rg1 rfl
theorem t_ite {tc : TT} (hc : PT X c (tT T pl X.K k W ic)) (ha : PE X a (tE T pl X.K k W ia)) (hb : PE X b (tE T pl X.K k W ib)) : PE X (.IfExp c a b pos) (tE T pl X.K k W (.ite ic ia ib)) := by
  refine ⟨fun pins s σ H Q I h => (pe_ifExp hc ha hb).run pins s σ H Q I ?_⟩
  obtain ⟨ρ, L, g, rl, rg, h⟩ := h
  rw [ev] at h
  refine ⟨ρ, L, g, rl, rg, ?_⟩
  cases e : ev T (runF T k) ic L g with
  | bad => rw [e] at h; exact h
  | ex x g => rw [e] at h; exact h
  | ok x g1 =>
    rw [e] at h
    change Po pl X.K relB ρ H (wish pl W σ) _ (Py.ofO (truth g1 x) g1)
    simp only [R.bind] at h
    cases et : truth g1 x with
    | none => rw [et] at h; exact h
    | some t =>
      rw [et] at h
      intro ρ1 H1 b e1 rg1 eb
      have eb : b = t := eb
      subst eb
      cases b with
      | true => rw [if_pos rfl]; exact ⟨ρ1, L, g1, rl.mono e1, rg1, Po.shift since_X h e1⟩
      | false => rw [if_neg (by decide)]; exact ⟨ρ1, L, g1, rl.mono e1, rg1, Po.shift since_X h e1⟩
/-- a whole test of and, or: PW -/
theorem t_and {rest : List Expr} (ha : PT X a (tT T pl X.K k W ia)) (hb : PW X (.BoolOp .And (b :: rest) pos) (tT T pl X.K k W ib)) : PW X (.BoolOp .And (a :: b :: rest) pos) (tT T pl X.K k W (.and ia ib)) := by
  refine ⟨fun wh pins s σ H Q I h => (pw_and ha hb).run wh pins s σ H Q I ?_⟩
  obtain ⟨ρ, L, g, rl, rg, h⟩ := h
  rw [ev] at h
  refine ⟨ρ, L, g, rl, rg, ?_⟩
  cases e : ev T (runF T k) ia L g with
  | bad => rw [e] at h; exact h
  | ex x g => rw [e] at h; exact h
  | ok x g1 =>
    rw [e] at h
    change Po pl X.K relB ρ H (wish pl W σ) _ (Py.ofO (truth g1 x) g1)
    simp only [R.bind] at h
    cases et : truth g1 x with
    | none => rw [et] at h; exact h
    | some t =>
      rw [et] at h
      intro ρ1 H1 b e1 rg1 eb
      have eb : b = t := eb
      subst eb
      cases b with
      | true => rw [if_pos rfl]; exact ⟨ρ1, L, g1, rl.mono e1, rg1, Po.shift since_B h e1⟩
      | false =>
        rw [if_neg (by decide)]
        simp only [R.test, R.bind, et] at h
        exact h ρ1 H1 false e1 rg1 rfl
theorem t_or {rest : List Expr} (ha : PT X a (tT T pl X.K k W ia)) (hb : PW X (.BoolOp .Or (b :: rest) pos) (tT T pl X.K k W ib)) : PW X (.BoolOp .Or (a :: b :: rest) pos) (tT T pl X.K k W (.or ia ib)) := by
  refine ⟨fun wh pins s σ H Q I h => (pw_or ha hb).run wh pins s σ H Q I ?_⟩
  obtain ⟨ρ, L, g, rl, rg, h⟩ := h
  rw [ev] at h
  refine ⟨ρ, L, g, rl, rg, ?_⟩
  cases e : ev T (runF T k) ia L g with
  | bad => rw [e] at h; exact h
  | ex x g => rw [e] at h; exact h
  | ok x g1 =>
    rw [e] at h
    change Po pl X.K relB ρ H (wish pl W σ) _ (Py.ofO (truth g1 x) g1)
    simp only [R.bind] at h
    cases et : truth g1 x with
    | none => rw [et] at h; exact h
    | some t =>
      rw [et] at h
      intro ρ1 H1 b e1 rg1 eb
      have eb : b = t := eb
      subst eb
      cases b with
      | true =>
        rw [if_pos rfl]
        simp only [R.test, R.bind, et] at h
        exact h ρ1 H1 true e1 rg1 rfl
      | false => rw [if_neg (by decide)]; exact ⟨ρ1, L, g1, rl.mono e1, rg1, Po.shift since_B h e1⟩
theorem t_and1 (ha : PT X a (tT T pl X.K k W ia)) : PW X (.BoolOp .And [a] pos) (tT T pl X.K k W ia) := pw_and1 ha
theorem t_or1 (ha : PT X a (tT T pl X.K k W ia)) : PW X (.BoolOp .Or [a] pos) (tT T pl X.K k W ia) := pw_or1 ha
/-- a comparison as a test -/
theorem t_cmp {o : COp} (hu : X.A.units + 66 < cLine) (ha : PE X a (tE T pl X.K k W ia)) (hb : PE X b (tE T pl X.K k W ib)) (hm : behindInMarks (copOf o) b = false) : PT X (.Compare a [copOf o] [b] pos) (tT T pl X.K k W (.cmp o ia ib)) := by
  refine ⟨fun pins s σ H Q I h => (pt_cmpR (op_cmp (pl := pl) hu o) ha hb hm).run pins s σ H Q I ?_⟩
  obtain ⟨ρ, L, g, rl, rg, h⟩ := h
  rw [ev] at h
  refine ⟨ρ, L, g, rl, rg, (Po.bind (Rel := relX X.K) since_B (tT_bind h)).imp fun v H1 ⟨ρ1, x, g1, e1, rg1, rx, h⟩ => ?_⟩
  refine ⟨ρ1, L, g1, rl.mono e1, rg1, (Po.bind (Rel := relX X.K) since_B (tT_bind h)).imp fun u H2 ⟨ρ2, y, g2, e2, rg2, ry, h⟩ => ?_⟩
  cases ez : cmpop g2 o x y with
  | none => rw [ez] at h; exact h.elim
  | some z =>
    rw [ez] at h
    exact ⟨ρ2, g2, x, y, z, H, H1, rg2, rx.mono e2, ry, ez, z, rfl, h ρ2 H2 z .refl rg2 rfl⟩
theorem t_cmp2 {o o' : COp} (hu : X.A.units + 66 < cLine) (ha : PE X a (tE T pl X.K k W ia)) (hb : PE X b (tE T pl X.K k W ib)) (hc : PE X c (tE T pl X.K k W ic)) (hm : lastMarks [copOf o, copOf o'] [b, c] = false) : PT X (.Compare a [copOf o, copOf o'] [b, c] pos) (tT T pl X.K k W (.cmp2 o o' ia ib ic)) := by
  refine ⟨fun pins s σ H Q I h => (pt_chain (op_cmp (pl := pl) hu o) (op_cmp (pl := pl) hu o') ha hb hc hm).run pins s σ H Q I ?_⟩
  obtain ⟨ρ, L, g, rl, rg, h⟩ := h
  rw [ev] at h
  refine ⟨ρ, L, g, rl, rg, (Po.bind (Rel := relX X.K) since_B (tT_bind h)).imp fun v H1 ⟨ρ1, x, g1, e1, rg1, rx, h⟩ => ?_⟩
  refine ⟨ρ1, L, g1, rl.mono e1, rg1, (Po.bind (Rel := relX X.K) since_B (tT_bind h)).imp fun u H2 ⟨ρ2, y, g2, e2, rg2, ry, h⟩ => ?_⟩
  cases ez : cmpop g2 o x y with
  | none => rw [ez] at h; exact h.elim
  | some z =>
    rw [ez] at h
    refine ⟨ρ2, g2, x, y, z, H, H1, rg2, rx.mono e2, ry, ez, z, rfl, ?_⟩
    cases z with
    | true =>
      rw [if_pos rfl]
      refine ⟨ρ2, L, g2, (rl.mono e1).mono e2, rg2, (Po.bind (Rel := relX X.K) since_B (tT_bind h)).imp fun w H3 ⟨ρ3, z, g3, e3, rg3, rz, h⟩ => ?_⟩
      cases eb : cmpop g3 o' y z with
      | none => rw [eb] at h; exact h.elim
      | some b' =>
        rw [eb] at h
        exact ⟨ρ3, g3, y, z, b', H1, H2, rg3, ry.mono e3, rz, eb, b', rfl, h ρ3 H3 b' .refl rg3 rfl⟩
    | false =>
      rw [if_neg (by decide)]
      exact ⟨false, rfl, h ρ2 H2 false .refl rg2 rfl⟩
end
end Sd
set_option Elab.async false
set_option linter.all false
set_option maxRecDepth 100000
set_option maxHeartbeats 1000000
/-! Snd6: arguments, displays, items, slices, isinstance, built-in functions. -/
namespace Sd
open PySem PySem.Spec PyProof.Rows L2 Py

section
variable {T : Tb} {pl : Pl} {X : Cx} {k : Nat} {N : List Str} {sc : Scope} {W : WX} {ia ib ic : E} {ie : Es} {a b c : Expr} {es : List Expr} {pos : Pos}
theorem Po.lay {K : PySem.W.Frag} {ρ : List Addr} {H : Hp} {Wx : Wish} {Q : VK} {r : R XV} (h : Po pl K (relD K) ρ H Wx Q r.lay) : Po pl K (relX K) ρ H Wx Q r := by
  cases r with
  | bad => exact h
  | ex x g => exact h
  | ok x g =>
    cases x with
    | d d => exact h
    | tmp xs =>
      intro ρ' H' v e rg rx
      obtain ⟨a, vs, rfl, ha, r, n, z⟩ := rx
      refine h (ρ' ++ [a]) H' (.ref a) (e.push z) (rg.push n ⟨vs, ha, ?_⟩) ?_
      · exact r
      · show RV K _ H' (.ref g.length) (.ref a)
        exact RV.ref (by rw [← rg.len, List.getElem?_concat_length])
theorem s_lay (ha : PE X a (tE T pl X.K k W ia)) : PE X a (tD T pl X.K k W ia) := by
  refine ⟨fun pins s σ H Q I h => ha.run pins s σ H Q I ?_⟩
  obtain ⟨ρ, L, g, rl, rg, h⟩ := h
  exact ⟨ρ, L, g, rl, rg, h.lay⟩
theorem a_nil : PA X [] (tEs T pl X.K k W .nil) := by
  refine ⟨fun pos pins s σ H Q I h => pa_nil.run pos pins s σ H Q I ?_⟩
  obtain ⟨ρ, L, g, rl, rg, h⟩ := h
  rw [evs] at h
  exact h ρ H [] .refl rg .nil
theorem a_cons (ha : PE X a (tE T pl X.K k W ia)) (hr : PA X es (tEs T pl X.K k W ie)) (hs : starEach (a :: es) X.env = (false, eval a X.env) :: starEach es X.env) : PA X (a :: es) (tEs T pl X.K k W (.cons ia ie)) := by
  refine ⟨fun pos pins s σ H Q I h => (pa_cons ha hr hs).run pos pins s σ H Q I ?_⟩
  obtain ⟨ρ, L, g, rl, rg, h⟩ := h
  rw [evs] at h
  refine ⟨ρ, L, g, rl, rg, Po.lay ((Po.bind (Rel := relD X.K) since_Ds h).imp fun v H1 ⟨ρ1, d, g1, e1, rg1, rx, h⟩ => ?_)⟩
  refine ⟨ρ1, L, g1, rl.mono e1, rg1, (Po.bind (Rel := relDs X.K) since_Ds h).imp fun vs H2 ⟨ρ2, ds, g2, e2, rg2, rs, h⟩ => ?_⟩
  exact h ρ2 H2 (v :: vs) .refl rg2 (RVs.cons (rx.mono e2) rs)
theorem s_tup {x1 : Nat} (h : PA X es (tEs T pl X.K k W ie)) : PE X (.Tuple es x1 pos) (tE T pl X.K k W (.tup ie)) := by
  refine ⟨fun pins s σ H Q I hw => (pe_tup h).run pins s σ H Q I ?_⟩
  obtain ⟨ρ, L, g, rl, rg, h⟩ := hw
  rw [ev] at h
  refine ⟨ρ, L, g, rl, rg, (h.bind (Rel := relDs X.K) since_X).imp fun vs H1 ⟨ρ1, ds, g1, e1, rg1, rs, h⟩ => ?_⟩
  split at h
  · rename_i hl
    exact ⟨by rw [rs.len, ← line_eq]; exact hl, fun p n => new_tup rg1 rs h p n⟩
  · exact h.elim
theorem s_lst (h : PA X es (tEs T pl X.K k W ie)) : PE X (.List es pos) (tE T pl X.K k W (.lst ie)) := by
  refine ⟨fun pins s σ H Q I hw => (pe_lst h).run pins s σ H Q I ?_⟩
  obtain ⟨ρ, L, g, rl, rg, h⟩ := hw
  rw [ev] at h
  refine ⟨ρ, L, g, rl, rg, (h.bind (Rel := relDs X.K) since_X).imp fun vs H1 ⟨ρ1, ds, g1, e1, rg1, rs, h⟩ => ?_⟩
  split at h
  · rename_i hl
    exact ⟨by rw [rs.len, ← line_eq]; exact hl, fun p n => new_tmp rg1 rs h p n⟩
  · exact h.elim
/-- a new object that a ghost holds -/
theorem new_ob {K : PySem.W.Frag} {ρ : List Addr} {H : Hp} {g : G} {Q : VK} {o : Ob} {u : HO} (rg : RG pl K ρ H g) (hq : ∀ ρ' H' v, Ext ρ ρ' H H' → RG pl K ρ' H' (g ++ [o]) → RX K ρ' H H' v (.d (.ref g.length)) → Q v H')
    (p : Addr) (n : H p = none) (ho : RO pl K ρ (upd H p u) p o) : Q (.ref p) (upd H p u) := by
  have n' := rg.mem_ne n
  refine hq (ρ ++ [p]) _ _ ((Ext.fresh n).push n) ((rg.fresh n).push n' ho) ?_
  show RV K _ _ _ _
  exact RV.ref (by rw [← rg.len, List.getElem?_concat_length])
theorem s_dnk : PE X (.Dict [] [] pos) (tE T pl X.K k W .dnk) := by
  refine ⟨fun pins s σ H Q I hw => pe_dnewK.run pins s σ H Q I fun p n => ?_⟩
  obtain ⟨ρ, L, g, rl, rg, h⟩ := hw
  rw [ev] at h
  exact new_ob rg h p n ⟨[], upd_same, rfl, .nil⟩
theorem s_dnt : PE X (.Dict [] [] pos) (tE T pl X.K k W .dnt) := by
  refine ⟨fun pins s σ H Q I hw => pe_dnewT.run pins s σ H Q I fun p n => ?_⟩
  obtain ⟨ρ, L, g, rl, rg, h⟩ := hw
  rw [ev] at h
  exact new_ob rg h p n ⟨[], upd_same, rfl, .nil⟩

/-! ### items -/
theorem atI_ok {K : PySem.W.Frag} {ρ : List Addr} {H : Hp} {ds : List D} {vs : List V} {i : Int} {d : D} (r : RVs K ρ H ds vs) (e : Py.atI ds i = some d) : ∃ v, L2.atI vs i = some v ∧ RV K ρ H d v := by
  unfold Py.atI at e
  cases ej : Py.ixN ds.length i with
  | none => rw [ej] at e; cases e
  | some j =>
    rw [ej] at e
    obtain ⟨v, h1, h2⟩ := r.get (show ds[j]? = some d from e)
    refine ⟨v, ?_, h2⟩
    have : L2.ixN vs.length i = some j := by rw [r.len]; exact ej
    unfold L2.atI
    rw [this]
    exact h1
/-- the tail of d[k] -/
theorem tail_dict {prog : Program} {w : World} {A : Around} {E : Value → Shared → Prop} {s : Shared} {value slice : Expr} {o i : Value} {Q : Value → Shared → Prop} (hT : s.TypeIs o "dict") (hs : subscripted slice false o i = operate [o, i] (getItem o i))
    (h : wpAny (model prog w) A (getItem o i) Q E s) : wpAny (model prog w) A (subscriptTail value slice o i) Q E s := by
  unfold subscriptTail
  refine wpAny_bind ?_
  rw [getitemInPython_of_ne hT.not_modules]
  refine wpAny_bind (wpAny_specialOf hT PySem.F.slot_dict_getitem.lookup ?_)
  have fin : wpAny (model prog w) A (subscripted slice false o i) (fun r s₃ => wpAny (model prog w) A (letTemporaryGo value o r >>= fun _ => pure r) Q E s₃) E s := by
    rw [hs]
    exact wpAny_operating (wpAny_mono h (fun r s₃ h₃ => wpAny_bind (wpAny_letTemporaryGo (wpAny_pure h₃))) fun _ _ x => x)
  first
    | exact wpAny_pure (wpAny_bind fin)
    | exact wpAny_bind (wpAny_pure (wpAny_bind fin))
    | exact wpAny_bind fin
theorem ix_ok (hu : X.A.units + 66 < cLine) : IxR X (fun v u H Q => ∃ ρ g x y z H1 H2, RG pl X.K ρ H g ∧ RX X.K ρ H1 H v x ∧ RX X.K ρ H2 H u (.d y) ∧ index g x y = some z ∧ ∀ v', RV X.K ρ H z v' → Q v' H) := by
  intro value slice pins s σ H x y v u Q I rx ry h hs
  obtain ⟨ρ, g, dx, dy, z, H1, H2, rg, r1, r2, e, q⟩ := h
  have r2' : RV X.K ρ H dy y := r2
  -- a list, a tuple by a number
  have seq : ∀ {ds : List D} {p : Addr} {vs : List V} {i : Int}, x = .ref p → dy = .int i → (SqL X.K H p vs ∨ SqT X.K H p vs) → RVs X.K ρ H ds vs → Py.atI ds i = some z → wpAny (model X.prog X.w) X.A (subscriptTail value slice v u) (EP X pins σ Q) X.xe s := by
    intro ds p vs i ex ey hq hr ei
    subst ex ey
    obtain rfl := rv_int r2'
    obtain ⟨w, h1, h2⟩ := atI_ok hr ei
    rcases hq with hq | hq
    · exact ix_list value slice pins s σ H _ _ v u Q I rx ry ⟨p, vs, i, w, rfl, rfl, hq, h1, q w h2⟩ hs
    · exact ix_tup value slice pins s σ H _ _ v u Q I rx ry ⟨p, vs, i, w, rfl, rfl, hq, h1, q w h2⟩ hs
  -- a dict
  have dct : ∀ {o : Option D}, ((∃ kvs k, keyed g dx = some (.inl kvs) ∧ kyOf dy = some k ∧ o = look k kvs) ∨ (∃ kvs ds k, keyed g dx = some (.inr kvs) ∧ dy = .tup ds ∧ keysOf ds = some k ∧ o = look k kvs)) → o = some z → wpAny (model X.prog X.w) X.A (subscriptTail value slice v u) (EP X pins σ Q) X.xe s := by
    intro o h eo
    obtain ⟨a, r, rfl, dg, hr⟩ := dget_ok rg r1 r2' h
    subst eo
    obtain ⟨w, rfl, hw⟩ := hr
    obtain rfl : v = Value.ref a := rx
    exact tail_dict (dict_typeIs I dg) hs (d_getItem (by omega) I dg ry fun w' s3 I3 rw' => ⟨w, H, I3, rw', q w hw⟩)
  cases dx with
  | tmp xs =>
    obtain ⟨p, vs, ep, hp, hr, _⟩ := r1
    cases dy with
    | int i => exact seq ep rfl (.inl (.of hp)) hr e
    | _ => simp [index] at e
  | d d =>
    cases d with
    | str t =>
      cases dy with
      | int i =>
        simp only [index] at e
        split at e
        · rename_i hl
          cases ec : Py.atI t i with
          | none => rw [ec] at e; cases e
          | some ch =>
            rw [ec] at e
            cases e
            obtain rfl := rx_str r1
            obtain rfl := rv_int r2'
            refine ix_str value slice pins s σ H _ _ v u Q I rx ry ⟨toS t, i, ch.toNat, rfl, rfl, by rw [toS_len, ← line_eq]; exact hl, ?_, q _ (RV.str [ch])⟩ hs
            unfold Py.atI at ec
            unfold L2.atI
            have e1 : (toS t).cps.toList = t.map Char.toNat := by simp [toS]
            rw [e1, List.length_map]
            cases ej : Py.ixN t.length i with
            | none => rw [ej] at ec; cases ec
            | some j =>
              rw [ej] at ec
              have : L2.ixN t.length i = some j := ej
              rw [this]
              show (t.map Char.toNat)[j]? = _
              rw [List.getElem?_map, show t[j]? = some ch from ec]
              rfl
        · cases e
      | _ => simp [index] at e
    | tup xs =>
      obtain ⟨p, vs, ep, hp, hr⟩ := rx_tup r1
      cases dy with
      | int i => exact seq ep rfl (.inr (.of hp)) hr e
      | _ => simp [index] at e
    | kt xs =>
      obtain ⟨p, vs, ep, hp, hr⟩ := rx_kt r1
      cases dy with
      | int i => exact seq ep rfl (.inr hp) hr e
      | _ => simp [index] at e
    | ref n =>
      simp only [index] at e
      cases eg : g[n]? with
      | none => rw [eg] at e; cases e
      | some o =>
        rw [eg] at e
        cases o with
        | lst xs =>
          obtain ⟨p, ep, _, vs, hp, hr⟩ := rx_obj rg r1 eg
          cases dy with
          | int i => exact seq ep rfl (.inl (.of hp)) hr e
          | _ => cases e
        | dk kvs =>
          cases ek : kyOf dy with
          | none => rw [ek] at e; cases e
          | some k => 
            rw [ek] at e
            exact dct (o := look k kvs) (.inl ⟨kvs, k, by simp [keyed, eg], ek, rfl⟩) e
        | dt kvs =>
          cases dy with
          | tup ds =>
            simp only at e
            cases ek : keysOf ds with
            | none => rw [ek] at e; cases e
            | some k =>
              rw [ek] at e
              exact dct (o := look k kvs) (.inr ⟨kvs, ds, k, by simp [keyed, eg], rfl, ek, rfl⟩) e
          | _ => cases e
        | ins C fs => cases e
    | _ => simp [index] at e
theorem s_ix (hu : X.A.units + 66 < cLine) (ha : PE X a (tE T pl X.K k W ia)) (hb : PE X b (tE T pl X.K k W ib)) (hs : PlainIx b) : PE X (.Subscript a b pos) (tE T pl X.K k W (.ix ia ib)) := by
  refine ⟨fun pins s σ H Q I h => (pe_ix (ix_ok (pl := pl) hu) ha hb hs).run pins s σ H Q I ?_⟩
  obtain ⟨ρ, L, g, rl, rg, h⟩ := h
  rw [ev] at h
  refine ⟨ρ, L, g, rl, rg, (h.bind (Rel := relX X.K) since_X).imp fun v H1 ⟨ρ1, x, g1, e1, rg1, rx, h⟩ => ?_⟩
  refine ⟨ρ1, L, g1, rl.mono e1, rg1, (h.bind (Rel := relX X.K) since_X).imp fun u H2 ⟨ρ2, y, g2, e2, rg2, ry, h⟩ => ?_⟩
  cases y with
  | tmp xs => exact h.elim
  | d y =>
    cases ez : index g2 x y with
    | none => simp only [ez] at h; exact h.elim
    | some z =>
      simp only [ez] at h
      exact ⟨ρ2, g2, x, y, z, H, H1, rg2, rx.mono e2, ry, ez, fun v' hv => h ρ2 H2 v' .refl rg2 hv⟩

/-! ### slices -/
theorem cut_ok {K : PySem.W.Frag} {ρ : List Addr} {H : Hp} {ds : List D} {vs : List V} {lo hi : Option Int} (r : RVs K ρ H ds vs) : RVs K ρ H (cut ds lo hi) (cutV vs lo hi) := by
  unfold cut cutV
  have e : ∀ n d o, Py.sIx n d o = HT.sIx n d o := fun n d o => by cases o <;> rfl
  rw [e, e, ← r.len]
  exact (r.drop _).take _
theorem sl_ok : SlR X (fun v lo hi H Q => ∃ ρ g x z H1, RG pl X.K ρ H g ∧ RX X.K ρ H1 H v x ∧ Py.slice g x lo hi = some z ∧ ∀ ρ' H' v', Ext ρ ρ' H H' → RG pl X.K ρ' H' g → RX X.K ρ' H H' v' z → Q v' H') := by
  intro pins s σ H x v vl vu lo hi sl Q I rx hs pl' pu h
  obtain ⟨ρ, g, dx, z, H1, rg, r1, e, q⟩ := h
  unfold Py.slice at e
  split at e
  · rename_i t
    split at e
    · rename_i hl
      cases e
      obtain rfl := rx_str r1
      refine sl_str pins s σ H _ v vl vu lo hi sl Q I rx hs pl' pu ⟨toS t, rfl, by rw [toS_len, ← line_eq]; exact hl, ?_⟩
      have e1 : cutS (toS t) lo hi = toS (cut t lo hi) := by
        have e : ∀ n d o, Py.sIx n d o = HT.sIx n d o := fun n d o => by cases o <;> rfl
        unfold cutS cut
        rw [toS_len]
        simp only [e, toS, List.map_take, List.map_drop]
      rw [e1]
      exact q ρ H _ .refl rg (RX.str _)
    · cases e
  · cases e
    obtain ⟨p, vs, rfl, hp, hr⟩ := rx_tup r1
    refine sl_tupA pins s σ H _ v vl vu lo hi sl Q I rx hs pl' pu ⟨p, vs, rfl, .of hp, fun hw => ?_, fun _ p n => new_tup rg (cut_ok hr) q p n⟩
    refine q ρ H _ .refl rg (RX.tup hp ?_)
    have := cut_ok (lo := lo) (hi := hi) hr
    have e1 : cutV vs lo hi = vs := by
      unfold cutV
      rw [hw.1, hw.2]
      simp
    rw [e1] at this
    exact this
  · cases e
    obtain ⟨p, vs, rfl, hp, hr, _⟩ := r1
    exact sl_list pins s σ H _ v vl vu lo hi sl Q I rx hs pl' pu ⟨p, vs, rfl, .of hp, fun p n => new_tmp rg (cut_ok hr) q p n⟩
  · split at e
    · rename_i eg
      cases e
      obtain ⟨p, rfl, _, vs, hp, hr⟩ := rx_obj rg r1 eg
      exact sl_list pins s σ H _ v vl vu lo hi sl Q I rx hs pl' pu ⟨p, vs, rfl, .of hp, fun p n => new_tmp rg (cut_ok hr) q p n⟩
    · cases e
  · cases e
theorem s_slL (ha : PE X a (tE T pl X.K k W ia)) (hb : PE X b (tE T pl X.K k W ib)) {p2 : Pos} : PE X (.Subscript a (.Slice (some b) none none p2) pos) (tE T pl X.K k W (.slL ia ib)) := by
  refine ⟨fun pins s σ H Q I h => (pe_slice (sl_ok (pl := pl)) ha (po_some hb) po_none).run pins s σ H Q I ?_⟩
  obtain ⟨ρ, L, g, rl, rg, h⟩ := h
  rw [ev] at h
  refine ⟨ρ, L, g, rl, rg, (h.bind (Rel := relX X.K) since_X).imp fun v H1 ⟨ρ1, x, g1, e1, rg1, rx, h⟩ => ?_⟩
  refine ⟨ρ1, L, g1, rl.mono e1, rg1, (h.bind (Rel := relX X.K) since_X).imp fun u H2 ⟨ρ2, y, g2, e2, rg2, ry, h⟩ => ?_⟩
  split at h
  · rename_i i
    obtain ⟨z, ez, h⟩ := h.ofO
    exact ⟨i, rx_int ry, ρ2, g2, x, z, H, rg2, rx.mono e2, ez, h⟩
  · exact h.elim
theorem s_slH (ha : PE X a (tE T pl X.K k W ia)) (hb : PE X b (tE T pl X.K k W ib)) {p2 : Pos} : PE X (.Subscript a (.Slice none (some b) none p2) pos) (tE T pl X.K k W (.slH ia ib)) := by
  refine ⟨fun pins s σ H Q I h => (pe_slice (sl_ok (pl := pl)) ha po_none (po_some hb)).run pins s σ H Q I ?_⟩
  obtain ⟨ρ, L, g, rl, rg, h⟩ := h
  rw [ev] at h
  refine ⟨ρ, L, g, rl, rg, (h.bind (Rel := relX X.K) since_X).imp fun v H1 ⟨ρ1, x, g1, e1, rg1, rx, h⟩ => ?_⟩
  refine ⟨ρ1, L, g1, rl.mono e1, rg1, (h.bind (Rel := relX X.K) since_X).imp fun u H2 ⟨ρ2, y, g2, e2, rg2, ry, h⟩ => ?_⟩
  split at h
  · rename_i i
    obtain ⟨z, ez, h⟩ := h.ofO
    exact ⟨i, rx_int ry, ρ2, g2, x, z, H, rg2, rx.mono e2, ez, h⟩
  · exact h.elim
theorem s_slB (ha : PE X a (tE T pl X.K k W ia)) (hb : PE X b (tE T pl X.K k W ib)) (hc : PE X c (tE T pl X.K k W ic)) {p2 : Pos} : PE X (.Subscript a (.Slice (some b) (some c) none p2) pos) (tE T pl X.K k W (.slB ia ib ic)) := by
  refine ⟨fun pins s σ H Q I h => (pe_slice (sl_ok (pl := pl)) ha (po_some hb) (po_some hc)).run pins s σ H Q I ?_⟩
  obtain ⟨ρ, L, g, rl, rg, h⟩ := h
  rw [ev] at h
  refine ⟨ρ, L, g, rl, rg, (h.bind (Rel := relX X.K) since_X).imp fun v H1 ⟨ρ1, x, g1, e1, rg1, rx, h⟩ => ?_⟩
  refine ⟨ρ1, L, g1, rl.mono e1, rg1, (h.bind (Rel := relX X.K) since_X).imp fun u H2 ⟨ρ2, y, g2, e2, rg2, ry, h⟩ => ?_⟩
  split at h
  · rename_i i
    refine ⟨i, rx_int ry, ρ2, L, g2, (rl.mono e1).mono e2, rg2, (h.bind (Rel := relX X.K) since_X).imp fun w H3 ⟨ρ3, z, g3, e3, rg3, rz, h⟩ => ?_⟩
    split at h
    · rename_i j
      obtain ⟨z, ez, h⟩ := h.ofO
      exact ⟨j, rx_int rz, ρ3, g3, x, z, H, rg3, (rx.mono e2).mono e3, ez, h⟩
    · exact h.elim
  · exact h.elim

/-! ### isinstance -/
def tyN : Ty → String
  | .int => "int" | .bool => "bool" | .str => "str" | .tuple => "tuple" | .list => "list" | .dict => "dict" | .own _ => ""
def isTy : Ty → Bool
  | .own _ => false
  | _ => true
def kdN : Kd → String
  | .non => "NoneType" | .bool => "bool" | .int => "int" | .str => "str" | .tuple => "tuple" | .list => "list" | .dict => "dict"
def kitAll : Bool := [Kd.non, .bool, .int, .str, .tuple, .list, .dict].all fun a => [Ty.int, .bool, .str, .tuple, .list, .dict].all fun t => kitB (kdN a) (tyN t) == some (a.isa t)
theorem kitAll_true : kitAll = true := by decide +kernel
theorem kit_tab {K : PySem.W.Frag} (a : Kd) (t : Ty) (ht : isTy t = true) : PySem.W.kitOne K (.type (kdN a)) (.type (tyN t)) = some (a.isa t) := by
  refine kit_ty ?_
  have h := kitAll_true
  unfold kitAll at h
  rw [List.all_eq_true] at h
  have h1 := h a (by cases a <;> simp)
  rw [List.all_eq_true] at h1
  have h2 := h1 t (by cases t <;> first | (simp; done) | cases ht)
  exact beq_iff_eq.mp h2
theorem kind_ok {K : PySem.W.Frag} {ρ : List Addr} {H H1 : Hp} {g : G} {v : V} {x : XV} {k : Kd} (rg : RG pl K ρ H g) (r : RX K ρ H1 H v x) (e : kdOf g x = some k) : TyX K H v (.type (kdN k)) := by
  have tup : ∀ {p : Addr} {vs : List V}, SqT K H p vs → TyX K H (.ref p) (.type "tuple") := by
    intro p vs h
    rcases h with (h | ⟨o, h⟩) | ⟨o, its, n, hk, hc, _⟩
    · exact .base (.tup h)
    · exact .fTuple h
    · exact .kTuple hk hc
  cases x with
  | tmp xs =>
    obtain ⟨p, vs, rfl, hp, _⟩ := r
    cases e
    exact .base (.lst hp)
  | d d =>
    cases d with
    | non => cases e; obtain rfl := rx_non r; exact .base .non
    | bl i => cases e; obtain rfl := rx_bl r; exact .base (.bl _)
    | int i => cases e; obtain rfl := rx_int r; exact .base (.int _)
    | str i => cases e; obtain rfl := rx_str r; exact .base (.str _)
    | tup i => cases e; obtain ⟨p, vs, rfl, hp, _⟩ := rx_tup r; exact tup (.of hp)
    | kt i => cases e; obtain ⟨p, vs, rfl, hp, _⟩ := rx_kt r; exact tup hp
    | ls i => cases e
    | ref n =>
      simp only [kdOf] at e
      cases eg : g[n]? with
      | none => rw [eg] at e; cases e
      | some o =>
        rw [eg] at e
        obtain ⟨p, rfl, _, ho⟩ := rx_obj rg r eg
        cases o with
        | lst xs => cases e; obtain ⟨vs, h, _⟩ := ho; exact .base (.lst h)
        | dk kvs => cases e; obtain ⟨vs, h, _⟩ := ho; exact .base (.dK h)
        | dt kvs => cases e; obtain ⟨vs, h, _⟩ := ho; exact .base (.dT h)
        | ins C fs => cases e
theorem isinst_x {K : PySem.W.Frag} {ρ : List Addr} {H H1 : Hp} {g : G} {v : V} {x : XV} {t : Ty} {b : Bool} (ht : isTy t = true) (rg : RG pl K ρ H g) (r : RX K ρ H1 H v x) (e : isinst T g x t = some b) :
    ∃ u, TyX K H v u ∧ PySem.W.kitOne K u (.type (tyN t)) = some b := by
  unfold isinst at e
  cases ek : kdOf g x with
  | none => rw [ek] at e; cases e
  | some k =>
    rw [ek] at e
    cases e
    exact ⟨_, kind_ok rg r ek, kit_tab k t ht⟩
def tys : List Ty := [.int, .bool, .str, .tuple, .list, .dict]
theorem mem_tys (t : Ty) (ht : isTy t = true) : t ∈ tys := by cases t <;> first | (simp [tys]; done) | cases ht
def tyFacts (t : Ty) : Bool := bootBuiltins (Str.ofString (tyN t)) == some (.type (tyN t)) && !(Str.ofString (tyN t) == ("__debug__" : Str)) && decide (Str.ofString (tyN t) ≠ ("__name__" : Str)) && decide (Str.ofString (tyN t) ∈ bnames)
theorem tyFacts_all : tys.all tyFacts = true := by decide +kernel
theorem ty_facts (t : Ty) (ht : isTy t = true) : bootBuiltins (Str.ofString (tyN t)) = some (.type (tyN t)) ∧ (Str.ofString (tyN t) == ("__debug__" : Str)) = false ∧ Str.ofString (tyN t) ≠ ("__name__" : Str) ∧ Str.ofString (tyN t) ∈ bnames := by
  have h := List.all_eq_true.mp tyFacts_all t (mem_tys t ht)
  simp only [tyFacts, Bool.and_eq_true, beq_iff_eq, Bool.not_eq_true', decide_eq_true_eq] at h
  exact ⟨h.1.1.1, h.1.1.2, h.1.2, h.2⟩
theorem boot_isi : bootBuiltins ("isinstance" : Str) = some (.builtin "isinstance") := by decide +kernel
theorem s_isi {t : Ty} {p1 p2 : Pos} (G : Good T pl k N sc W X) (ht : isTy t = true) (ha : PE X a (tE T pl X.K k W ia)) (h1 : Gl X "isinstance") (h2 : Gl X (Str.ofString (tyN t))) (hs : ∀ r, starEach (a :: r) X.env = (false, eval a X.env) :: starEach r X.env) :
    PE X (.Call (.Name "isinstance" p1) [a, .Name (Str.ofString (tyN t)) p2] [] pos) (tE T pl X.K k W (.isi ia t)) := by
  have hm1 : X.mg "isinstance" = none := G.top.blt _ (by simp [bnames])
  obtain ⟨hb, hd, hn, hmem⟩ := ty_facts t ht
  have hm2 := G.top.blt _ hmem
  refine ⟨fun pins s σ H Q I h => (pe_callB (call_isi (X := X)) h1 hm1 boot_isi (pa_cons ha (pa_cons (pe_bltn (v := .ty (tyN t)) h2 hm2 hb rfl hn hd) pa_nil) (hs _)) (he := hs _)).run pins s σ H Q I ?_⟩
  obtain ⟨ρ, L, g, rl, rg, h⟩ := h
  rw [ev] at h
  refine ⟨ρ, L, g, rl, rg, (h.bind (Rel := relX X.K) since_X).imp fun v H1 ⟨ρ1, x, g1, e1, rg1, rx, h⟩ => ?_⟩
  obtain ⟨b, eb, h⟩ := h.bool rg1
  obtain ⟨u, hu, hk⟩ := isinst_x ht rg1 rx eb
  exact ⟨v, _, u, _, b, rfl, .ty _, hu, hk, h⟩

/-! ### built-in functions -/
def rB1 (pl : Pl) (K : PySem.W.Frag) (b : BI) : List V → Hp → VK → Prop := fun vs H Q => ∃ v ρ g x z H1, vs = [v] ∧ RG pl K ρ H g ∧ RX K ρ H1 H v x ∧ built1 g b x = some z ∧ ∀ ρ' H' v', Ext ρ ρ' H H' → RG pl K ρ' H' g → RX K ρ' H H' v' z → Q v' H'
theorem bools_ok {K : PySem.W.Frag} {ρ : List Addr} {H : Hp} : ∀ {ds : List D} {vs : List V} {bs : List Bool}, RVs K ρ H ds vs → boolsOf ds = some bs → vs = bs.map V.bl
  | [], vs, bs, r, e => by rw [RVs] at r; subst r; cases e; rfl
  | d :: ds, vs, bs, r, e => by
    rw [RVs] at r
    obtain ⟨v, vr, rfl, q, r⟩ := r
    cases d with
    | bl b =>
      simp only [boolsOf] at e
      cases e1 : boolsOf ds with
      | none => rw [e1] at e; cases e
      | some bs' =>
        rw [e1] at e
        cases e
        rw [rv_bl q, bools_ok r e1]
        rfl
    | _ => cases e
theorem ints_ok {K : PySem.W.Frag} {ρ : List Addr} {H : Hp} : ∀ {ds : List D} {vs : List V} {bs : List Int}, RVs K ρ H ds vs → intsOf ds = some bs → vs = bs.map V.int
  | [], vs, bs, r, e => by rw [RVs] at r; subst r; cases e; rfl
  | d :: ds, vs, bs, r, e => by
    rw [RVs] at r
    obtain ⟨v, vr, rfl, q, r⟩ := r
    cases d with
    | int b =>
      simp only [intsOf] at e
      cases e1 : intsOf ds with
      | none => rw [e1] at e; cases e
      | some bs' =>
        rw [e1] at e
        cases e
        rw [rv_int q, ints_ok r e1]
        rfl
    | _ => cases e
theorem b_len : CallR X (.builtin "len") (rB1 pl X.K .len) := by
  intro pins s σ H vs us Q I r h
  obtain ⟨v, ρ, g, x, z, H1, rfl, rg, rx, e, q⟩ := h
  simp only [built1] at e
  cases en : lenOf g x with
  | none => rw [en] at e; cases e
  | some n =>
    rw [en] at e
    cases e
    have fin : Q (.int n) H := q ρ H _ .refl rg (RX.int _)
    have seq : ∀ {ds : List D}, items g x = some ds → n = ds.length → wpAny (model X.prog X.w) X.A (call (.builtin "len") us) (EP X pins σ Q) X.xe s := by
      intro ds ei hn
      obtain ⟨p, ws, rfl, hp, hr⟩ := items_ok rg rx ei
      refine call_len pins s σ H _ us Q I r ⟨.ref p, n, rfl, ?_, fin⟩
      rcases hp with hp | hp
      · exact .inl ⟨ws, hp, by rw [hn, hr.len]⟩
      · exact .inr ⟨ws, hp, by rw [hn, hr.len]⟩
    cases x with
    | tmp xs => cases en; exact seq rfl rfl
    | d d =>
      cases d with
      | str t =>
        simp only [lenOf] at en
        split at en
        · rename_i hl
          cases en
          obtain rfl := rx_str rx
          exact call_len pins s σ H _ us Q I r ⟨_, _, rfl, ⟨by rw [toS_len, ← line_eq]; exact hl, (toS_len t).symm⟩, fin⟩
        · cases en
      | tup xs => cases en; exact seq rfl rfl
      | kt xs => cases en; exact seq rfl rfl
      | ls xs => cases en; exact seq rfl rfl
      | ref m =>
        simp only [lenOf] at en
        cases eg : g[m]? with
        | none => rw [eg] at en; cases en
        | some o =>
          rw [eg] at en
          cases o with
          | lst xs => cases en; exact seq (by simp [items, eg]) rfl
          | dk kvs =>
            cases en
            obtain ⟨p, rfl, _, ws, hp, hk, _⟩ := rx_obj rg rx eg
            have hl := congrArg List.length hk
            simp only [List.length_map] at hl
            rw [← hl] at fin
            exact call_lenD pins s σ H _ us Q I r ⟨p, ws, rfl, hp, fin⟩
          | dt kvs =>
            cases en
            obtain ⟨p, rfl, _, ws, hp, hk, _⟩ := rx_obj rg rx eg
            have hl := congrArg List.length hk
            simp only [List.length_map] at hl
            rw [← hl] at fin
            exact call_len_dT pins s σ H _ us Q I r ⟨p, ws, rfl, hp, fin⟩
          | ins C fs => cases en
      | _ => cases en
theorem b_abs : CallR X (.builtin "abs") (rB1 pl X.K .abs) := by
  intro pins s σ H vs us Q I r h
  obtain ⟨v, ρ, g, x, z, H1, rfl, rg, rx, e, q⟩ := h
  simp only [built1] at e
  split at e
  · cases e
    obtain rfl := rx_int rx
    exact call_abs pins s σ H _ us Q I r ⟨_, rfl, q ρ H _ .refl rg (RX.int _)⟩
  · cases e
theorem b_int : CallR X (.type "int") (rB1 pl X.K .int) := by
  intro pins s σ H vs us Q I r h
  obtain ⟨v, ρ, g, x, z, H1, rfl, rg, rx, e, q⟩ := h
  simp only [built1] at e
  split at e
  · cases e
    obtain rfl := rx_int rx
    exact call_int1 pins s σ H _ us Q I r (.inl ⟨_, rfl, q ρ H _ .refl rg (RX.int _)⟩)
  · cases e
    obtain rfl := rx_bl rx
    exact call_int1 pins s σ H _ us Q I r (.inr ⟨_, rfl, q ρ H _ .refl rg (RX.int _)⟩)
  · cases e
theorem b_bool : CallR X (.type "bool") (rB1 pl X.K .bool) := by
  intro pins s σ H vs us Q I r h
  obtain ⟨v, ρ, g, x, z, H1, rfl, rg, rx, e, q⟩ := h
  simp only [built1] at e
  split at e
  · cases e
    obtain rfl := rx_int rx
    exact call_bool1 pins s σ H _ us Q I r (.inl ⟨_, rfl, q ρ H _ .refl rg (RX.bl _)⟩)
  · cases e
    obtain rfl := rx_bl rx
    exact call_bool1 pins s σ H _ us Q I r (.inr ⟨_, rfl, q ρ H _ .refl rg (RX.bl _)⟩)
  · cases e
end
end Sd
set_option Elab.async false
set_option linter.all false
set_option maxRecDepth 100000
set_option maxHeartbeats 1000000
/-! Snd7: built-in functions, fields, methods, calls of defs. -/
namespace Sd
open PySem PySem.Spec PyProof.Rows L2 Py

section
variable {T : Tb} {pl : Pl} {X : Cx} {k : Nat} {N : List Str} {sc : Scope} {W : WX} {ia ib ic : E} {ie : Es} {a b c : Expr} {es : List Expr} {pos : Pos}
theorem b_tuple : CallR X (.type "tuple") (rB1 pl X.K .tuple) := by
  intro pins s σ H vs us Q I r h
  obtain ⟨v, ρ, g, x, z, H1, rfl, rg, rx, e, q⟩ := h
  simp only [built1] at e
  have lst : ∀ {ds : List D} {p : Addr} {ws : List V}, v = .ref p → SqL X.K H p ws → RVs X.K ρ H ds ws → some (XV.d (.tup ds)) = some z → wpAny (model X.prog X.w) X.A (call (.type "tuple") us) (EP X pins σ Q) X.xe s := by
    intro ds p ws ev hp hr e
    cases e
    subst ev
    exact call_tuple_of pins s σ H _ us Q I r ⟨p, ws, rfl, .inl ⟨hp, fun l n => new_tup rg hr q l n⟩⟩
  cases x with
  | tmp xs =>
    obtain ⟨p, ws, rfl, hp, hr, _⟩ := rx
    exact lst rfl (.of hp) hr e
  | d d =>
    cases d with
    | tup xs =>
      cases e
      obtain ⟨p, ws, rfl, hp, hr⟩ := rx_tup rx
      exact call_tuple_of pins s σ H _ us Q I r ⟨p, ws, rfl, .inr ⟨.of hp, q ρ H _ .refl rg (RX.tup hp hr)⟩⟩
    | ls xs =>
      obtain ⟨p, ws, rfl, hp, hr⟩ := rx_ls rx
      exact lst rfl hp.sq hr e
    | kt xs => cases e
    | ref n =>
      simp only [items] at e
      cases eg : g[n]? with
      | none => rw [eg] at e; cases e
      | some o =>
        rw [eg] at e
        cases o with
        | lst xs =>
          obtain ⟨p, rfl, _, ws, hp, hr⟩ := rx_obj rg rx eg
          exact lst rfl (.of hp) hr e
        | _ => cases e
    | _ => cases e
theorem b_list : CallR X (.type "list") (rB1 pl X.K .list) := by
  intro pins s σ H vs us Q I r h
  obtain ⟨v, ρ, g, x, z, H1, rfl, rg, rx, e, q⟩ := h
  simp only [built1] at e
  cases ei : items g x with
  | none => rw [ei] at e; cases e
  | some ds =>
    rw [ei] at e
    cases e
    obtain ⟨p, ws, rfl, hp, hr⟩ := items_ok rg rx ei
    exact call_list_of pins s σ H _ us Q I r ⟨p, ws, rfl, hp, fun l n => new_tmp rg hr q l n⟩
theorem b_all (hc : X.calm = true) : CallR X (.builtin "all") (rB1 pl X.K .all) := by
  intro pins s σ H vs us Q I r h
  obtain ⟨v, ρ, g, x, z, H1, rfl, rg, rx, e, q⟩ := h
  simp only [built1] at e
  cases ei : Py.listOf g x with
  | none => rw [ei] at e; cases e
  | some ds =>
    rw [ei] at e
    cases eb : boolsOf ds with
    | none => simp [eb] at e
    | some bs =>
      simp only [eb, Option.bind_some, Option.map_some, Option.some.injEq] at e
      subst e
      obtain ⟨p, ws, rfl, hp, hr⟩ := listOf_ok rg rx ei
      rw [bools_ok hr eb] at hp
      exact cr_all hc pins s σ H _ us Q I r ⟨p, bs, rfl, .of hp, q ρ H _ .refl rg (RX.bl _)⟩
theorem b_any (hc : X.calm = true) : CallR X (.builtin "any") (rB1 pl X.K .any) := by
  intro pins s σ H vs us Q I r h
  obtain ⟨v, ρ, g, x, z, H1, rfl, rg, rx, e, q⟩ := h
  simp only [built1] at e
  cases ei : Py.listOf g x with
  | none => rw [ei] at e; cases e
  | some ds =>
    rw [ei] at e
    cases eb : boolsOf ds with
    | none => simp [eb] at e
    | some bs =>
      simp only [eb, Option.bind_some, Option.map_some, Option.some.injEq] at e
      subst e
      obtain ⟨p, ws, rfl, hp, hr⟩ := listOf_ok rg rx ei
      rw [bools_ok hr eb] at hp
      exact cr_any hc pins s σ H _ us Q I r ⟨p, bs, rfl, .of hp, q ρ H _ .refl rg (RX.bl _)⟩
theorem b_sum (hc : X.calm = true) : CallR X (.builtin "sum") (rB1 pl X.K .sum) := by
  intro pins s σ H vs us Q I r h
  obtain ⟨v, ρ, g, x, z, H1, rfl, rg, rx, e, q⟩ := h
  simp only [built1] at e
  cases ei : Py.listOf g x with
  | none => rw [ei] at e; cases e
  | some ds =>
    rw [ei] at e
    cases eb : intsOf ds with
    | none => simp [eb] at e
    | some bs =>
      simp only [eb, Option.bind_some, Option.map_some, Option.some.injEq] at e
      subst e
      obtain ⟨p, ws, rfl, hp, hr⟩ := listOf_ok rg rx ei
      rw [ints_ok hr eb] at hp
      exact cr_sum hc pins s σ H _ us Q I r ⟨p, bs, rfl, .of hp, q ρ H _ .refl rg (RX.int _)⟩
/-- a built-in function's name, its value -/
def biN : BI → String
  | .len => "len" | .abs => "abs" | .int => "int" | .bool => "bool" | .str => "str" | .tuple => "tuple" | .list => "list" | .all => "all" | .any => "any" | .sum => "sum" | .max => "max" | .min => "min" | .sorted => "sorted" | .dict => "dict" | .repr => "repr"
def biTy : BI → Bool
  | .int | .bool | .str | .tuple | .list | .dict => true
  | _ => false
def biV (b : BI) : Value := if biTy b then .type (biN b) else .builtin (biN b)
def bis : List BI := [.len, .abs, .int, .bool, .str, .tuple, .list, .all, .any, .sum, .max, .min, .sorted, .dict, .repr]
theorem mem_bis (b : BI) : b ∈ bis := by cases b <;> simp [bis]
def biFacts (b : BI) : Bool := bootBuiltins (Str.ofString (biN b)) == some (biV b) && !(Str.ofString (biN b) == ("__debug__" : Str)) && decide (Str.ofString (biN b) ≠ ("__name__" : Str)) && decide (Str.ofString (biN b) ∈ bnames)
theorem biFacts_all : bis.all biFacts = true := by decide +kernel
theorem bi_facts (b : BI) : bootBuiltins (Str.ofString (biN b)) = some (biV b) ∧ (Str.ofString (biN b) == ("__debug__" : Str)) = false ∧ Str.ofString (biN b) ≠ ("__name__" : Str) ∧ Str.ofString (biN b) ∈ bnames := by
  have h := List.all_eq_true.mp biFacts_all b (mem_bis b)
  simp only [biFacts, Bool.and_eq_true, beq_iff_eq, Bool.not_eq_true', decide_eq_true_eq] at h
  exact ⟨h.1.1.1, h.1.1.2, h.1.2, h.2⟩
def b1ok : BI → Bool
  | .len | .abs | .int | .bool | .tuple | .list | .all | .any | .sum => true
  | _ => false
theorem b1_none (b : BI) (h : b1ok b = false) (g : G) (x : XV) : built1 g b x = none := by
  cases b <;> first | rfl | cases h
theorem s_bi1 {bi : BI} {p1 : Pos} (G : Good T pl k N sc W X) (C0 : Calm k X) (hok : b1ok bi = true) (ha : PE X a (tE T pl X.K k W ia)) (h1 : Gl X (Str.ofString (biN bi))) (hs : ∀ r, starEach (a :: r) X.env = (false, eval a X.env) :: starEach r X.env) :
    PE X (.Call (.Name (Str.ofString (biN bi)) p1) [a] [] pos) (tE T pl X.K k W (.bi bi (.cons ia .nil))) := by
  obtain ⟨hb, hd, hn, hmem⟩ := bi_facts bi
  have hm := G.top.blt _ hmem
  have go : ∀ {t : TE}, (PE X (.Call (.Name (Str.ofString (biN bi)) p1) [a] [] pos) (tCB (rB1 pl X.K bi) (tCons (tE T pl X.K k W ia) tNil))) → PE X (.Call (.Name (Str.ofString (biN bi)) p1) [a] [] pos) (tE T pl X.K k W (.bi bi (.cons ia .nil))) := by
    intro t p
    refine ⟨fun pins s σ H Q I h => p.run pins s σ H Q I ?_⟩
    obtain ⟨ρ, L, g, rl, rg, h⟩ := h
    rw [ev] at h
    refine ⟨ρ, L, g, rl, rg, (h.bind (Rel := relX X.K) since_X).imp fun v H1 ⟨ρ1, x, g1, e1, rg1, rx, h⟩ => ?_⟩
    obtain ⟨z, ez, h⟩ := h.ofO
    exact ⟨v, ρ1, g1, x, z, H, rfl, rg1, rx, ez, h⟩
  have fnn : ∀ {r}, biTy bi = false → CallR X (.builtin (biN bi)) r → PE X (.Call (.Name (Str.ofString (biN bi)) p1) [a] [] pos) (tCB r (tCons (tE T pl X.K k W ia) tNil)) := by
    intro r hty hc
    exact pe_callB hc h1 hm (by rw [hb]; unfold biV; rw [hty]; rfl) (pa_cons ha pa_nil (hs _)) hn hd (hs _)
  have tyy : ∀ {r}, biTy bi = true → CallR X (.type (biN bi)) r → PE X (.Call (.Name (Str.ofString (biN bi)) p1) [a] [] pos) (tCB r (tCons (tE T pl X.K k W ia) tNil)) := by
    intro r hty hc
    exact pe_callTy hc h1 hm (by rw [hb]; unfold biV; rw [hty]; rfl) (pa_cons ha pa_nil (hs _)) hn hd (hs _)
  cases bi with
  | len => exact go (t := fun _ _ _ => True) (fnn rfl b_len)
  | abs => exact go (t := fun _ _ _ => True) (fnn rfl b_abs)
  | int => exact go (t := fun _ _ _ => True) (tyy rfl b_int)
  | bool => exact go (t := fun _ _ _ => True) (tyy rfl b_bool)
  | tuple => exact go (t := fun _ _ _ => True) (tyy rfl b_tuple)
  | list => exact go (t := fun _ _ _ => True) (tyy rfl b_list)
  | all => exact go (t := fun _ _ _ => True) (fnn rfl (b_all C0.calm))
  | any => exact go (t := fun _ _ _ => True) (fnn rfl (b_any C0.calm))
  | sum => exact go (t := fun _ _ _ => True) (fnn rfl (b_sum C0.calm))
  | _ => cases hok
/-- two arguments -/
def rB2 (pl : Pl) (K : PySem.W.Frag) (b : BI) : List V → Hp → VK → Prop := fun vs H Q => ∃ v u ρ g x y z H1 H2, vs = [v, u] ∧ RG pl K ρ H g ∧ RX K ρ H1 H v x ∧ RX K ρ H2 H u y ∧ built2 g b x y = some z ∧ ∀ ρ' H' v', Ext ρ ρ' H H' → RG pl K ρ' H' g → RX K ρ' H H' v' z → Q v' H'
theorem b_max (hc : X.calm = true) : CallR X (.builtin "max") (rB2 pl X.K .max) := by
  intro pins s σ H vs us Q I r h
  obtain ⟨v, u, ρ, g, x, y, z, H1, H2, rfl, rg, rx, ry, e, q⟩ := h
  simp only [built2] at e
  split at e
  · cases e
    obtain rfl := rx_int rx
    obtain rfl := rx_int ry
    exact call_max2 hc pins s σ H _ us Q I r ⟨_, _, rfl, q ρ H _ .refl rg (RX.int _)⟩
  · cases e
theorem b_min (hc : X.calm = true) : CallR X (.builtin "min") (rB2 pl X.K .min) := by
  intro pins s σ H vs us Q I r h
  obtain ⟨v, u, ρ, g, x, y, z, H1, H2, rfl, rg, rx, ry, e, q⟩ := h
  simp only [built2] at e
  split at e
  · cases e
    obtain rfl := rx_int rx
    obtain rfl := rx_int ry
    exact call_min2 hc pins s σ H _ us Q I r ⟨_, _, rfl, q ρ H _ .refl rg (RX.int _)⟩
  · cases e
def b2ok : BI → Bool
  | .max | .min => true
  | _ => false
theorem s_bi2 {bi : BI} {p1 : Pos} (G : Good T pl k N sc W X) (C0 : Calm k X) (hok : b2ok bi = true) (ha : PE X a (tE T pl X.K k W ia)) (hb' : PE X b (tE T pl X.K k W ib)) (h1 : Gl X (Str.ofString (biN bi))) (hs : ∀ r, starEach (a :: r) X.env = (false, eval a X.env) :: starEach r X.env) (hs2 : ∀ r, starEach (b :: r) X.env = (false, eval b X.env) :: starEach r X.env) :
    PE X (.Call (.Name (Str.ofString (biN bi)) p1) [a, b] [] pos) (tE T pl X.K k W (.bi bi (.cons ia (.cons ib .nil)))) := by
  obtain ⟨hb, hd, hn, hmem⟩ := bi_facts bi
  have hm := G.top.blt _ hmem
  have hc : CallR X (.builtin (biN bi)) (rB2 pl X.K bi) := by
    cases bi with
    | max => exact b_max C0.calm
    | min => exact b_min C0.calm
    | _ => cases hok
  have hty : biTy bi = false := by cases bi <;> first | rfl | cases hok
  have hpl : (backTo pos (starEach [b] X.env)).any (·.1) = false := by rw [hs2 []]; rfl
  have p := pe_callB (pos := pos) (p := p1) hc h1 hm (by rw [hb]; unfold biV; rw [hty]; rfl) (pa_cons ha (pa_cons hb' pa_nil (hs2 _)) (hs _)) hn hd (hs _) hpl
  refine ⟨fun pins s σ H Q I h => p.run pins s σ H Q I ?_⟩
  obtain ⟨ρ, L, g, rl, rg, h⟩ := h
  rw [ev] at h
  refine ⟨ρ, L, g, rl, rg, (h.bind (Rel := relX X.K) since_X).imp fun v H1 ⟨ρ1, x, g1, e1, rg1, rx, h⟩ => ?_⟩
  refine ⟨ρ1, L, g1, rl.mono e1, rg1, (h.bind (Rel := relX X.K) since_X).imp fun u H2 ⟨ρ2, y, g2, e2, rg2, ry, h⟩ => ?_⟩
  obtain ⟨z, ez, h⟩ := h.ofO
  exact ⟨v, u, ρ2, g2, x, y, z, H, H1, rfl, rg2, rx.mono e2, ry, ez, h⟩

/-! ### fields -/
theorem s_fld {x : Str} {f : Nat} (G : Good T pl k N sc W X) (ha : PE X a (tE T pl X.K k W ia)) (hx : pl.nm.ats[f]? = some x) (hb : attributeBase a x X.env (eval a X.env) = eval a X.env) : PE X (.Attribute a x pos) (tE T pl X.K k W (.fld ia f)) := by
  refine ⟨fun pins s σ H Q I h => (pe_fld ha hb).run pins s σ H Q I ?_⟩
  obtain ⟨ρ, L, g, rl, rg, h⟩ := h
  rw [ev] at h
  refine ⟨ρ, L, g, rl, rg, (h.bind (Rel := relX X.K) since_X).imp fun v H1 ⟨ρ1, x1, g1, e1, rg1, rx, h⟩ => ?_⟩
  cases x1 with
  | tmp xs => exact h.elim
  | d d =>
    obtain ⟨z, ez, h⟩ := h.ofO
    cases d with
    | ref n =>
      simp only [getF] at ez
      cases eg : g1[n]? with
      | none => rw [eg] at ez; cases ez
      | some o =>
        rw [eg] at ez
        cases o with
        | ins C fs =>
          simp only at ez
          split at ez
          · rename_i hmt
            cases el : fs.lookup f with
            | none => rw [el] at ez; cases ez
            | some y =>
              rw [el] at ez
              cases ez
              obtain ⟨p, rfl, _, ⟨fi, hi⟩, dx, fv, hp, hf⟩ := rx_obj rg1 rx eg
              have := hf.2.2 f x hx
              rw [el] at this
              obtain ⟨w, hw, rw'⟩ := this
              rw [G.top.ini] at hi
              refine ⟨p, pl.ca C, dx, fv, w, rfl, hp, G.top.cl C fi hi, G.top.nat C fi f x hi hx (Option.isNone_iff_eq_none.mp hmt), hw, ?_⟩
              exact h ρ1 H1 w .refl rg1 rw'
          · cases ez
        | _ => cases ez
    | _ => cases ez

/-! ### calls -/
/-- what a def's call wants of the evaluator's end -/
theorem spE_of {K : PySem.W.Frag} {np k f : Nat} {vs : List V} {H : Hp} {Q : VK} {σ : L2.St} {ρ : List Addr} {ds : List D} {g : G} (hl : vs.length = np) (rs : RVs K ρ H ds vs) (rg : RG pl K ρ H g) (h : Po pl K (relD K) ρ H (wish pl W σ) Q (runF T k f ds g)) :
    spE pl K T np k f vs H Q (WE W σ) := ⟨hl, ρ, ds, g, rs, rg, h⟩
theorem len_of_run {f : Nat} {F : Fn} {ds : List D} {g : G} {α : Type} {β : Type} {Rel : List Addr → Hp → Hp → β → D → Prop} {K : PySem.W.Frag} {ρ : List Addr} {H : Hp} {Wx : Wish} {Q : β → Hp → Prop} (hF : T.fn f = some F) (h : Po pl K Rel ρ H Wx Q (runF T k f ds g)) : ds.length = F.np := by
  cases k with
  | zero => exact h.elim
  | succ k =>
    simp only [runF, hF] at h
    split at h
    · assumption
    · exact h.elim
theorem go_call {f : Nat} {σ : L2.St} {H : Hp} {Q : VK} {F : Fn} (hF : T.fn f = some F) (h : tE T pl X.K k W (.call f ie) σ H Q) : tEs T pl X.K k W ie σ H fun vs H1 => spE pl X.K T F.np k f vs H1 Q (WE W σ) := by
  obtain ⟨ρ, L, g, rl, rg, h⟩ := h
  rw [ev] at h
  refine ⟨ρ, L, g, rl, rg, (h.bind (Rel := relDs X.K) since_X).imp fun vs H1 ⟨ρ1, ds, g1, e1, rg1, rs, h⟩ => ?_⟩
  have h' : Po pl X.K (relD X.K) ρ1 H1 (wish pl W σ) Q (runF T k f ds g1) := by
    revert h
    cases runF T k f ds g1 with
    | ok d g2 => exact fun h ρ' H' v e rg rv => h ρ' H' v e rg rv
    | ex x g2 => exact id
    | bad => exact id
  exact spE_of (by rw [rs.len]; exact len_of_run (α := D) hF h') rs rg1 h'
theorem nil_es {σ : L2.St} {H : Hp} {Q : List V → Hp → Prop} (h : tEs T pl X.K k W .nil σ H Q) : Q [] H := by
  obtain ⟨ρ, L, g, rl, rg, h⟩ := h
  rw [evs] at h
  exact h ρ H [] .refl rg .nil
theorem s_call0 {x : Str} {f : Nat} {p1 : Pos} (G : Good T pl k N sc W X) (C0 : Calm k X) (hx : pl.nm.fns[f]? = some (some x)) (hg : Gl X x) (hd : (x == ("__debug__" : Str)) = false) :
    PE X (.Call (.Name x p1) [] [] pos) (tE T pl X.K k W (.call f .nil)) := by
  obtain ⟨fa, hm, ⟨fd, ps, F, hF, ok, hb, hps⟩, kp⟩ := G.top.fns f x hx
  refine ⟨fun pins s σ H Q I h => ?_⟩
  have q := nil_es (go_call hF h)
  refine wpAny_Call_Name_kw (ld_glob I hg hm ?_ hd)
  exact PySem.W.callWith_K0 I.kIn kp (run_fnS (us := []) ok (C0.room.mono (Nat.le_succ _)) hb (passAt G.tk σ) I .nil q)
theorem s_call {x : Str} {f : Nat} {p1 : Pos} {e : Expr} (G : Good T pl k N sc W X) (C0 : Calm k X) (hx : pl.nm.fns[f]? = some (some x)) (hg : Gl X x) (hd : (x == ("__debug__" : Str)) = false) (ha : PA X (e :: es) (tEs T pl X.K k W ie))
    (h1 : starEach (e :: es) X.env = (false, eval e X.env) :: starEach es X.env) (h2 : (backTo pos (starEach es X.env)).any (·.1) = false) :
    PE X (.Call (.Name x p1) (e :: es) [] pos) (tE T pl X.K k W (.call f ie)) := by
  obtain ⟨fa, hm, ⟨fd, ps, F, hF, ok, hb, hps⟩, kp⟩ := G.top.fns f x hx
  refine ⟨fun pins s σ H Q I h => ?_⟩
  exact (pe_callS ok (C0.room.mono (Nat.le_succ _)) hg hm kp hb (passAt G.tk) ha hd h1 h2).run pins s σ H Q I (go_call hF h)

/-! ### new instances -/
theorem run_makeS {C f : Addr} {fd : FuncData} {ps : List Str} {sp : Sp} {E : XK} {pins : List (Addr × Obj)} {σ : L2.St} {H : Hp} {s : Shared} {Q : VK} {us : List Value} {vs : List V} (M : Mk X.K C f) (F : FnOk X.prog X.w X.K X.mg X.base (L2.CX X.prog X.w) k f fd ps sp) (hr : Room (k + 1) X.A) (hb : Binds X.K fd ps [])
    (hx : PassesAt (L2.CX X.prog X.w) X σ E) (I : Inv X pins σ H s) (r : Vals vs us)
    (h : ∀ x dx, H x = none → H dx = none → dx ≠ x → sp (.ref x :: vs) (upd (upd H dx (.own x)) x (.ins C dx [])) (fun v H2 => v = .non ∧ Q (.ref x) H2) E) :
    wpAny (model X.prog X.w) X.A (call (.ref C) us) (EP X pins σ Q) X.xe s := by
  have hq := h (s.heap.objs.size + 1) s.heap.objs.size (I.hok.fresh (Nat.le_succ _)) (I.hok.fresh (Nat.le_refl _)) (Nat.ne_of_lt (Nat.lt_succ_self _))
  have I2 := Inv.made (C := C) I
  have r2 : Vals (V.ref (s.heap.objs.size + 1) :: vs) (Value.ref (s.heap.objs.size + 1) :: us) := .cons rfl r
  have hl : (Value.ref (s.heap.objs.size + 1) :: us).length = ps.length := by
    have e := r2.length
    rw [F.len _ _ _ _ hq] at e
    exact e.symm
  have hbb := hb _ (Value.ref (s.heap.objs.size + 1) :: us) I2.kIn (by rw [List.append_nil]; exact hl)
  rw [List.append_nil] at hbb
  refine wpAny_call (make_map (f := f) I.kIn M.makes M.init (beq_iff_eq.mp M.fn) (codeAny_mono (F.run _ X.stack _ _ ⟨Value.ref (s.heap.objs.size + 1) :: us, []⟩ (Value.ref (s.heap.objs.size + 1) :: us) _ _ E (hr.make C us [])
    (I2.env0.make C us []) hbb r2 hq) fun r s' hq' => ?_))
  cases r with
  | error e => exact hx pins _ _ e s' I2 hq'
  | ok fl =>
    cases fl with
    | ret u =>
      obtain ⟨v, H', I3, rv, ev, q3⟩ := I2.after hq'
      subst ev
      exact ⟨rv, ⟨V.ref (s.heap.objs.size + 1), H', I3, rfl, q3⟩⟩
    | next => exact False.elim hq'
    | brk => exact False.elim hq'
    | cont => exact False.elim hq'
theorem go_mk {C f : Nat} {fa : Addr} {σ : L2.St} {H : Hp} {Q : VK} {F : Fn} (top : Top X.prog X.w X.K X.mg X.base pl T k) (hC : T.ini C = some f) (hF : T.fn f = some F) (h : tE T pl X.K k W (.mk C ie) σ H Q) :
    tEs T pl X.K k W ie σ H fun vs H1 => ∀ x dx, H1 x = none → H1 dx = none → dx ≠ x → spE pl X.K T F.np k f (.ref x :: vs) (upd (upd H1 dx (.own x)) x (.ins (pl.ca C) dx [])) (fun v H2 => v = .non ∧ Q (.ref x) H2) (WE W σ) := by
  obtain ⟨ρ, L, g, rl, rg, h⟩ := h
  rw [ev] at h
  simp only [hC] at h
  refine ⟨ρ, L, g, rl, rg, (h.bind (Rel := relDs X.K) since_X).imp fun vs H1 ⟨ρ1, ds, g1, e1, rg1, rs, h⟩ x dx hx hdx hne => ?_⟩
  have x1 : Ext ρ1 ρ1 H1 (upd H1 dx (.own x)) := .fresh hdx
  have hx' : upd H1 dx (.own x) x = none := by rw [upd_ne (Ne.symm hne)]; exact hx
  have x2 : Ext ρ1 (ρ1 ++ [x]) H1 (upd (upd H1 dx (.own x)) x (.ins (pl.ca C) dx [])) := x1.trans ((Ext.fresh hx').push hx')
  have rg2 : RG pl X.K (ρ1 ++ [x]) (upd (upd H1 dx (.own x)) x (.ins (pl.ca C) dx [])) (g1 ++ [.ins C []]) := by
    refine ((rg1.fresh hdx).fresh hx').push (rg1.mem_ne hx) ⟨⟨f, by rw [top.ini]; exact hC⟩, dx, [], upd_same, Nat.le_refl _, fun z v hz => ?_, fun i z hz => ?_⟩
    · simp at hz
    · simp
  have rx : RV X.K (ρ1 ++ [x]) (upd (upd H1 dx (.own x)) x (.ins (pl.ca C) dx [])) (.ref g1.length) (.ref x) := RV.ref (by rw [← rg1.len, List.getElem?_concat_length])
  have h' : Po pl X.K (relD X.K) (ρ1 ++ [x]) (upd (upd H1 dx (.own x)) x (.ins (pl.ca C) dx [])) (wish pl W σ) (fun v H2 => v = .non ∧ Q (.ref x) H2) (runF T k f (.ref g1.length :: ds) (g1 ++ [.ins C []])) := by
    have h := Po.shift since_X h x2
    revert h
    cases runF T k f (.ref g1.length :: ds) (g1 ++ [.ins C []]) with
    | ok d g2 =>
      intro h ρ' H' v e rg rv
      cases d with
      | non =>
        refine ⟨by simpa [relD, RV] using rv, h ρ' H' _ e rg ?_⟩
        exact RV.mono e rx
      | _ => exact h.elim
    | ex x g2 => exact id
    | bad => exact id
  refine ⟨?_, ρ1 ++ [x], D.ref g1.length :: ds, g1 ++ [Ob.ins C []], RVs.cons rx (rs.mono x2), rg2, h'⟩
  have := len_of_run (α := D) hF h'
  simp [rs.len] at this ⊢
  omega
theorem s_mk0 {x : Str} {C : Nat} {f : Nat} {p1 : Pos} (G : Good T pl k N sc W X) (C0 : Calm k X) (hC : T.ini C = some f) (hx : pl.nm.cls[C]? = some x) (hg : Gl X x) (hd : (x == ("__debug__" : Str)) = false) :
    PE X (.Call (.Name x p1) [] [] pos) (tE T pl X.K k W (.mk C .nil)) := by
  obtain ⟨hm, fa, M, ⟨fd, ps, F, hF, ok, hb, hps⟩, kp⟩ := G.top.cls C x f hC hx
  refine ⟨fun pins s σ H Q I h => ?_⟩
  have q := nil_es (go_mk (fa := fa) G.top hC hF h)
  refine wpAny_Call_Name_kw (ld_glob I hg hm ?_ hd)
  exact PySem.W.callWith_K0 I.kIn M.kp (run_makeS (us := []) M ok C0.room hb (passAt G.tk σ) I .nil q)
theorem s_mk {x : Str} {C : Nat} {f : Nat} {p1 : Pos} {e : Expr} (G : Good T pl k N sc W X) (C0 : Calm k X) (hC : T.ini C = some f) (hx : pl.nm.cls[C]? = some x) (hg : Gl X x) (hd : (x == ("__debug__" : Str)) = false) (ha : PA X (e :: es) (tEs T pl X.K k W ie))
    (h1 : starEach (e :: es) X.env = (false, eval e X.env) :: starEach es X.env) (h2 : (backTo pos (starEach es X.env)).any (·.1) = false) :
    PE X (.Call (.Name x p1) (e :: es) [] pos) (tE T pl X.K k W (.mk C ie)) := by
  obtain ⟨hm, fa, M, ⟨fd, ps, F, hF, ok, hb, hps⟩, kp⟩ := G.top.cls C x f hC hx
  refine ⟨fun pins s σ H Q I h => ?_⟩
  have q := go_mk (fa := fa) G.top hC hF h
  refine wpAny_Call_Name_kw (ld_glob I hg hm ?_ hd)
  refine PySem.W.callWith_K (h₀ := X.base) I.ok.mod.kin M.kp (thn (ha.run pos pins s σ H _ I q) fun us s1 ⟨vs, H1, I1, r, q⟩ => ⟨I1.kIn, ?_⟩) h1 h2
  exact run_makeS M ok C0.room hb (passAt G.tk σ) I1 r q

/-! ### methods of the own classes -/
theorem rv_noobj {K : PySem.W.Frag} {ρ : List Addr} {H : Hp} {g : G} {v : V} {n : Nat} {C : Nat} {fs : List (Nat × D)} (rg : RG pl K ρ H g) (rv : RV K ρ H (.ref n) v) (e : g[n]? = some (.ins C fs)) : ∃ a dx fv, v = .ref a ∧ ρ[n]? = some a ∧ H a = some (.ins (pl.ca C) dx fv) ∧ RF pl.nm K ρ H fs fv ∧ ∃ f, pl.ini C = some f := by
  obtain ⟨p, rfl, hn, ⟨f, hi⟩, dx, fv, hp, hf⟩ := rx_obj rg (show RX K ρ H H v (.d (.ref n)) from rv) e
  exact ⟨p, dx, fv, rfl, hn, hp, hf, f, hi⟩
theorem go_mth {m : Nat} {x : Str} {σ : L2.St} {H : Hp} {Q : VK} (top : Top X.prog X.w X.K X.mg X.base pl T k) (hx : pl.nm.ats[m]? = some x) (h : tE T pl X.K k W (.mth ia m ie) σ H Q) :
    tE T pl X.K k W ia σ H fun v H1 => ∃ a C dx fv f fa fd ps F, v = .ref a ∧ H1 a = some (.ins C dx fv) ∧ Cls X.K C ∧ Meth X.K C x fa ∧ fv.lookup x = none ∧ T.fn f = some F ∧ FnOk X.prog X.w X.K X.mg X.base (L2.CX X.prog X.w) (2 * k) fa fd ps (spE pl X.K T F.np k f) ∧ Binds X.K fd ps [] ∧
      tEs T pl X.K k W ie σ H1 fun vs H2 => spE pl X.K T F.np k f (.ref a :: vs) H2 Q (WE W σ) := by
  obtain ⟨ρ, L, g, rl, rg, h⟩ := h
  rw [ev] at h
  refine ⟨ρ, L, g, rl, rg, (h.bind (Rel := relX X.K) since_X).imp fun v H1 ⟨ρ1, x1, g1, e1, rg1, rx, h⟩ => ?_⟩
  cases x1 with
  | tmp xs => exact h.elim
  | d d =>
    cases d with
    | ref n =>
      simp only at h
      cases eg : g1[n]? with
      | none => rw [eg] at h; exact h.elim
      | some o =>
        rw [eg] at h
        cases o with
        | ins C fs =>
          simp only at h
          cases em : T.mt C m with
          | none => rw [em] at h; exact h.elim
          | some f =>
            cases el : fs.lookup m with
            | some y => rw [em, el] at h; exact h.elim
            | none =>
              rw [em, el] at h
              simp only at h
              obtain ⟨a, dx, fv, rfl, hn, ha, hf, fi, hi⟩ := rv_noobj rg1 (show RV X.K ρ1 H1 (.ref n) v from rx) eg
              obtain ⟨fa, hmeth, ⟨fd, ps, F, hF, ok, hb, hps⟩, kp⟩ := top.mts C m f x em hx
              have := hf.2.2 m x hx
              rw [el] at this
              rw [top.ini] at hi
              refine ⟨a, pl.ca C, dx, fv, f, fa, fd, ps, F, rfl, ha, top.cl C fi hi, hmeth, this, hF, ok, hb, ρ1, L, g1, rl.mono e1, rg1, (h.bind (Rel := relDs X.K) since_X).imp fun vs H2 ⟨ρ2, ds, g2, e2, rg2, rs, h⟩ => ?_⟩
              have h' : Po pl X.K (relD X.K) ρ2 H2 (wish pl W σ) Q (runF T k f (.ref n :: ds) g2) := by
                revert h
                cases runF T k f (.ref n :: ds) g2 with
                | ok d g2 => exact fun h ρ' H' v e rg rv => h ρ' H' v e rg rv
                | ex x g2 => exact id
                | bad => exact id
              have ra : RV X.K ρ2 H2 (.ref n) (.ref a) := RV.mono e2 rx
              refine ⟨?_, ρ2, .ref n :: ds, g2, .cons ra rs, rg2, h'⟩
              have := len_of_run (α := D) hF h'
              simp [rs.len] at this ⊢
              omega
        | _ => exact h.elim
    | _ => exact h.elim
theorem s_mth {x : Str} {m : Nat} {e : Expr} {apos : Pos} {pli : Sem Bool} (G : Good T pl k N sc W X) (C0 : Calm k X) (ho : PE X a (tE T pl X.K k W ia)) (hx : pl.nm.ats[m]? = some x) (ha : PA X (e :: es) (tEs T pl X.K k W ie))
    (h1 : starEach (e :: es) X.env = (false, eval e X.env) :: starEach es X.env) (h2 : (backTo pos (starEach es X.env)).any (·.1) = false)
    (ht : eval (.Call (.Attribute a x apos) (e :: es) [] pos) X.env = (do
      let ov ← eval a X.env
      standAt apos.atName
      let (f, first) ← holding [ov] (getMethod ov x pli)
      callWith pos f first (backTo pos (starEach (e :: es) X.env)) (backToKw pos (keywordEach [] X.env)))) :
    PE X (.Call (.Attribute a x apos) (e :: es) [] pos) (tE T pl X.K k W (.mth ia m ie)) := by
  refine ⟨fun pins s σ H Q I h => ?_⟩
  refine PySem.W.methodCall_KW (pl := pli) (thn (ho.run pins s σ H _ I (go_mth G.top hx h)) fun u s1 ⟨v, H1, I1, rx, q⟩ => ?_) ht
  obtain ⟨p, C, dx, fv, f, fa, fd, ps, F, rfl, hp, c, hm, l, hF, ok, hb, q⟩ := q
  obtain rfl : u = Value.ref p := rx
  refine getmeth_ok I1 hp c hm l ?_
  refine PySem.W.callWith_K (first := [.ref p]) (h₀ := X.base) I.ok.mod.kin hm.kp (thn (ha.run pos pins s1 σ H1 _ I1 q) fun us s2 ⟨vs, H2, I2, r, q2⟩ => ⟨I2.kIn, ?_⟩) h1 h2
  exact run_fnS (us := .ref p :: us) (vs := .ref p :: vs) ok (C0.room.mono (Nat.le_succ _)) hb (passAt G.tk σ) I2 (.cons rfl r) q2
theorem s_mth0 {x : Str} {m : Nat} {apos : Pos} {pli : Sem Bool} (G : Good T pl k N sc W X) (C0 : Calm k X) (ho : PE X a (tE T pl X.K k W ia)) (hx : pl.nm.ats[m]? = some x)
    (ht : eval (.Call (.Attribute a x apos) [] [] pos) X.env = (do
      let ov ← eval a X.env
      standAt apos.atName
      let (f, first) ← holding [ov] (getMethod ov x pli)
      callWith pos f first (backTo pos (starEach [] X.env)) (backToKw pos (keywordEach [] X.env)))) :
    PE X (.Call (.Attribute a x apos) [] [] pos) (tE T pl X.K k W (.mth ia m .nil)) := by
  refine ⟨fun pins s σ H Q I h => ?_⟩
  refine PySem.W.methodCall_KW (pl := pli) (thn (ho.run pins s σ H _ I (go_mth G.top hx h)) fun u s1 ⟨v, H1, I1, rx, q⟩ => ?_) ht
  obtain ⟨p, C, dx, fv, f, fa, fd, ps, F, rfl, hp, c, hm, l, hF, ok, hb, q⟩ := q
  obtain rfl : u = Value.ref p := rx
  refine getmeth_ok I1 hp c hm l ?_
  exact PySem.W.callWith_K0 (first := [.ref p]) I1.kIn hm.kp (run_fnS (us := [.ref p]) (vs := [.ref p]) ok (C0.room.mono (Nat.le_succ _)) hb (passAt G.tk σ) I1 (.cons rfl .nil) (nil_es q))
end
end Sd
set_option Elab.async false
set_option linter.all false
set_option maxRecDepth 100000
set_option maxHeartbeats 1000000
/-! Snd8: methods of built-in types. -/
namespace Sd
open PySem PySem.Spec PyProof.Rows L2 Py
section
variable {T : Tb} {pl : Pl} {X : Cx} {k : Nat} {N : List Str} {sc : Scope} {W : WX} {ia ib ic : E} {ie : Es} {a b c : Expr} {es : List Expr} {pos : Pos}
/-- a method of a built-in type, by values -/
def rM (pl : Pl) (K : PySem.W.Frag) (B : BT) (m : BM) : V → List V → Hp → VK → Prop := fun x vs H Q => ∃ ρ g o ds z g' H1, RG pl K ρ H g ∧ RX K ρ H1 H x o ∧ RVs K ρ H ds vs ∧ bmeth g B m o ds = some (z, g') ∧
  ∀ ρ' H' v, Ext ρ ρ' H H' → RG pl K ρ' H' g' → RX K ρ' H H' v z → Q v H'
theorem RVs.one_inv {K : PySem.W.Frag} {ρ : List Addr} {H : Hp} {d : D} {vs : List V} (r : RVs K ρ H [d] vs) : ∃ v, vs = [v] ∧ RV K ρ H d v := by
  rw [RVs] at r
  obtain ⟨v, vr, rfl, q, r⟩ := r
  rw [RVs] at r
  subst r
  exact ⟨v, rfl, q⟩
theorem RVs.two_inv {K : PySem.W.Frag} {ρ : List Addr} {H : Hp} {d e : D} {vs : List V} (r : RVs K ρ H [d, e] vs) : ∃ v u, vs = [v, u] ∧ RV K ρ H d v ∧ RV K ρ H e u := by
  rw [RVs] at r
  obtain ⟨v, vr, rfl, q, r⟩ := r
  obtain ⟨u, rfl, q2⟩ := r.one_inv
  exact ⟨v, u, rfl, q, q2⟩
theorem RVs.nil_inv {K : PySem.W.Frag} {ρ : List Addr} {H : Hp} {vs : List V} (r : RVs K ρ H [] vs) : vs = [] := by
  rw [RVs] at r
  exact r
theorem mono_self {K : PySem.W.Frag} {ρ : List Addr} {H H' : Hp} (x : Mon K ρ ρ H H') {ds : List D} {vs : List V} (r : RVs K ρ H ds vs) : RVs K ρ H' ds vs := r.by_ x
/-- a list written -/
theorem lst_write {K : PySem.W.Frag} {ρ : List Addr} {H : Hp} {g : G} {n : Nat} {a : Addr} {ds es : List D} {vs us : List V} (rg : RG pl K ρ H g) (hn : ρ[n]? = some a) (hg : g[n]? = some (.lst ds)) (r : RVs K ρ H es us) :
    RG pl K ρ (upd H a (.lst us)) (g.set n (.lst es)) ∧ Ext ρ ρ H (upd H a (.lst us)) :=
  rg.write hn ⟨_, hg⟩ fun H' m e => ⟨us, e, r.by_ m⟩
theorem m_append : MtR X "list.append" (rM pl X.K .list .append) := by
  intro pins s σ H x vs v us Q I rx rs h
  obtain ⟨ρ, g, o, ds, z, g', H1, rg, ro, rd, e, q⟩ := h
  simp only [bmeth] at e
  split at e
  · rename_i n v0
    split at e
    · rename_i xs hg
      split at e
      · rename_i hl
        cases e
        obtain ⟨p, rfl, hn, ws, hp, hr⟩ := rx_obj rg ro hg
        obtain ⟨y, rfl, ry⟩ := rd.one_inv
        obtain ⟨rg', x'⟩ := lst_write (vs := ws) rg hn hg (hr.append (.one ry))
        exact mt_append pins s σ H _ _ v us Q I rx rs ⟨p, ws, y, rfl, rfl, hp, by rw [hr.len, ← line_eq]; exact hl, q ρ _ _ x' rg' RX.non⟩
      · cases e
    · cases e
  · cases e
theorem m_pop : MtR X "list.pop" (rM pl X.K .list .pop) := by
  intro pins s σ H x vs v us Q I rx rs h
  obtain ⟨ρ, g, o, ds, z, g', H1, rg, ro, rd, e, q⟩ := h
  simp only [bmeth] at e
  split at e
  · rename_i n
    split at e
    · rename_i xs hg
      obtain ⟨p, rfl, hn, ws, hp, hr⟩ := rx_obj rg ro hg
      obtain rfl := rd.nil_inv
      cases ey : xs[xs.length - 1]? with
      | none => rw [ey] at e; cases e
      | some y =>
        rw [ey] at e
        cases e
        obtain ⟨w, hw, rw'⟩ := hr.get ey
        obtain ⟨rg', x'⟩ := lst_write (vs := ws) rg hn hg hr.dropLast
        exact mt_pop pins s σ H _ _ v us Q I rx rs ⟨p, ws, w, rfl, rfl, hp, by rw [hr.len]; exact hw, q ρ _ _ x' rg' (RV.mono x' rw')⟩
    · cases e
  · cases e
theorem m_extend : MtR X "list.extend" (rM pl X.K .list .extend) := by
  intro pins s σ H x vs v us Q I rx rs h
  obtain ⟨ρ, g, o, ds, z, g', H1, rg, ro, rd, e, q⟩ := h
  simp only [bmeth] at e
  split at e
  · rename_i n m
    split at e
    · rename_i xs ys hg hg2
      split at e
      · rename_i hl
        cases e
        obtain ⟨p, rfl, hn, ws, hp, hr⟩ := rx_obj rg ro hg
        obtain ⟨y, rfl, ry⟩ := rd.one_inv
        obtain ⟨p2, rfl, hn2, ws2, hp2, hr2⟩ := ref_obj rg ry hg2
        obtain ⟨rg', x'⟩ := lst_write (vs := ws) rg hn hg (hr.append hr2)
        exact mt_extend pins s σ H _ _ v us Q I rx rs ⟨p, p2, ws, ws2, rfl, rfl, hp, hp2, by rw [hr.len, hr2.len, ← line_eq]; exact hl, q ρ _ _ x' rg' RX.non⟩
      · cases e
    · cases e
  · cases e
theorem toPys_get : ∀ (ts : List D) (i : Nat), (toPys ts)[i]? = (ts[i]?).map toPy
  | [], _ => by simp [toPys]
  | _ :: _, 0 => by simp [toPys]
  | _ :: ts, i + 1 => by simpa [toPys] using toPys_get ts i
theorem place_ok (t : D) : ∀ (ts : List D) (i j : Nat), place t i ts = some j → ∃ k, j = i + k ∧ ∃ z, ts[k]? = some z ∧ eqv z t = true ∧ ∀ m z', m < k → ts[m]? = some z' → eqv z' t = false
  | [], i, j, h => by cases h
  | z :: r, i, j, h => by
    unfold place at h
    split at h
    · rename_i hz
      cases h
      exact ⟨0, rfl, z, rfl, hz, fun m z' hm => absurd hm (Nat.not_lt_zero _)⟩
    · rename_i hz
      obtain ⟨k, rfl, z', h1, h2, h3⟩ := place_ok t r (i + 1) j h
      refine ⟨k + 1, by omega, z', by simpa using h1, h2, fun m z2 hm e => ?_⟩
      cases m with
      | zero =>
        simp at e
        subst e
        simpa using hz
      | succ m => exact h3 m z2 (by omega) (by simpa using e)
theorem m_index (hu : X.A.units + 66 < cLine) : MtR X "list.index" (rM pl X.K .list .index) := by
  intro pins s σ H x vs v us Q I rx rs h
  obtain ⟨ρ, g, o, ds, z, g', H1, rg, ro, rd, e, q⟩ := h
  simp only [bmeth] at e
  split at e
  · rename_i d
    split at e
    · rename_i ts t e1 e2
      cases ep : place t 0 ts with
      | none => rw [ep] at e; cases e
      | some i =>
        rw [ep] at e
        cases e
        obtain ⟨y, rfl, ry⟩ := rd.one_inv
        have t1 := trX_ok rg ro e1
        have t2 := tr_ok rg 60 d y t ry e2
        obtain ⟨j, ej, z', h1, h2, h3⟩ := place_ok t ts 0 i ep
        have ej : i = j := by omega
        subst ej
        have hl : ∃ l, x = V.ref l := by
          have := t1.dp
          simp only [toPy] at this
          cases this
          exact ⟨_, rfl⟩
        obtain ⟨l, rfl⟩ := hl
        refine mt_indexD (by omega) pins s σ H _ _ v us Q I rx rs ⟨l, y, toPy t, toPys ts, i, toPy z', rfl, rfl, by have := t1.dp; simpa only [toPy] using this, t2.dp, by have := t1.shaped (by omega); simpa only [toPy] using this, t2.shaped (by omega), ?_, ?_, ?_, ?_⟩
        · rw [toPys_get, h1]; rfl
        · rw [eqv_py]; exact h2
        · intro m z2 hm e
          rw [toPys_get] at e
          cases em : ts[m]? with
          | none => rw [em] at e; cases e
          | some z3 =>
            rw [em] at e
            cases e
            rw [eqv_py]
            exact h3 m z3 hm em
        · exact q ρ H _ .refl rg (RX.int _)
    · cases e
  · cases e
theorem m_get (hu : X.A.units + 66 < cLine) : MtR X "dict.get" (rM pl X.K .dict .get) := by
  intro pins s σ H x vs v us Q I rx rs h
  obtain ⟨ρ, g, o, ds, z, g', H1, rg, ro, rd, e, q⟩ := h
  simp only [bmeth] at e
  split at e
  · rename_i kd
    split at e
    · rename_i kvs hk
      cases ek : kyOf kd with
      | none => rw [ek] at e; cases e
      | some ky =>
        rw [ek] at e
        cases e
        obtain ⟨y, rfl, ry⟩ := rd.one_inv
        obtain ⟨a, r, rfl, dg, hr⟩ := dget_ok rg ro ry (o := look ky kvs) (.inl ⟨kvs, ky, hk, ek, rfl⟩)
        obtain rfl : v = Value.ref a := rx
        obtain ⟨u1, rfl, r1⟩ := rs.one
        refine d_get1 (by omega) I dg r1 fun w' s' I' rw' => ⟨_, H, I', rw', q ρ H _ .refl rg ?_⟩
        cases el : look ky kvs with
        | none => rw [el] at hr; rw [show r = none from hr]; exact RX.non
        | some d => rw [el] at hr; obtain ⟨w, rfl, hw⟩ := hr; exact hw
    · cases e
  · rename_i kd d
    split at e
    · rename_i kvs hk
      cases ek : kyOf kd with
      | none => rw [ek] at e; cases e
      | some ky =>
        rw [ek] at e
        cases e
        obtain ⟨y, y2, rfl, ry, ry2⟩ := rd.two_inv
        obtain ⟨a, r, rfl, dg, hr⟩ := dget_ok rg ro ry (o := look ky kvs) (.inl ⟨kvs, ky, hk, ek, rfl⟩)
        obtain rfl : v = Value.ref a := rx
        obtain ⟨u1, u2, rfl, r1, r2⟩ := rs.two
        refine d_get2 (by omega) I dg r1 r2 fun w' s' I' rw' => ⟨_, H, I', rw', q ρ H _ .refl rg ?_⟩
        cases el : look ky kvs with
        | none => rw [el] at hr; rw [show r = none from hr]; exact ry2
        | some d => rw [el] at hr; obtain ⟨w, rfl, hw⟩ := hr; exact hw
    · cases e
  · cases e
/-- what is put in -/
theorem putK_ok {κ κ' : Type} [DecidableEq κ] [DecidableEq κ'] {K : PySem.W.Frag} {ρ : List Addr} {H : Hp} (f : κ → κ') (inj : ∀ a b, f a = f b → a = b) (k : κ) {d : D} {v : V} (rv : RV K ρ H d v) {kvs : List (κ × D)} {vs : List (κ' × V)} (hk : vs.map (·.1) = kvs.map (fun p => f p.1)) (hr : RVs K ρ H (kvs.map (·.2)) (vs.map (·.2))) :
    (L2.putK vs (f k) v).map (·.1) = (Py.putK k d kvs).map (fun p => f p.1) ∧ RVs K ρ H ((Py.putK k d kvs).map (·.2)) ((L2.putK vs (f k) v).map (·.2)) := by
  have any : ∀ {kvs : List (κ × D)} {vs : List (κ' × V)}, vs.map (·.1) = kvs.map (fun p => f p.1) → (vs.any fun p => decide (p.1 = f k)) = (kvs.any fun p => decide (p.1 = k)) := by
    intro kvs
    induction kvs with
    | nil => intro vs h; have : vs = [] := by simpa using h
             subst this; rfl
    | cons p r ih =>
      intro vs h
      cases vs with
      | nil => simp at h
      | cons u vr =>
        simp only [List.map_cons, List.cons.injEq] at h
        rw [List.any_cons, List.any_cons, ih h.2, h.1]
        congr 1
        by_cases e : p.1 = k
        · simp [e]
        · have e' : ¬ f p.1 = f k := fun z => e (inj _ _ z)
          simp [e, e']
  unfold L2.putK Py.putK
  rw [any hk]
  split
  · rename_i hx
    clear any hx
    induction kvs generalizing vs with
    | nil =>
      have : vs = [] := by simpa using hk
      subst this
      exact ⟨rfl, .nil⟩
    | cons p r ih =>
      cases vs with
      | nil => simp at hk
      | cons u vr =>
        simp only [List.map_cons, List.cons.injEq] at hk
        simp only [List.map_cons] at hr
        rw [RVs] at hr
        obtain ⟨w, wr, e, q1, q2⟩ := hr
        simp only [List.cons.injEq] at e
        obtain ⟨rfl, rfl⟩ := e
        obtain ⟨i1, i2⟩ := ih hk.2 q2
        by_cases e : p.1 = k
        · have e' : u.1 = f k := by rw [hk.1, e]
          simp only [List.map_cons, e, e', if_true]
          refine ⟨?_, RVs.cons rv i2⟩
          simp only [List.cons.injEq]
          exact ⟨trivial, i1⟩
        · have e' : ¬ u.1 = f k := fun z => e (inj _ _ (hk.1.symm.trans z))
          simp only [List.map_cons, e, e', if_false]
          refine ⟨?_, RVs.cons q1 i2⟩
          simp only [List.cons.injEq]
          exact ⟨hk.1, i1⟩
  · simp only [List.map_append, List.map_cons, List.map_nil]
    exact ⟨by rw [hk], hr.append (.one rv)⟩
theorem m_setdefault : MtR X "dict.setdefault" (rM pl X.K .dict .setdefault) := by
  intro pins s σ H x vs v us Q I rx rs h
  obtain ⟨ρ, g, o, ds, z, g', H1, rg, ro, rd, e, q⟩ := h
  simp only [bmeth] at e
  split at e
  · rename_i n kd d
    split at e
    · rename_i kvs hg
      cases ek : kyOf kd with
      | none => rw [ek] at e; cases e
      | some ky =>
        simp only [ek, Option.bind_some] at e
        obtain ⟨y, y2, rfl, ry, ry2⟩ := rd.two_inv
        obtain ⟨a, rfl, hn, ws, hw, hk, hr⟩ := rx_obj rg ro hg
        obtain rfl : v = Value.ref a := rx
        obtain ⟨u1, u2, rfl, r1, r2⟩ := rs.two
        have lk := look_ok kyT (fun _ _ => kyT_inj) ky hk hr
        obtain rfl := kyOf_ok ry ek
        have hlen : ws.length = kvs.length := by
          have := congrArg List.length hk
          simpa using this
        split at e
        · rename_i w el
          cases e
          rw [el] at lk
          obtain ⟨w', ew, rw'⟩ := lk
          have hb := (dk_of I.hok hw).1
          by_cases hl : ws.length < sizeLine
          · refine d_setd I hw r1 r2 hl (fun v0 hv w2 s' I' r' => ⟨v0, H, I', r', q ρ H _ .refl rg ?_⟩) (fun hv => by rw [ew] at hv; cases hv)
            rw [ew] at hv
            cases hv
            exact rw'
          · obtain ⟨z, hd, vs0, rel, dd⟩ := dk_of I.hok hw
            have hz : vs0.length ≤ sizeLine := by
              rw [← rel.length]
              exact z
            refine call_meetsIn PySem.F.slot_dict_setdefault dd.typeIs PySem.F.entry_dict_setdefault (PySem.F.args_dict_setdefault_3 _ _ _) (kt_meets_setdefault (mixKind X.prog X.w) a (kV_is r1) hd u2) ⟨vs0, dd, hz, fun v hv => ?_, fun hn h' dd' hs => ?_⟩
            · have q1 := rel.val (kyT ky)
              rw [hv, ew] at q1
              exact ⟨w', H, I.tok _, q1, q ρ H _ .refl rg rw'⟩
            · have q1 := rel.val (kyT ky)
              rw [hn, ew] at q1
              exact (show False from q1).elim
        · rename_i el
          split at e
          · rename_i hl
            cases e
            rw [el] at lk
            have lk : valV ws (kyT ky) = none := lk
            obtain ⟨p1, p2⟩ := putK_ok kyT (fun _ _ => kyT_inj) ky ry2 hk hr
            obtain ⟨rg', x'⟩ := rg.write hn ⟨_, hg⟩ (o := .dk (Py.putK ky d kvs)) (u := .dK (L2.putK ws (kyT ky) y2)) fun H' m e => ⟨_, e, p1, p2.by_ m⟩
            refine d_setd I hw r1 r2 (by rw [hlen, ← line_eq]; exact hl) (fun v0 hv => by rw [lk] at hv; cases hv) (fun hv w2 s' I' r' => ⟨y2, _, I', r', q ρ _ _ x' rg' (RV.mono x' ry2)⟩)
          · cases e
    · cases e
  · cases e
theorem strs_ok {K : PySem.W.Frag} {ρ : List Addr} {H : Hp} : ∀ {ds : List D} {vs : List V} {ys : List Tx}, RVs K ρ H ds vs → strsOf ds = some ys → vs = (ys.map toS).map V.str
  | [], vs, ys, r, e => by rw [RVs] at r; subst r; cases e; rfl
  | d :: ds, vs, ys, r, e => by
    rw [RVs] at r
    obtain ⟨v, vr, rfl, q, r⟩ := r
    cases d <;> simp only [strsOf] at e <;> try cases e
    rename_i y
    cases e2 : strsOf ds with
    | none => rw [e2] at e; cases e
    | some ys' =>
      rw [e2] at e
      cases e
      rw [rv_str q, strs_ok r e2]
      rfl
theorem join_ok (z : Tx) : ∀ ys : List Tx, Str.join (toS z) (ys.map toS) = toS (joinT z ys)
  | [] => by simp only [List.map_nil]; rfl
  | [x] => rfl
  | x :: y :: r => by
    show toS x ++ toS z ++ Str.join (toS z) ((y :: r).map toS) = toS (x ++ z ++ joinT z (y :: r))
    rw [join_ok z (y :: r), toS_append, toS_append]
theorem m_join : MtR X "str.join" (rM pl X.K .str .join) := by
  intro pins s σ H x vs v us Q I rx rs h
  obtain ⟨ρ, g, o, ds, z, g', H1, rg, ro, rd, e, q⟩ := h
  simp only [bmeth] at e
  split at e
  · rename_i zt d h1
    cases ei : items g (.d d) with
    | none => rw [ei] at e; cases e
    | some xs =>
      cases es : strsOf xs with
      | none => simp [ei, es] at e
      | some ys =>
        simp only [ei, es, Option.bind_some] at e
        split at e
        · rename_i hl
          cases e
          obtain rfl := rx_str ro
          obtain ⟨y, rfl, ry⟩ := rd.one_inv
          obtain ⟨p, ws, rfl, hp, hr⟩ := items_ok rg (show RX X.K ρ H H y (.d d) from ry) ei
          obtain rfl := strs_ok hr es
          refine mt_join pins s σ H _ _ v us Q I rx rs ⟨toS zt, p, ys.map toS, rfl, rfl, hp, ?_, ?_⟩
          · have e1 : ((ys.map toS).map fun x => x.length) = ys.map List.length := by
              rw [List.map_map]
              exact List.map_congr_left fun x _ => toS_len x
            rw [e1, List.length_map, toS_len]
            exact of_decide_eq_true hl
          · rw [TL.join_eq, join_ok]
            exact q ρ H _ .refl rg (RX.str _)
        · cases e
  · cases e

/-! ### o.m(..) -/
def btN : BT → String
  | .list => "list" | .dict => "dict" | .str => "str"
def bmN : BM → String
  | .append => "append" | .extend => "extend" | .pop => "pop" | .index => "index" | .count => "count" | .insert => "insert" | .get => "get" | .setdefault => "setdefault" | .update => "update" | .join => "join" | .startswith => "startswith" | .lower => "lower" | .lstrip => "lstrip" | .split => "split" | .copy => "copy"
structure BmKit (pl : Pl) (X : Cx) (B : BT) (m : BM) (id : String) : Prop where
  pa : PlainAttrs (btN B)
  slot : Slot (btN B) (Str.ofString (bmN m)) id
  ty : typeOf (.builtin id) = pure (.type "method_descriptor")
  mt : MtR X id (rM pl X.K B m)
theorem bm_kit (hu : X.A.units + 66 < cLine) (B : BT) (m : BM) (h : bmok B m = true) : ∃ id, BmKit pl X B m id := by
  cases B with
  | list =>
    cases m with
    | append => exact ⟨_, F.plainAttrs_list, F.slot_list_append, F.type_list_append, m_append⟩
    | pop => exact ⟨_, F.plainAttrs_list, F.slot_list_pop, F.type_list_pop, m_pop⟩
    | extend => exact ⟨_, F.plainAttrs_list, F.slot_list_extend, F.type_list_extend, m_extend⟩
    | index => exact ⟨_, F.plainAttrs_list, F.slot_list_index, F.type_list_index, m_index hu⟩
    | _ => cases h
  | dict =>
    cases m with
    | get => exact ⟨_, F.plainAttrs_dict, F.slot_dict_get, F.type_dict_get, m_get hu⟩
    | setdefault => exact ⟨_, F.plainAttrs_dict, F.slot_dict_setdefault, F.type_dict_setdefault, m_setdefault⟩
    | _ => cases h
  | str =>
    cases m with
    | join => exact ⟨_, F.plainAttrs_str, F.slot_str_join, F.type_str_join, m_join⟩
    | _ => cases h
theorem bty_ok {ρ : List Addr} {H H1 : Hp} {g : G} {v : V} {o : XV} {B : BT} (rg : RG pl X.K ρ H g) (r : RX X.K ρ H1 H v o) (e : btype g o = some B) : tyV X.K (btN B) v H := by
  unfold btype at e
  split at e
  · cases e
    obtain ⟨a, vs, rfl, ha, _⟩ := r
    exact .inl ⟨rfl, vs, .of ha⟩
  · cases e
    obtain rfl := rx_str r
    rfl
  · split at e
    · rename_i hg
      cases e
      obtain ⟨a, rfl, hn, vs, ha, _⟩ := rx_obj rg r hg
      exact .inl ⟨rfl, vs, .of ha⟩
    · rename_i hg
      cases e
      obtain ⟨a, rfl, hn, vs, ha, _⟩ := rx_obj rg r hg
      exact .inr (.inr (.inl ⟨rfl, .inl ⟨vs, ha⟩⟩))
    · rename_i hg
      cases e
      obtain ⟨a, rfl, hn, vs, ha, _⟩ := rx_obj rg r hg
      exact .inr (.inr (.inl ⟨rfl, .inr ⟨vs, ha⟩⟩))
    · cases e
  · cases e
theorem go_bm {m : BM} {σ : L2.St} {H : Hp} {Q : VK} (hu : X.A.units + 66 < cLine) (h : tE T pl X.K k W (.bm m ia ie) σ H Q) : tE T pl X.K k W ia σ H fun x H1 => ∃ B id, tyV X.K (btN B) x H1 ∧ BmKit pl X B m id ∧ tEs T pl X.K k W ie σ H1 fun vs H2 => rM pl X.K B m x vs H2 Q := by
  obtain ⟨ρ, L, g, rl, rg, h⟩ := h
  rw [ev] at h
  refine ⟨ρ, L, g, rl, rg, (h.bind (Rel := relX X.K) since_X).imp fun v H1 ⟨ρ1, x, g1, e1, rg1, rx, h⟩ => ?_⟩
  cases eb : btype g1 x with
  | none => simp only [eb] at h; exact h.elim
  | some B =>
    simp only [eb] at h
    by_cases hok : bmok B m = true
    · rw [if_pos hok] at h
      obtain ⟨id, kit⟩ := bm_kit (pl := pl) hu B m hok
      refine ⟨B, id, bty_ok rg1 rx eb, kit, ρ1, L, g1, rl.mono e1, rg1, (h.bind (Rel := relDs X.K) since_X).imp fun vs H2 ⟨ρ2, ds, g2, e2, rg2, rs, h⟩ => ?_⟩
      cases em : bmeth g2 B m x ds with
      | none => simp only [em] at h; exact h.elim
      | some z =>
        simp only [em] at h
        exact ⟨ρ2, g2, x, ds, z.1, z.2, H, rg2, rx.mono e2, rs, em, h⟩
    · rw [if_neg hok] at h
      exact h.elim
theorem s_bm0 {m : BM} {apos : Pos} (hu : X.A.units + 66 < cLine) (ho : PE X a (tE T pl X.K k W ia))
    (hbase : attributeBase a (Str.ofString (bmN m)) X.env (eval a X.env) = eval a X.env) (hline : (apos.endLine == pos.line) = true) : PE X (.Call (.Attribute a (Str.ofString (bmN m)) apos) [] [] pos) (tE T pl X.K k W (.bm m ia .nil)) := by
  refine ⟨fun pins s σ H Q I h => ?_⟩
  refine wpAny_Call_method0_late hbase hline (thn (ho.run pins s σ H _ I (go_bm hu h)) fun v s1 ⟨x, H1, I1, r1, B, id, ty, kit, q1⟩ => ?_)
  obtain ⟨h1, h2⟩ := tyV_is I1 r1 ty
  exact ⟨btN B, id, kit.pa, kit.slot, kit.ty, h1, h2, Calls.callWith_builtin rfl (PySem.evalArgs_none (kit.mt pins s1 σ H1 x [] v [] Q I1 r1 .nil (nil_es q1)))⟩
theorem s_bm {m : BM} {apos : Pos} {e : Expr} (hu : X.A.units + 66 < cLine) (ho : PE X a (tE T pl X.K k W ia)) (ha : PA X (e :: es) (tEs T pl X.K k W ie))
    (hbase : attributeBase a (Str.ofString (bmN m)) X.env (eval a X.env) = eval a X.env)
    (hfew : ((backTo pos (starEach (e :: es) X.env)).all (fun x => !x.1) && (backToKw pos (keywordEach [] X.env)).all (fun x => x.1.isSome)
      && decide ((e :: es).length + ([] : List Keyword).length + (if ([] : List Keyword).isEmpty then 0 else 1) < 30)) = true)
    (hline : (apos.endLine == pos.line) = true) (hs : starEach (e :: es) X.env = (false, eval e X.env) :: starEach es X.env) (hplain : (backTo pos (starEach es X.env)).any (·.1) = false) :
    PE X (.Call (.Attribute a (Str.ofString (bmN m)) apos) (e :: es) [] pos) (tE T pl X.K k W (.bm m ia ie)) := by
  refine ⟨fun pins s σ H Q I h => ?_⟩
  refine wpAny_Call_method_late hbase hfew hline rfl (thn (ho.run pins s σ H _ I (go_bm hu h)) fun v s1 ⟨x, H1, I1, r1, B, id, ty, kit, q1⟩ => ?_)
  obtain ⟨h1, h2⟩ := tyV_is I1 r1 ty
  refine ⟨btN B, id, kit.pa, kit.slot, kit.ty, h1, h2, ?_⟩
  have hA := ha.run pos pins s1 σ H1 _ I1 q1
  rw [hs] at hA ⊢
  refine Calls.callWith_builtin (by show (false || (backTo pos (starEach es X.env)).any (·.1)) = false; rw [hplain] <;> rfl) (Calls.evalArgs_plain ?_)
  exact thn hA fun us s2 ⟨vs, H2, I2, r2, q2⟩ => kit.mt pins s2 σ H2 x vs v us Q I2 r1 r2 q2
end
end Sd
set_option Elab.async false
set_option linter.all false
set_option maxRecDepth 100000
set_option maxHeartbeats 1000000
/-! Snd9: what a for walks; targets; comprehensions. -/
namespace Sd
open PySem PySem.Spec PyProof.Rows L2 Py
/-- a turn of the one is a turn of the other -/
def StepVal (pl : Pl) (K : PySem.W.Frag) (J : L2.It) (ρ : List Addr) (H : Hp) (g : G) (i : Nat) : Option D → Prop
  | none => J.stop i H
  | some d => J.go i H ∧ ∀ x H', J.yld i H x H' → ∃ ρ', Ext ρ ρ' H H' ∧ RG pl K ρ' H' g ∧ RV K ρ' H' d x
def StepOk (pl : Pl) (K : PySem.W.Frag) (J : L2.It) (it : Py.It) (ρ : List Addr) (H : Hp) (g : G) (i : Nat) : Prop := ∀ o, turn g it i = some o → StepVal pl K J ρ H g i o
abbrev relI (pl : Pl) (K : PySem.W.Frag) : List Addr → Hp → Hp → L2.It → Py.It → Prop := fun ρ _ H J it => ∀ ρ' H', Ext ρ ρ' H H' → ∀ g, RG pl K ρ' H' g → ∀ i, StepOk pl K J it ρ' H' g i
theorem since_I {pl : Pl} {K : PySem.W.Frag} : Since (relI pl K) := fun _ _ _ _ _ _ _ _ _ _ h => h
def tI (T : Tb) (pl : Pl) (K : PySem.W.Frag) (k : Nat) (W : WX) (s : Src) : TI := fun σ H R =>
  ∃ ρ L g, RL K ρ H σ L ∧ RG pl K ρ H g ∧ Po pl K (relI pl K) ρ H (wish pl W σ) R (evI T (runF T k) s L g)
section
variable {pl : Pl} {K : PySem.W.Frag} {ρ ρ' : List Addr} {H H' H0 : Hp} {g : G} {a : Addr} {v : V} {d : D}
theorem rel_list {ds : List D} {vs : List V} (hs : ∀ ρ' H', Ext ρ ρ' H H' → SqL K H' a vs) (r : RVs K ρ H ds vs) : relI pl K ρ H0 H (Itl K a) (.vals ds) := by
  intro ρ' H' e g rg i
  have r' := r.mono e
  have h' := hs ρ' H' e
  intro o eo
  cases eo
  cases ed : ds[i]? with
  | none =>
    refine ⟨vs, h', ?_⟩
    rw [r'.len]
    exact List.getElem?_eq_none_iff.mp ed
  | some d =>
    obtain ⟨w, h1, h2⟩ := r'.get ed
    refine ⟨⟨vs, w, h', h1⟩, fun x H'' y => ?_⟩
    obtain ⟨rfl, y⟩ := y
    have := y vs h'
    rw [h1] at this
    cases this
    exact ⟨ρ', .refl, rg, h2⟩
theorem rel_tup {ds : List D} {vs : List V} (hs : SqT K H a vs) (r : RVs K ρ H ds vs) : relI pl K ρ H0 H (Itt K a) (.vals ds) := by
  intro ρ' H' e g rg i
  have r' := r.mono e
  have h' := e.sqT hs
  intro o eo
  cases eo
  cases ed : ds[i]? with
  | none =>
    refine ⟨vs, h', ?_⟩
    rw [r'.len]
    exact List.getElem?_eq_none_iff.mp ed
  | some d =>
    obtain ⟨w, h1, h2⟩ := r'.get ed
    refine ⟨⟨vs, w, h', h1⟩, fun x H'' y => ?_⟩
    obtain ⟨rfl, y⟩ := y
    have := y vs h'
    rw [h1] at this
    cases this
    exact ⟨ρ', .refl, rg, h2⟩
theorem rel_ref {n : Nat} (hn : ρ[n]? = some a) : relI pl K ρ H0 H (Itl K a) (.lst n) := by
  intro ρ' H' e g rg i o eo
  simp only [turn] at eo
  split at eo
  · rename_i ds eg
    cases eo
    obtain ⟨vs, h', r'⟩ := rg.of eg (e.at hn)
    cases ed : ds[i]? with
    | none =>
      refine ⟨vs, .of h', ?_⟩
      rw [r'.len]
      exact List.getElem?_eq_none_iff.mp ed
    | some d =>
      obtain ⟨w, h1, h2⟩ := r'.get ed
      refine ⟨⟨vs, w, .of h', h1⟩, fun x H'' y => ?_⟩
      obtain ⟨rfl, y⟩ := y
      have := y vs (.of h')
      rw [h1] at this
      cases this
      exact ⟨ρ', .refl, rg, h2⟩
  · cases eo
theorem rel_rng {lo : Int} {n : Nat} : relI pl K ρ H0 H (Itr lo n) (.rng lo n) := by
  intro ρ' H' e g rg i o eo
  cases eo
  by_cases h : i < n
  · rw [if_pos h]
    refine ⟨h, fun x H'' y => ?_⟩
    obtain ⟨rfl, rfl⟩ := y
    exact ⟨ρ', .refl, rg, RV.int _⟩
  · rw [if_neg h]
    exact Nat.le_of_not_lt h
theorem cps_get (z : Tx) (i : Nat) : (toS z).cps[i]? = (z[i]?).map Char.toNat := by
  unfold toS
  simp
theorem rel_sgn {z : Tx} : relI pl K ρ H0 H (Its (toS z)) (.sgn z) := by
  intro ρ' H' e g rg i o eo
  cases eo
  have hz : (toS z).cps.size = z.length := by simp [toS]
  cases ez : z[i]? with
  | none =>
    show (toS z).cps.size ≤ i
    rw [hz]
    exact List.getElem?_eq_none_iff.mp ez
  | some c =>
    refine ⟨?_, fun x H'' y => ?_⟩
    · show i < (toS z).cps.size
      rw [hz]
      exact (List.getElem?_eq_some_iff.mp ez).1
    · obtain ⟨rfl, c', h1, rfl⟩ := y
      rw [cps_get, ez] at h1
      cases h1
      exact ⟨ρ', .refl, rg, RV.str [c]⟩
theorem rel_enum_step {ds : List D} {vs : List V} {i : Nat} (h' : SqL K H' a vs) (rg : RG pl K ρ H' g) (r' : RVs K ρ H' ds vs) :
    StepVal pl K (Ite K a) ρ H' g i ((ds[i]?).map (fun d => D.tup [.int i, d])) := by
  cases ed : ds[i]? with
  | none =>
    refine ⟨vs, h', ?_⟩
    rw [r'.len]
    exact List.getElem?_eq_none_iff.mp ed
  | some d =>
    obtain ⟨w, h1, h2⟩ := r'.get ed
    refine ⟨⟨vs, w, h', h1⟩, fun x H'' y => ?_⟩
    obtain ⟨p, x', rfl, hp, rfl, y⟩ := y
    have := y vs h'
    rw [h1] at this
    cases this
    have e : Ext ρ ρ H' (upd H' p (.tup [.int (i : Nat), w])) := .fresh hp
    refine ⟨ρ, e, rg.fresh hp, RV.tup upd_same (.cons (RV.int _) (.one (h2.mono e)))⟩
theorem rel_enumL {n : Nat} (hn : ρ[n]? = some a) : relI pl K ρ H0 H (Ite K a) (.enumL n) := by
  intro ρ' H' e g rg i o eo
  simp only [turn] at eo
  split at eo
  · rename_i ds eg
    cases eo
    obtain ⟨vs, h', r'⟩ := rg.of eg (e.at hn)
    exact rel_enum_step (.of h') rg r'
  · cases eo
theorem rel_enumT {ds : List D} {vs : List V} (hs : ∀ ρ' H', Ext ρ ρ' H H' → SqL K H' a vs) (r : RVs K ρ H ds vs) : relI pl K ρ H0 H (Ite K a) (.enumT ds) := by
  intro ρ' H' e g rg i o eo
  cases eo
  exact rel_enum_step (hs ρ' H' e) rg (r.mono e)
end
section
variable {T : Tb} {pl : Pl} {X : Cx} {k : Nat} {N : List Str} {sc : Scope} {W : WX} {ia ib ic : E} {ie : Es} {a b c tg : Expr} {es : List Expr} {pos : Pos}
theorem i_it (ha : PE X a (tE T pl X.K k W ia)) : PI X tg a (tI T pl X.K k W (.it ia)) := by
  refine ⟨fun pins s σ H R I h => ?_⟩
  obtain ⟨ρ, L, g, rl, rg, h⟩ := h
  rw [evI] at h
  cases er : ev T (runF T k) ia L g with
  | bad => rw [er] at h; exact h.elim
  | ex x g1 =>
    rw [er] at h
    refine (pi_list ha).run pins s σ H R I ⟨ρ, L, g, rl, rg, ?_⟩
    rw [er]
    exact h
  | ok x g1 =>
    rw [er] at h
    have hL : ∀ {ds : List D}, (∀ ρ' H' v, Ext ρ ρ' H H' → RG pl X.K ρ' H' g1 → RX X.K ρ' H H' v x → ∃ p vs, v = .ref p ∧ (∀ ρ2 H2, Ext ρ' ρ2 H' H2 → SqL X.K H2 p vs) ∧ RVs X.K ρ' H' ds vs) → Po pl X.K (relI pl X.K) ρ H (wish pl W σ) R (.ok (.vals ds) g1) →
        wpAny (model X.prog X.w) X.A (eval a X.env) (fun v s1 => wpAny (model X.prog X.w) X.A (pyIter v) (PIE X pins σ tg R) X.xe s1) X.xe s := by
      intro ds hx h
      refine (pi_list ha).run pins s σ H R I ⟨ρ, L, g, rl, rg, ?_⟩
      rw [er]
      intro ρ' H' v e rg' rx
      obtain ⟨p, vs, rfl, hs, r⟩ := hx ρ' H' v e rg' rx
      exact ⟨p, rfl, ⟨vs, hs ρ' H' .refl⟩, h ρ' H' _ e rg' (rel_list (H0 := H) hs r)⟩
    have hT : ∀ {ds : List D}, (∀ ρ' H' v, Ext ρ ρ' H H' → RG pl X.K ρ' H' g1 → RX X.K ρ' H H' v x → ∃ p vs, v = .ref p ∧ SqT X.K H' p vs ∧ RVs X.K ρ' H' ds vs) → Po pl X.K (relI pl X.K) ρ H (wish pl W σ) R (.ok (.vals ds) g1) →
        wpAny (model X.prog X.w) X.A (eval a X.env) (fun v s1 => wpAny (model X.prog X.w) X.A (pyIter v) (PIE X pins σ tg R) X.xe s1) X.xe s := by
      intro ds hx h
      refine (pi_tup ha).run pins s σ H R I ⟨ρ, L, g, rl, rg, ?_⟩
      rw [er]
      intro ρ' H' v e rg' rx
      obtain ⟨p, vs, rfl, hs, r⟩ := hx ρ' H' v e rg' rx
      exact ⟨p, rfl, ⟨vs, hs⟩, h ρ' H' _ e rg' (rel_tup (H0 := H) hs r)⟩
    cases x with
    | tmp xs =>
      refine hL (fun ρ' H' v e rg' rx => ?_) h
      obtain ⟨p, vs, rfl, hp, r, n, z⟩ := rx
      exact ⟨p, vs, rfl, fun ρ2 H2 e2 => .of (e2.keep _ _ hp n), r⟩
    | d d =>
      cases d with
      | tup xs =>
        refine hT (fun ρ' H' v e rg' rx => ?_) h
        obtain ⟨p, vs, rfl, hp, r⟩ := rx_tup rx
        exact ⟨p, vs, rfl, .of hp, r⟩
      | kt xs =>
        refine hT (fun ρ' H' v e rg' rx => ?_) h
        obtain ⟨p, vs, rfl, hp, r⟩ := rx_kt rx
        exact ⟨p, vs, rfl, hp, r⟩
      | ls xs =>
        refine hL (fun ρ' H' v e rg' rx => ?_) h
        obtain ⟨p, vs, rfl, hp, r⟩ := rx_ls rx
        exact ⟨p, vs, rfl, fun ρ2 H2 e2 => (e2.fzL hp).sq, r⟩
      | str z =>
        refine (pi_str ha).run pins s σ H R I ⟨ρ, L, g, rl, rg, ?_⟩
        rw [er]
        intro ρ' H' v e rg' rx
        obtain rfl := rx_str rx
        exact ⟨_, rfl, h ρ' H' _ e rg' (rel_sgn (H0 := H))⟩
      | ref n =>
        simp only [Py.R.bind] at h
        cases eg : g1[n]? with
        | none => rw [eg] at h; exact h.elim
        | some o =>
          rw [eg] at h
          cases o with
          | lst xs =>
            refine (pi_list ha).run pins s σ H R I ⟨ρ, L, g, rl, rg, ?_⟩
            rw [er]
            intro ρ' H' v e rg' rx
            obtain ⟨p, rfl, hn, vs, hp, r⟩ := rx_obj rg' rx eg
            exact ⟨p, rfl, ⟨vs, .of hp⟩, h ρ' H' _ e rg' (rel_ref (H0 := H) hn)⟩
          | _ => exact h.elim
      | _ => exact h.elim
/-- the names of the built-in iterators are not the module's -/
theorem i_rng1 {p1 : Pos} (G : Good T pl k N sc W X) (hg : Gl X "range") (ha : PE X a (tE T pl X.K k W ia)) (hs : ∀ r, starEach (a :: r) X.env = (false, eval a X.env) :: starEach r X.env) : PI X tg (.Call (.Name "range" p1) [a] [] pos) (tI T pl X.K k W (.rng (.cons ia .nil))) := by
  have hm := G.top.blt "range" (by decide +kernel)
  refine ⟨fun pins s σ H R I h => (pi_range1 hg hm (pa_cons ha pa_nil (hs _)) (by rw [hs []]; rfl)).run pins s σ H R I ?_⟩
  obtain ⟨ρ, L, g, rl, rg, h⟩ := h
  rw [evI] at h
  refine ⟨ρ, L, g, rl, rg, (h.bind (Rel := relX X.K) since_I).imp fun v H1 ⟨ρ1, x, g1, e1, rg1, rx, h⟩ => ?_⟩
  split at h
  · rename_i j
    split at h
    · rename_i hj
      simp only [Bool.and_eq_true, decide_eq_true_eq] at hj
      obtain rfl := rx_int rx
      exact ⟨j, rfl, hj.1, hj.2, h ρ1 H1 _ .refl rg1 (rel_rng (H0 := H1))⟩
    · exact h.elim
  · exact h.elim
theorem i_rng2 {p1 : Pos} (G : Good T pl k N sc W X) (hg : Gl X "range") (ha : PE X a (tE T pl X.K k W ia)) (hb : PE X b (tE T pl X.K k W ib)) (hs : ∀ r, starEach (a :: r) X.env = (false, eval a X.env) :: starEach r X.env) (hs2 : ∀ r, starEach (b :: r) X.env = (false, eval b X.env) :: starEach r X.env) :
    PI X tg (.Call (.Name "range" p1) [a, b] [] pos) (tI T pl X.K k W (.rng (.cons ia (.cons ib .nil)))) := by
  have hm := G.top.blt "range" (by decide +kernel)
  refine ⟨fun pins s σ H R I h => (pi_range2 hg hm (pa_cons ha (pa_cons hb pa_nil (hs2 _)) (hs _)) (by rw [hs, hs2]; rfl) (by rw [hs2]; rfl)).run pins s σ H R I ?_⟩
  obtain ⟨ρ, L, g, rl, rg, h⟩ := h
  rw [evI] at h
  refine ⟨ρ, L, g, rl, rg, (h.bind (Rel := relX X.K) since_I).imp fun v H1 ⟨ρ1, x, g1, e1, rg1, rx, h⟩ => ?_⟩
  refine ⟨ρ1, L, g1, rl.mono e1, rg1, (h.bind (Rel := relX X.K) since_I).imp fun u H2 ⟨ρ2, y, g2, e2, rg2, ry, h⟩ => ?_⟩
  have key : ∃ i j, x = .d (.int i) ∧ y = .d (.int j) := by
    split at h
    · exact ⟨_, _, rfl, rfl⟩
    · exact h.elim
  obtain ⟨i, j, rfl, rfl⟩ := key
  simp only at h
  split at h
  · rename_i hj
    simp only [Bool.and_eq_true, decide_eq_true_eq] at hj
    obtain rfl := rx_int ry
    obtain rfl := rx_int rx
    exact ⟨i, j, rfl, ⟨hj.1.1.1, hj.1.1.2, hj.1.2, hj.2⟩, h ρ2 H2 _ .refl rg2 (rel_rng (H0 := H1))⟩
  · exact h.elim
theorem i_enum {p1 tpos : Pos} {elts : List Expr} {kk : Nat} (G : Good T pl k N sc W X) (hg : Gl X "enumerate") (ha : PE X a (tE T pl X.K k W ia)) (hs : ∀ r, starEach (a :: r) X.env = (false, eval a X.env) :: starEach r X.env) :
    PI X (.Tuple elts kk tpos) (.Call (.Name "enumerate" p1) [a] [] pos) (tI T pl X.K k W (.enum ia)) := by
  have hm := G.top.blt "enumerate" (by decide +kernel)
  refine ⟨fun pins s σ H R I h => (pi_enum hg hm (pa_cons ha pa_nil (hs _)) (by rw [hs []]; rfl)).run pins s σ H R I ?_⟩
  obtain ⟨ρ, L, g, rl, rg, h⟩ := h
  rw [evI] at h
  refine ⟨ρ, L, g, rl, rg, (h.bind (Rel := relX X.K) since_I).imp fun v H1 ⟨ρ1, x, g1, e1, rg1, rx, h⟩ => ?_⟩
  split at h
  · rename_i xs
    obtain ⟨p, vs, rfl, hp, r, n, z⟩ := rx
    exact ⟨p, vs, rfl, .of hp, h ρ1 H1 _ .refl rg1 (rel_enumT (H0 := H1) (fun ρ2 H2 e2 => .of (e2.keep _ _ hp n)) r)⟩
  · rename_i n
    split at h
    · rename_i xs eg
      obtain ⟨p, rfl, hn, vs, hp, r⟩ := rx_obj rg1 rx eg
      exact ⟨p, vs, rfl, .of hp, h ρ1 H1 _ .refl rg1 (rel_enumL (H0 := H1) hn)⟩
    · exact h.elim
  · exact h.elim
end
end Sd
set_option Elab.async false
set_option linter.all false
set_option maxRecDepth 100000
set_option maxHeartbeats 1000000
/-! Snd10: targets, comprehensions. -/
namespace Sd
open PySem PySem.Spec PyProof.Rows L2 Py
/-- the slots but those of own -/
def RLx (K : PySem.W.Frag) (ρ : List Addr) (H : Hp) (σ : L2.St) (L : Lc) (own : List Nat) : Prop :=
  σ.length = L.length ∧ ∀ (i : Nat) d, i ∉ own → L[i]? = some (some d) → ∃ v, σ[i]? = some (some v) ∧ RV K ρ H d v
theorem RL.x {K : PySem.W.Frag} {ρ : List Addr} {H : Hp} {σ : L2.St} {L : Lc} (h : RL K ρ H σ L) (own : List Nat) : RLx K ρ H σ L own := ⟨h.1, fun i d _ e => h.2 i d e⟩
theorem RLx.mono {K : PySem.W.Frag} {ρ ρ' : List Addr} {H H' : Hp} (x : Ext ρ ρ' H H') {σ : L2.St} {L : Lc} {own : List Nat} (h : RLx K ρ H σ L own) : RLx K ρ' H' σ L own :=
  ⟨h.1, fun i d n e => let ⟨v, q, r⟩ := h.2 i d n e; ⟨v, q, r.mono x⟩⟩
theorem RLx.set {K : PySem.W.Frag} {ρ : List Addr} {H : Hp} {σ : L2.St} {L : Lc} {own : List Nat} {d : D} {v : V} (h : RLx K ρ H σ L own) (r : RV K ρ H d v) (i : Nat) : RLx K ρ H (σ.set i (some v)) (L.set i (some d)) (own.filter (· ≠ i)) := by
  refine ⟨by simp [h.1], fun j e n q => ?_⟩
  by_cases hj : i = j
  · subst hj
    have hl : i < L.length := by
      have := (List.getElem?_eq_some_iff.mp q).1
      simpa using this
    rw [List.getElem?_set_self hl] at q
    cases q
    exact ⟨v, by rw [List.getElem?_set_self (by rw [h.1]; exact hl)], r⟩
  · rw [List.getElem?_set_ne hj] at q
    obtain ⟨u, q1, q2⟩ := h.2 j e (fun m => n (by simp [m, Ne.symm hj])) q
    exact ⟨u, by rw [List.getElem?_set_ne hj]; exact q1, q2⟩
theorem RLx.rl {K : PySem.W.Frag} {ρ : List Addr} {H : Hp} {σ : L2.St} {L : Lc} (h : RLx K ρ H σ L []) : RL K ρ H σ L := ⟨h.1, fun i d e => h.2 i d (by simp) e⟩
/-- a target -/
def tG (pl : Pl) (K : PySem.W.Frag) (t : Tg) : TG := fun v σ H Q => ∃ ρ L g d L1, RLx K ρ H σ L t.own ∧ RG pl K ρ H g ∧ RV K ρ H d v ∧ asg t d g L = some L1 ∧
  ∀ σ1, RL K ρ H σ1 L1 → σ1.length = σ.length → (∀ i, i ∉ t.own → σ1[i]? = σ[i]?) → Q σ1 H
def NmsOk (X : Cx) : List Expr → List Nat → Prop
  | [], [] => True
  | .Name x p :: es, i :: is => X.N[i]? = some x ∧ Loc X.env.scope x ∧ (X.fn x = true ∨ X.env.scope.names.lookup x = some .local) ∧ NmsOk X es is
  | _, _ => False
def gNms (is : List Nat) : TGs := fun vs σ H Q => vs.length = is.length ∧ Q ((is.zip vs).foldl (fun σ p => σ.set p.1 (some p.2)) σ) H
section
variable {T : Tb} {pl : Pl} {X : Cx} {k : Nat} {N : List Str} {sc : Scope} {W : WX} {ia ib ic : E} {ie : Es} {a b c tg : Expr} {es : List Expr} {pos : Pos}
theorem g_nm {i : Nat} {x : Str} (nd : X.N.Nodup) (hi : X.N[i]? = some x) (hx : Loc X.env.scope x) (hf : X.fn x = true ∨ X.env.scope.names.lookup x = some .local) : PG X (.Name x pos) (tG pl X.K (.nm i)) := by
  refine ⟨fun pins s σ H v u Q I r h => (pg_name nd hi hx hf).run pins s σ H v u Q I r ?_⟩
  obtain ⟨ρ, L, g, d, L1, rl, rg, rv, e, q⟩ := h
  cases e
  have h1 := rl.set rv i
  have e1 : (Tg.own (.nm i)).filter (· ≠ i) = [] := by simp [Tg.own]
  rw [e1] at h1
  exact q _ h1.rl (by simp) fun j hj => List.getElem?_set_ne (fun e => hj (by simp [Tg.own, e]))
theorem gs_nms (nd : X.N.Nodup) : ∀ {es : List Expr} {is : List Nat}, NmsOk X es is → PGs X es (gNms is)
  | [], [], _ => by
    refine ⟨fun pins s σ H vs us Q I r h => pgs_nil.run pins s σ H vs us Q I r ?_⟩
    obtain ⟨hl, q⟩ := h
    have : vs = [] := by simpa using hl
    subst this
    exact ⟨rfl, q⟩
  | e :: es, i :: is, h => by
    cases e with
    | Name x p =>
      obtain ⟨h1, h2, h3, h4⟩ := h
      refine ⟨fun pins s σ H vs us Q I r q => (pgs_cons (pg_name (pos := p) nd h1 h2 h3) (gs_nms nd h4) (by rfl)).run pins s σ H vs us Q I r ?_⟩
      obtain ⟨hl, q⟩ := q
      cases vs with
      | nil => simp at hl
      | cons v vr => exact ⟨v, vr, rfl, by simpa using hl, q⟩
    | _ => exact h.elim
  | [], _ :: _, h => h.elim
  | e :: es, [], h => by
    cases e <;> exact h.elim
theorem nms_len : ∀ {es : List Expr} {is : List Nat}, NmsOk X es is → (assignEach es X.env).length = is.length ∧ (assignEach es X.env).findIdx? (·.1) = none
  | [], [], _ => ⟨rfl, rfl⟩
  | e :: es, i :: is, h => by
    cases e with
    | Name x p =>
      obtain ⟨h1, h2⟩ := nms_len h.2.2.2
      have e : assignEach (.Name x p :: es) X.env = (false, assign (.Name x p) X.env) :: assignEach es X.env := by rfl
      rw [e]
      refine ⟨by simp [h1], ?_⟩
      rw [List.findIdx?_cons]
      simp [h2]
    | _ => exact h.elim
  | [], _ :: _, h => h.elim
  | e :: es, [], h => by
    cases e <;> exact h.elim
theorem fold_ok {K : PySem.W.Frag} {ρ : List Addr} {H : Hp} : ∀ {is : List Nat} {ds : List D} {vs : List V} {σ : L2.St} {L : Lc} {own : List Nat}, RLx K ρ H σ L own → ds.length = is.length → RVs K ρ H ds vs → (∀ i ∈ own, i ∈ is) →
    RL K ρ H ((is.zip vs).foldl (fun σ p => σ.set p.1 (some p.2)) σ) ((is.zip ds).foldl (fun L p => L.set p.1 (some p.2)) L) ∧ ((is.zip vs).foldl (fun σ p => σ.set p.1 (some p.2)) σ).length = σ.length ∧
      ∀ i, i ∉ is → ((is.zip vs).foldl (fun σ p => σ.set p.1 (some p.2)) σ)[i]? = σ[i]?
  | [], ds, vs, σ, L, own, h, hl, r, ho => by
    have : own = [] := by
      cases own with
      | nil => rfl
      | cons a b => exact absurd (ho a List.mem_cons_self) (by simp)
    subst this
    exact ⟨h.rl, rfl, fun _ _ => rfl⟩
  | i :: is, [], vs, σ, L, own, h, hl, r, ho => by simp at hl
  | i :: is, d :: ds, vs, σ, L, own, h, hl, r, ho => by
    rw [RVs] at r
    obtain ⟨v, vr, rfl, rv, r⟩ := r
    have h1 := h.set rv i
    obtain ⟨q1, q2, q3⟩ := fold_ok h1 (by simpa using hl) r (fun j hj => by
      simp at hj
      have := ho j hj.1
      simp [hj.2] at this
      exact this)
    refine ⟨q1, by simpa using q2, fun j hj => ?_⟩
    simp at hj
    show ((is.zip vr).foldl _ (σ.set i (some v)))[j]? = _
    rw [q3 j hj.2]
    exact List.getElem?_set_ne (Ne.symm hj.1)
theorem g_tp {is : List Nat} {kk : Nat} (hc : X.calm = true) (nd : X.N.Nodup) (h : NmsOk X es is) : PG X (.Tuple es kk pos) (tG pl X.K (.tp is)) := by
  obtain ⟨l1, l2⟩ := nms_len h
  refine ⟨fun pins s σ H v u Q I r q => ?_⟩
  obtain ⟨ρ, L, g, d, L1, rl, rg, rv, e, q⟩ := q
  simp only [asg] at e
  cases ei : items g (.d d) with
  | none => rw [ei] at e; cases e
  | some ds =>
    rw [ei] at e
    simp only at e
    split at e
    · rename_i hl
      cases e
      obtain ⟨p, vs, rfl, hp, rvs⟩ := items_ok rg (show RX X.K ρ H H v (.d d) from rv) ei
      obtain ⟨f1, f2, f3⟩ := fold_ok (is := is) rl hl rvs (fun i hi => hi)
      have fin : gNms is vs σ H Q := ⟨by rw [rvs.len, hl], q _ f1 f2 f3⟩
      rcases hp with hp | hp
      · exact (pg_lst (n := is.length) hc (gs_nms nd h) l1 l2).run pins s σ H _ u Q I r ⟨p, vs, rfl, hp, by rw [rvs.len, hl], fin⟩
      · exact (pg_tup (n := is.length) hc (gs_nms nd h) l1 l2).run pins s σ H _ u Q I r ⟨p, vs, rfl, hp, by rw [rvs.len, hl], fin⟩
    · cases e

/-! ### comprehensions -/
theorem wipe_get {σ : L2.St} : ∀ {vs : List Nat} {i : Nat}, i ∉ vs → (wipe σ vs)[i]? = σ[i]?
  | [], _, _ => rfl
  | v :: vs, i, h => by
    simp at h
    unfold wipe
    rw [List.getElem?_set_ne (Ne.symm h.1)]
    exact wipe_get h.2
theorem wipe_in {σ : L2.St} : ∀ {vs : List Nat} {i : Nat}, i ∈ vs → i < σ.length → (wipe σ vs)[i]? = some none
  | v :: vs, i, h, hl => by
    unfold wipe
    by_cases e : v = i
    · subst e
      rw [List.getElem?_set_self (by rw [wipe_length]; exact hl)]
    · rw [List.getElem?_set_ne e]
      exact wipe_in (by simpa [Ne.symm e] using h) hl
theorem wipe_eq {σ σ1 : L2.St} {vs : List Nat} (hl : σ1.length = σ.length) (h : ∀ i, i ∉ vs → σ1[i]? = (wipe σ vs)[i]?) : wipe σ1 vs = wipe σ vs := by
  refine List.ext_getElem? fun i => ?_
  by_cases m : i ∈ vs
  · by_cases hi : i < σ.length
    · rw [wipe_in m (by rw [hl]; exact hi), wipe_in m hi]
    · rw [List.getElem?_eq_none (by rw [wipe_length]; omega), List.getElem?_eq_none (by rw [wipe_length]; omega)]
  · rw [wipe_get m, h i m]
theorem RL.wiped {K : PySem.W.Frag} {ρ : List Addr} {H : Hp} {σ : L2.St} {L : Lc} {vs : List Nat} (h : RL K ρ H σ L) : RLx K ρ H (wipe σ vs) L vs :=
  ⟨by rw [wipe_length]; exact h.1, fun i d n e => let ⟨v, q, r⟩ := h.2 i d e; ⟨v, by rw [wipe_get n]; exact q, r⟩⟩
def noW : WX := fun _ _ _ _ => False
theorem Good.blk (G : Good T pl k N sc W X) (s : Shared) (H : Hp) (scope : Scope) (C : Addr) (cl : List (Str × Addr)) (fp : List Addr) : Good T pl k N (relS scope sc) noW (X.blk s H scope (compEnvC scope cl C X.env) fp) where
  top := G.top
  hN := G.hN
  sc_ := by rw [← G.sc_]; rfl
  nd := G.nd
  un := G.un
  tk := fun u s' ⟨a, B, sI, pins, σ, H, cls, d, e, I, nb, up, sky, na, os, ag, w⟩ => w.elim
theorem Calm.blk (C0 : Calm k X) (s : Shared) (H : Hp) (scope : Scope) (C : Addr) (cl : List (Str × Addr)) (fp : List Addr) : Calm k (X.blk s H scope (compEnvC scope cl C X.env) fp) := ⟨C0.calm, C0.room⟩
theorem Ext.over {ρ ρ' : List Addr} {H H' : Hp} {p : Addr} {u : HO} (x : Ext ρ ρ' H H') (n : H p = none) : Ext ρ ρ' H (upd H' p u) :=
  ⟨x.pre, x.new, fun b o h m => by rw [upd_ne (ne_of_none h n)]; exact x.keep b o h m, fun b xs h => by rw [upd_ne (ne_of_none h n)]; exact x.tups b xs h, fun b o w h => by rw [upd_ne (ne_of_none h n)]; exact x.frzs b o w h⟩
theorem Mon.lst {K : PySem.W.Frag} {ρ : List Addr} {H : Hp} {p : Addr} {xs ys : List V} (h : H p = some (.lst xs)) : Mon K ρ ρ H (upd H p (.lst ys)) := by
  have t : ∀ a zs, H a = some (.tup zs) → upd H p (.lst ys) a = some (.tup zs) := fun a zs e => by
    rw [upd_ne (fun z => by rw [z, h] at e; cases e)]; exact e
  have f : ∀ a o u, H a = some (.frz o u) → upd H p (.lst ys) a = some (.frz o u) := fun a o u e => by
    rw [upd_ne (fun z => by rw [z, h] at e; cases e)]; exact e
  refine ⟨fun _ _ e => e, t, fun a zs q => ?_, fun a zs q => ?_⟩
  · rcases q with (q | ⟨o, q⟩) | q
    · exact .inl (.inl (t _ _ q))
    · exact .inl (.inr ⟨o, f _ _ _ q⟩)
    · exact .inr q
  · rcases q with ⟨o, q⟩ | q
    · exact .inl ⟨o, f _ _ _ q⟩
    · exact .inr q
theorem RG.mon {K : PySem.W.Frag} {ρ : List Addr} {H H' : Hp} {g : G} (r : RG pl K ρ H g) (x : Mon K ρ ρ H H') (e : ∀ a ∈ ρ, H' a = H a) : RG pl K ρ H' g :=
  ⟨r.len, r.nd, fun n o a h q => (r.obj n o a h q).by_ x (e a (List.mem_of_getElem? q))⟩
theorem pts_true : PTs X [] (tT T pl X.K k W (.c (.bl true))) := by
  refine ⟨fun pins s σ H Q I h => pts_nil.run pins s σ H Q I ?_⟩
  obtain ⟨ρ, L, g, rl, rg, h⟩ := h
  rw [ev] at h
  exact h ρ H true .refl rg rfl
/-- what is wanted behind a comprehension's turns -/
def FinC (pl : Pl) (K : PySem.W.Frag) (ρ1 : List Addr) (H1 : Hp) (D' : Addr) (Q : VK) : R (List D) → Prop
  | .ok acc g => ∀ ρ H vs, Ext ρ1 ρ H1 H → RG pl K ρ H g → D' ∉ ρ → H D' = some (.lst vs) → RVs K ρ H acc vs → Q (.ref D') H
  | .ex _ _ => True
  | .bad => False
theorem go_comp {t : Tg} {src : Src} {own : List (Str × Nat)} (hown : own.map (·.2) = t.own) {σ : L2.St} {H : Hp} {Q : VK} (h : tE T pl X.K k W (.comp t src ic ia) σ H Q) :
    tLc (tI T pl X.K k W src) (tG pl X.K t) (tT T pl X.K k noW ic) (tD T pl X.K k noW ia) (own.map (·.2)) σ H Q := by
  rw [hown]
  obtain ⟨ρ, L, g, rl, rg, h⟩ := h
  rw [ev] at h
  refine ⟨ρ, L, g, rl, rg, (h.bind (Rel := relI pl X.K) since_X).imp fun J H1 ⟨ρ1, it, g1, e1, rg1, ri, h⟩ D' hD => ?_⟩
  have rl1 := rl.mono e1
  have hD1 : D' ∉ ρ1 := rg1.mem_ne hD
  -- the wanted end
  have fin : FinC pl X.K ρ1 H1 D' Q (loopC it t (fun L g => (ev T (runF T k) ic L g).test) (fun L g => (ev T (runF T k) ia L g).lay) L fuel 0 [] g1) := by
    revert h
    cases loopC it t (fun L g => (ev T (runF T k) ic L g).test) (fun L g => (ev T (runF T k) ia L g).lay) L fuel 0 [] g1 with
    | ok acc g2 => exact fun h ρ H vs e rg n hd r => h ρ H (.ref D') e rg ⟨D', vs, rfl, hd, r, n, hD⟩
    | ex x g2 => exact fun _ => trivial
    | bad => exact fun h => h
  refine ⟨fun i m H2 => ∃ ρ2 g2 acc vs, Ext ρ1 ρ2 H1 H2 ∧ RG pl X.K ρ2 H2 g2 ∧ D' ∉ ρ2 ∧ H2 D' = some (.lst vs) ∧ RVs X.K ρ2 H2 acc vs ∧
    FinC pl X.K ρ1 H1 D' Q (loopC it t (fun L g => (ev T (runF T k) ic L g).test) (fun L g => (ev T (runF T k) ia L g).lay) L m i acc g2), ⟨fuel, ρ1, g1, [], [], .fresh hD, rg1.fresh hD, hD1, upd_same, .nil, fin⟩, ?_⟩
  rintro i m H2 ⟨ρ2, g2, acc, vs, e2, rg2, n2, hd2, r2, f2⟩
  cases m with
  | zero => exact f2.elim
  | succ m =>
    have st := ri ρ2 H2 e2 g2 rg2 i
    rw [loopC] at f2
    cases et : turn g2 it i with
    | none => rw [et] at f2; exact f2.elim
    | some o =>
      have st := st o et
      rw [et] at f2
      cases o with
      | none => exact .inl ⟨st, f2 ρ2 H2 vs e2 rg2 n2 hd2 r2⟩
      | some d =>
        simp only at f2
        obtain ⟨go, st⟩ := st
        refine .inr ⟨go, fun H' => ∃ ρ2 g2 acc vs, Ext ρ1 ρ2 H1 H' ∧ RG pl X.K ρ2 H' g2 ∧ D' ∉ ρ2 ∧ H' D' = some (.lst vs) ∧ RVs X.K ρ2 H' acc vs ∧
          FinC pl X.K ρ1 H1 D' Q (loopC it t (fun L g => (ev T (runF T k) ic L g).test) (fun L g => (ev T (runF T k) ia L g).lay) L m (i + 1) acc g2), fun H' q => ⟨m, Nat.lt_succ_self _, q⟩, fun x H3 y => ?_⟩
        obtain ⟨ρ3, e3, rg3, rv3⟩ := st x H3 y
        cases ea : asg t d g2 L with
        | none => rw [ea] at f2; exact f2.elim
        | some L1 =>
          rw [ea] at f2
          simp only at f2
          have hd3 := e3.keep _ _ hd2 n2
          have n3 := e3.nmem hd2 n2
          have r3 := r2.mono e3
          refine ⟨ρ3, L, g2, d, L1, ((rl1.mono e2).mono e3).wiped, rg3, rv3, ea, fun σ1 rl3 hl1 ho1 => ⟨wipe_eq (by rw [hl1, wipe_length]) ho1, ρ3, L1, g2, rl3, rg3, ?_⟩⟩
          have x3 := e2.trans e3
          cases ec : (ev T (runF T k) ic L1 g2).test with
          | bad => rw [ec] at f2; exact f2.elim
          | ex x g3 => rw [ec] at f2; exact f2.elim
          | ok b g3 =>
            rw [ec] at f2
            intro ρ4 H4 b' e4 rg4 eb
            obtain rfl : b' = b := eb
            have hd4 := e4.keep _ _ hd3 n3
            have n4 := e4.nmem hd3 n3
            have r4 := r3.mono e4
            have x4 := x3.trans e4
            cases b' with
            | false =>
              rw [if_neg (by decide)]
              exact ⟨ρ4, g3, acc, vs, x4, rg4, n4, hd4, r4, f2⟩
            | true =>
              rw [if_pos rfl]
              refine ⟨ρ4, L1, g3, rl3.mono e4, rg4, ?_⟩
              simp only at f2
              cases ee : (ev T (runF T k) ia L1 g3).lay with
              | bad => rw [ee] at f2; exact f2.elim
              | ex x g3 => rw [ee] at f2; exact f2.elim
              | ok z g4 =>
                rw [ee] at f2
                simp only at f2
                intro ρ5 H5 v e5 rg5 rv
                split at f2
                · rename_i hlen
                  have hd5 := e5.keep _ _ hd4 n4
                  have n5 := e5.nmem hd4 n4
                  have r5 := r4.mono e5
                  have x5 := x4.trans e5
                  have mo : Mon X.K ρ5 ρ5 H5 (upd H5 D' (.lst (vs ++ [v]))) := Mon.lst hd5
                  exact ⟨vs, hd5, by rw [r5.len, ← line_eq]; exact hlen, ρ5, g4, acc ++ [z], vs ++ [v], x5.over hD, rg5.mon mo (fun a ha => upd_ne fun q => n5 (q ▸ ha)), n5, upd_same, (r5.append (.one rv)).by_ mo, f2⟩
                · exact f2.elim
theorem s_comp {t : Tg} {src : Src} {iter : Expr} {ifs : List Expr} {scope : Scope} {own : List (Str × Nat)} (G : Good T pl k N sc W X) (C0 : Calm k X) (hi : PI X tg iter (tI T pl X.K k W src)) (ok : BlkOk X.N X.env.scope scope own) (hown : own.map (·.2) = t.own)
    (hg : ∀ (s : Shared) (H : Hp) (C : Addr) (cl : List (Str × Addr)) (fp : List Addr), PG (X.blk s H scope (compEnvC scope cl C X.env) fp) tg (tG pl X.K t))
    (ht : ∀ (s : Shared) (H : Hp) (C : Addr) (cl : List (Str × Addr)) (fp : List Addr), PTs (X.blk s H scope (compEnvC scope cl C X.env) fp) ifs (tT T pl X.K k noW ic))
    (he : ∀ (s : Shared) (H : Hp) (C : Addr) (cl : List (Str × Addr)) (fp : List Addr), PE (X.blk s H scope (compEnvC scope cl C X.env) fp) a (tE T pl X.K k noW ia)) (hs : ∀ x, foldedSetIterable iter X.env x = pure x) :
    PE X (.ListComp a [⟨tg, iter, ifs, 0⟩] scope pos) (tE T pl X.K k W (.comp t src ic ia)) :=
  ⟨fun pins s σ H Q I h => (pe_lc (te := tD T pl X.K k noW ia) C0.calm (by rw [G.hN]; exact G.nd) hi ok hg ht (fun s H C cl fp => s_lay (T := T) (pl := pl) (k := k) (W := noW) (he s H C cl fp)) hs).run pins s σ H Q I (go_comp hown h)⟩
end
end Sd
set_option Elab.async false
set_option linter.all false
set_option maxRecDepth 100000
set_option maxHeartbeats 1000000
/-! Snd11: statements. -/
namespace Sd
open PySem PySem.Spec PyProof.Rows L2 Py
/-- what is wanted behind a statement -/
def PoO (pl : Pl) (K : PySem.W.Frag) (ρ : List Addr) (H : Hp) (W : WX) (D' : Ends) : O → Prop
  | .nx L g => ∀ ρ' H' σ', Ext ρ ρ' H H' → RG pl K ρ' H' g → RL K ρ' H' σ' L → D'.nx σ' H'
  | .br L g => ∀ ρ' H' σ', Ext ρ ρ' H H' → RG pl K ρ' H' g → RL K ρ' H' σ' L → D'.bk σ' H'
  | .ct L g => ∀ ρ' H' σ', Ext ρ ρ' H H' → RG pl K ρ' H' g → RL K ρ' H' σ' L → D'.ct σ' H'
  | .rt d g => ∀ ρ' H' v, Ext ρ ρ' H H' → RG pl K ρ' H' g → RV K ρ' H' d v → D'.rt v H'
  | .ex x L g => ∀ ρ' H' σ', Ext ρ ρ' H H' → RG pl K ρ' H' g → RL K ρ' H' σ' L → wish pl W σ' x H'
  | .bad => False
def tS (T : Tb) (pl : Pl) (K : PySem.W.Frag) (k : Nat) (W : WX) (s : S) : TS := fun D' σ H =>
  ∃ ρ L g, RL K ρ H σ L ∧ RG pl K ρ H g ∧ PoO pl K ρ H W D' (evS T (runF T k) s L g)
def tSs (T : Tb) (pl : Pl) (K : PySem.W.Frag) (k : Nat) (W : WX) (s : Ss) : TS := fun D' σ H =>
  ∃ ρ L g, RL K ρ H σ L ∧ RG pl K ρ H g ∧ PoO pl K ρ H W D' (evSs T (runF T k) s L g)
section
variable {pl : Pl} {K : PySem.W.Frag} {ρ ρ' : List Addr} {H H' : Hp} {W : WX} {D' D2 : Ends} {o : O}
theorem PoO.shift (h : PoO pl K ρ H W D' o) (e : Ext ρ ρ' H H') : PoO pl K ρ' H' W D' o := by
  cases o with
  | bad => exact h
  | _ => exact fun ρ2 H2 v f rg r => h ρ2 H2 v (e.trans f) rg r
/-- an expression ahead -/
theorem PoO.toO {α β : Type} {Rel : List Addr → Hp → Hp → β → α → Prop} {r : Py.R α} {L : Lc} {σ : L2.St} {f : α → G → O} (h : PoO pl K ρ H W D' (r.toO L f)) (rl : RL K ρ H σ L) :
    Po pl K Rel ρ H (wish pl W σ) (fun v H1 => ∃ ρ1 x g1, Ext ρ ρ1 H H1 ∧ RG pl K ρ1 H1 g1 ∧ Rel ρ1 H H1 v x ∧ PoO pl K ρ1 H1 W D' (f x g1)) r := by
  cases r with
  | ok x g => exact fun ρ1 H1 v e rg rx => ⟨ρ1, x, g, e, rg, rx, PoO.shift h e⟩
  | ex x g => exact fun ρ1 H1 e rg => h ρ1 H1 σ e rg (rl.mono e)
  | bad => exact h
end
section
variable {T : Tb} {pl : Pl} {X : Cx} {k : Nat} {N : List Str} {sc : Scope} {W : WX} {ia ib ic : E} {ie : Es} {a b c tg : Expr} {es : List Expr} {pos : Pos} {st : Stmt} {sts : List Stmt} {is_ : S} {iss iss2 : Ss}
theorem ss_nil : PSs X [] (tSs T pl X.K k W .nil) := ⟨fun pins s σ H D' I h => pss_nil.run pins s σ H D' I (by
  obtain ⟨ρ, L, g, rl, rg, h⟩ := h
  rw [evSs] at h
  exact h ρ H σ .refl rg rl)⟩
theorem ss_cons (h1 : PS X st (tS T pl X.K k W is_)) (h2 : PSs X sts (tSs T pl X.K k W iss)) : PSs X (st :: sts) (tSs T pl X.K k W (.cons is_ iss)) := ⟨fun pins s σ H D' I h => (pss_cons h1 h2).run pins s σ H D' I (by
  obtain ⟨ρ, L, g, rl, rg, h⟩ := h
  rw [evSs] at h
  refine ⟨ρ, L, g, rl, rg, ?_⟩
  revert h
  cases evS T (runF T k) is_ L g with
  | nx L1 g1 => exact fun h ρ1 H1 σ1 e rg1 rl1 => ⟨ρ1, L1, g1, rl1, rg1, PoO.shift h e⟩
  | _ => exact id)⟩
theorem s_pass : PS X (.Pass pos) (tS T pl X.K k W .pass) := ⟨fun pins s σ H D' I h => ps_pass.run pins s σ H D' I (by
  obtain ⟨ρ, L, g, rl, rg, h⟩ := h
  rw [evS] at h
  exact h ρ H σ .refl rg rl)⟩
theorem s_brk : PS X (.Break pos) (tS T pl X.K k W .brk) := ⟨fun pins s σ H D' I h => ps_break.run pins s σ H D' I (by
  obtain ⟨ρ, L, g, rl, rg, h⟩ := h
  rw [evS] at h
  exact h ρ H σ .refl rg rl)⟩
theorem s_cnt : PS X (.Continue pos) (tS T pl X.K k W .cnt) := ⟨fun pins s σ H D' I h => ps_continue.run pins s σ H D' I (by
  obtain ⟨ρ, L, g, rl, rg, h⟩ := h
  rw [evS] at h
  exact h ρ H σ .refl rg rl)⟩
theorem s_ret (ha : PE X a (tE T pl X.K k W ia)) : PS X (.Return (some a) pos) (tS T pl X.K k W (.ret ia)) := ⟨fun pins s σ H D' I h => (ps_ret (s_lay ha)).run pins s σ H D' I (by
  obtain ⟨ρ, L, g, rl, rg, h⟩ := h
  rw [evS] at h
  exact ⟨ρ, L, g, rl, rg, (PoO.toO (Rel := relD X.K) h rl).imp fun v H1 ⟨ρ1, d, g1, e1, rg1, rx, h⟩ => h ρ1 H1 v .refl rg1 rx⟩)⟩
theorem s_ret0 : PS X (.Return none pos) (tS T pl X.K k W .ret0) := ⟨fun pins s σ H D' I h => ps_retN.run pins s σ H D' I (by
  obtain ⟨ρ, L, g, rl, rg, h⟩ := h
  rw [evS] at h
  exact h ρ H _ .refl rg RV.non)⟩
/-- no comprehension at the top -/
def noLc : Expr → Bool
  | .ListComp .. | .SetComp .. | .DictComp .. => false
  | _ => true
theorem noLc_sw (h : noLc a = true) (t : Option Expr) (l : Nat) (env : Env) : swapsWith a t l env = pure false := by
  cases a <;> first | rfl | cases h
theorem s_ex (hn : noLc a = true) (ha : PE X a (tE T pl X.K k W ia)) : PS X (.Expr a pos) (tS T pl X.K k W (.ex ia)) := ⟨fun pins s σ H D' I h => (ps_expr ha (noLc_sw hn _ _ _)).run pins s σ H D' I (by
  obtain ⟨ρ, L, g, rl, rg, h⟩ := h
  rw [evS] at h
  exact ⟨ρ, L, g, rl, rg, (PoO.toO (Rel := relX X.K) h rl).imp fun v H1 ⟨ρ1, d, g1, e1, rg1, rx, h⟩ => h ρ1 H1 σ .refl rg1 (rl.mono e1)⟩)⟩
theorem s_if (hc : PT X c (tT T pl X.K k W ic)) (h1 : PSs X sts (tSs T pl X.K k W iss)) {sts2 : List Stmt} (h2 : PSs X sts2 (tSs T pl X.K k W iss2)) : PS X (.If c sts sts2 pos) (tS T pl X.K k W (.ifs ic iss iss2)) := ⟨fun pins s σ H D' I h => (ps_if hc h1 h2).run pins s σ H D' I (by
  obtain ⟨ρ, L, g, rl, rg, h⟩ := h
  rw [evS] at h
  refine ⟨ρ, L, g, rl, rg, (PoO.toO (Rel := relB) h rl).imp fun v H1 ⟨ρ1, d, g1, e1, rg1, rx, h⟩ => ?_⟩
  obtain rfl : v = d := rx
  cases v with
  | true => rw [if_pos rfl] at h ⊢; exact ⟨ρ1, L, g1, rl.mono e1, rg1, h⟩
  | false => rw [if_neg (by decide)] at h ⊢; exact ⟨ρ1, L, g1, rl.mono e1, rg1, h⟩)⟩
theorem s_whl (po : PassesOwn (model X.prog X.w) X.A X.env X.xe) (hc : PT X c (tT T pl X.K k W ic)) (h1 : PSs X sts (tSs T pl X.K k W iss)) : PS X (.While c sts [] pos) (tS T pl X.K k W (.whl ic iss)) := ⟨fun pins s σ H D' I h => (ps_while po hc h1).run pins s σ H D' I (by
  obtain ⟨ρ, L, g, rl, rg, h⟩ := h
  rw [evS] at h
  refine ⟨fun m σ H => ∃ ρ L g, RL X.K ρ H σ L ∧ RG pl X.K ρ H g ∧ PoO pl X.K ρ H W D' (loopW (fun L g => (ev T (runF T k) ic L g).test) (fun L g => evSs T (runF T k) iss L g) m L g), ⟨fuel, ρ, L, g, rl, rg, h⟩, ?_⟩
  rintro m σ H ⟨ρ, L, g, rl, rg, h⟩
  cases m with
  | zero => exact h.elim
  | succ m =>
    rw [loopW] at h
    refine ⟨ρ, L, g, rl, rg, ?_⟩
    revert h
    simp only
    cases (ev T (runF T k) ic L g).test with
    | bad => exact id
    | ex x g1 => exact fun h ρ1 H1 e rg1 => h ρ1 H1 σ e rg1 (rl.mono e)
    | ok t g1 =>
      intro h ρ1 H1 t' e rg1 et
      obtain rfl : t' = t := et
      have rl1 := rl.mono e
      cases t' with
      | false =>
        rw [if_neg (by decide)]
        exact h ρ1 H1 σ e rg1 rl1
      | true =>
        rw [if_pos rfl]
        have h := PoO.shift h e
        refine ⟨fun σ' H' => ∃ ρ L g, RL X.K ρ H' σ' L ∧ RG pl X.K ρ H' g ∧ PoO pl X.K ρ H' W D' (loopW (fun L g => (ev T (runF T k) ic L g).test) (fun L g => evSs T (runF T k) iss L g) m L g), fun σ' H' q => ⟨m, Nat.lt_succ_self _, q⟩, ρ1, L, g1, rl1, rg1, ?_⟩
        revert h
        simp only
        cases evSs T (runF T k) iss L g1 with
        | nx L2 g2 => exact fun h ρ2 H2 σ2 e2 rg2 rl2 => ⟨ρ2, L2, g2, rl2, rg2, PoO.shift h e2⟩
        | ct L2 g2 => exact fun h ρ2 H2 σ2 e2 rg2 rl2 => ⟨ρ2, L2, g2, rl2, rg2, PoO.shift h e2⟩
        | br L2 g2 => exact id
        | rt d g2 => exact id
        | ex x L2 g2 => exact id
        | bad => exact id)⟩
theorem s_for {t : Tg} {src : Src} {iter : Expr} (po : PassesOwn (model X.prog X.w) X.A X.env X.xe) (C0 : Calm k X) (hi : PI X tg iter (tI T pl X.K k W src)) (hg : PG X tg (tG pl X.K t)) (h1 : PSs X sts (tSs T pl X.K k W iss)) (hs : ∀ x, foldedSetIterable iter X.env x = pure x) :
    PS X (.For tg iter sts [] pos) (tS T pl X.K k W (.for t src iss)) := ⟨fun pins s σ H D' I h => (ps_for po C0.calm hi hg h1 hs).run pins s σ H D' I (by
  obtain ⟨ρ, L, g, rl, rg, h⟩ := h
  rw [evS] at h
  refine ⟨ρ, L, g, rl, rg, (PoO.toO (Rel := relI pl X.K) h rl).imp fun J H1 ⟨ρ1, it, g1, e1, rg1, ri, h⟩ => ?_⟩
  refine ⟨fun i m σ H => ∃ ρ L g, Ext ρ1 ρ H1 H ∧ RL X.K ρ H σ L ∧ RG pl X.K ρ H g ∧ PoO pl X.K ρ H W D' (loopF it t (fun L g => evSs T (runF T k) iss L g) m i L g), ⟨fuel, ρ1, L, g1, .refl, rl.mono e1, rg1, h⟩, ?_⟩
  rintro i m σ H ⟨ρ, L, g, e0, rl, rg, h⟩
  cases m with
  | zero => exact h.elim
  | succ m =>
    have st := ri ρ H e0 g rg i
    rw [loopF] at h
    cases et : turn g it i with
    | none => rw [et] at h; exact h.elim
    | some o =>
      have st := st o et
      rw [et] at h
      cases o with
      | none => exact .inl ⟨st, h ρ H σ .refl rg rl⟩
      | some d =>
        simp only at h
        obtain ⟨go, st⟩ := st
        refine .inr ⟨go, fun σ' H' => ∃ ρ L g, Ext ρ1 ρ H1 H' ∧ RL X.K ρ H' σ' L ∧ RG pl X.K ρ H' g ∧ PoO pl X.K ρ H' W D' (loopF it t (fun L g => evSs T (runF T k) iss L g) m (i + 1) L g), fun σ' H' q => ⟨m, Nat.lt_succ_self _, q⟩, fun x H3 y => ?_⟩
        obtain ⟨ρ3, e3, rg3, rv3⟩ := st x H3 y
        cases ea : asg t d g L with
        | none => rw [ea] at h; exact h.elim
        | some L1 =>
          rw [ea] at h
          simp only at h
          have h := PoO.shift h e3
          have x3 := e0.trans e3
          refine ⟨ρ3, L, g, d, L1, (rl.mono e3).x _, rg3, rv3, ea, fun σ1 rl3 _ _ => ⟨ρ3, L1, g, rl3, rg3, ?_⟩⟩
          revert h
          cases evSs T (runF T k) iss L1 g with
          | nx L2 g2 => exact fun h ρ2 H2 σ2 e2 rg2 rl2 => ⟨ρ2, L2, g2, x3.trans e2, rl2, rg2, PoO.shift h e2⟩
          | ct L2 g2 => exact fun h ρ2 H2 σ2 e2 rg2 rl2 => ⟨ρ2, L2, g2, x3.trans e2, rl2, rg2, PoO.shift h e2⟩
          | br L2 g2 => exact id
          | rt d g2 => exact id
          | ex x L2 g2 => exact id
          | bad => exact id)⟩

/-! ### assignments -/
theorem go_set {t : Tg} {D' : Ends} {σ : L2.St} {H : Hp} (h : tS T pl X.K k W (.set t ia) D' σ H) : tAsg (tD T pl X.K k W ia) (tG pl X.K t) D' σ H := by
  obtain ⟨ρ, L, g, rl, rg, h⟩ := h
  rw [evS] at h
  refine ⟨ρ, L, g, rl, rg, (PoO.toO (Rel := relD X.K) h rl).imp fun v H1 ⟨ρ1, d, g1, e1, rg1, rx, h⟩ => ?_⟩
  cases ea : asg t d g1 L with
  | none => rw [ea] at h; exact h.elim
  | some L1 =>
    rw [ea] at h
    exact ⟨ρ1, L, g1, d, L1, (rl.mono e1).x _, rg1, rx, ea, fun σ1 rl1 _ _ => h ρ1 H1 σ1 .refl rg1 rl1⟩
def plainTg : Expr → Bool
  | .Name .. => true
  | .Tuple .. => true
  | _ => false
theorem asgEach (h : plainTg tg = true) (env : Env) : (assignEach [tg] env).map (·.2) = [assign tg env] := by
  cases tg <;> first | rfl | cases h
theorem s_set {t : Tg} (ht : plainTg tg = true) (hg : PG X tg (tG pl X.K t)) (ha : PE X a (tE T pl X.K k W ia)) (hs : swapsWithSole [tg] a pos.line X.env = pure false) (hw : swappedStores [tg] a X.env = pure none) : PS X (.Assign [tg] a pos) (tS T pl X.K k W (.set t ia)) :=
  ⟨fun pins s σ H D' I h => (ps_asg (s_lay ha) hg hs hw (asgEach ht _)).run pins s σ H D' I (go_set h)⟩
/-- name = [..] where the list is stored from within -/
theorem s_setLc {i : Nat} {y : Str} {py spos : Pos} {elt iter : Expr} {ifs : List Expr} {scope : Scope} {own : List (Str × Nat)} {t : Tg} {src : Src} (G : Good T pl k N sc W X) (C0 : Calm k X) (hy : X.N[i]? = some y) (hyl : X.env.scope.names.lookup y = some .local)
    (hsw : swapsWith (.ListComp elt [⟨tg, iter, ifs, 0⟩] scope pos) (some (.Name y py)) spos.line X.env = pure true) (hi : PI X tg iter (tI T pl X.K k W src)) (ok : BlkOk X.N X.env.scope scope own) (hown : own.map (·.2) = t.own)
    (hg : ∀ (s : Shared) (H : Hp) (C : Addr) (cl : List (Str × Addr)) (fp : List Addr), PG (X.blk s H scope (compEnvC scope cl C X.env) fp) tg (tG pl X.K t))
    (ht : ∀ (s : Shared) (H : Hp) (C : Addr) (cl : List (Str × Addr)) (fp : List Addr), PTs (X.blk s H scope (compEnvC scope cl C X.env) fp) ifs (tT T pl X.K k noW ic))
    (he : ∀ (s : Shared) (H : Hp) (C : Addr) (cl : List (Str × Addr)) (fp : List Addr), PE (X.blk s H scope (compEnvC scope cl C X.env) fp) elt (tE T pl X.K k noW ia)) (hs : ∀ x, foldedSetIterable iter X.env x = pure x) :
    PS X (.Assign [.Name y py] (.ListComp elt [⟨tg, iter, ifs, 0⟩] scope pos) spos) (tS T pl X.K k W (.set (.nm i) (.comp t src ic ia))) := by
  refine ⟨fun pins s σ H D' I h => (ps_setLc (te := tD T pl X.K k noW ia) C0.calm (by rw [G.hN]; exact G.nd) hy hyl hsw hi ok hg ht (fun s H C cl fp => s_lay (T := T) (pl := pl) (k := k) (W := noW) (he s H C cl fp)) hs).run pins s σ H D' I ?_⟩
  obtain ⟨ρ, L, g, rl, rg, h⟩ := h
  rw [evS] at h
  refine go_comp hown ⟨ρ, L, g, rl, rg, Po.lay ((PoO.toO (Rel := relD X.K) h rl).imp fun v H1 ⟨ρ1, d, g1, e1, rg1, rx, h⟩ => ?_)⟩
  exact h ρ1 H1 _ .refl rg1 ((rl.mono e1).set rx i)
theorem s_par {i j : Nat} {x y : Str} {px py pt : Pos} {kt k2 pt2} (G : Good T pl k N sc W X) (C0 : Calm k X) (hi : X.N[i]? = some x) (hj : X.N[j]? = some y) (hij : i ≠ j)
    (hx : X.env.scope.names.lookup x = some .local) (hy : X.env.scope.names.lookup y = some .local) (ha : PE X a (tE T pl X.K k W ia)) (hb : PE X b (tE T pl X.K k W ib)) (hs1 : ∀ r, starEach (a :: r) X.env = (false, eval a X.env) :: starEach r X.env) (hs2 : ∀ r, starEach (b :: r) X.env = (false, eval b X.env) :: starEach r X.env)
    (hw : swappedStores [.Tuple [.Name x px, .Name y py] kt pt] (.Tuple [a, b] k2 pt2) X.env = pure (some [x, y])) :
    PS X (.Assign [.Tuple [.Name x px, .Name y py] kt pt] (.Tuple [a, b] k2 pt2) pos) (tS T pl X.K k W (.par i j ia ib)) := by
  refine ⟨fun pins s σ H D' I h => (ps_par C0.calm (by rw [G.hN]; exact G.nd) hi hj hij hx hy (pa_cons (s_lay ha) (pa_cons (s_lay hb) pa_nil (hs2 _)) (hs1 _)) hw rfl).run pins s σ H D' I ?_⟩
  obtain ⟨ρ, L, g, rl, rg, h⟩ := h
  rw [evS] at h
  refine ⟨ρ, L, g, rl, rg, (PoO.toO (Rel := relD X.K) h rl).imp fun v H1 ⟨ρ1, d, g1, e1, rg1, rx, h⟩ => ?_⟩
  have rl1 := rl.mono e1
  refine ⟨ρ1, L, g1, rl1, rg1, (PoO.toO (Rel := relD X.K) h rl1).imp fun u H2 ⟨ρ2, d2, g2, e2, rg2, rx2, h⟩ => ?_⟩
  exact ⟨v, u, rfl, h ρ2 H2 _ .refl rg2 (((rl1.mono e2).set (rx.mono e2) i).set rx2 j)⟩
/-- an augmented operator -/
def rAug (pl : Pl) (K : PySem.W.Frag) (o : BOp) : V → V → Hp → VK → Prop := fun v u H Q => ∃ ρ x y z H1, RV K ρ H x v ∧ RX K ρ H1 H u y ∧ augop o x y = some z ∧ ∀ v', RV K ρ H z v' → Q v' H
theorem ip_aug (o : BOp) : PIp X (opOf o) (rAug pl X.K o) := by
  intro pins s σ H x y v u Q I rx ry h
  obtain ⟨ρ, dx, dy, z, H1, r1, r2, e, q⟩ := h
  unfold augop at e
  split at e
  · cases e
    obtain rfl := rv_int r1
    obtain rfl := rx_int r2
    exact iop_add pins s σ H _ _ v u Q I rx ry ⟨_, _, rfl, rfl, q _ (RV.int _)⟩
  · split at e
    · rename_i hl
      cases e
      obtain rfl := rv_str r1
      obtain rfl := rx_str r2
      refine iop_add_str pins s σ H _ _ v u Q I rx ry ⟨_, _, rfl, rfl, by rw [toS_len, toS_len, ← line_eq]; exact hl, ?_⟩
      rw [toS_append]
      exact q _ (RV.str _)
    · cases e
  · cases e
    obtain rfl := rv_int r1
    obtain rfl := rx_int r2
    exact iop_sub pins s σ H _ _ v u Q I rx ry ⟨_, _, rfl, rfl, q _ (RV.int _)⟩
  · split at e
    · rename_i hl
      cases e
      obtain rfl := rv_int r1
      obtain rfl := rx_int r2
      simp only [small, Bool.or_eq_true, Bool.and_eq_true, decide_eq_true_eq] at hl
      exact iop_mul pins s σ H _ _ v u Q I rx ry ⟨_, _, rfl, rfl, hl, q _ (RV.int _)⟩
    · cases e
  · split at e
    · rename_i hl
      cases e
      obtain rfl := rv_int r1
      obtain rfl := rx_int r2
      simp only [Bool.and_eq_true, decide_eq_true_eq] at hl
      exact iop_fdiv pins s σ H _ _ v u Q I rx ry ⟨_, _, rfl, rfl, hl, q _ (RV.int _)⟩
    · cases e
  · split at e
    · rename_i hl
      cases e
      obtain rfl := rv_int r1
      obtain rfl := rx_int r2
      exact iop_mod pins s σ H _ _ v u Q I rx ry ⟨_, _, rfl, rfl, of_decide_eq_true hl, q _ (RV.int _)⟩
    · cases e
  · cases e
theorem s_aug {i : Nat} {x : Str} {o : BOp} {px : Pos} (G : Good T pl k N sc W X) (hi : X.N[i]? = some x) (hx : Loc X.env.scope x) (hf : X.fn x = true ∨ X.env.scope.names.lookup x = some .local) (ha : PE X a (tE T pl X.K k W ia)) :
    PS X (.AugAssign (.Name x px) (opOf o) a pos) (tS T pl X.K k W (.aug i o ia)) := by
  refine ⟨fun pins s σ H D' I h => (ps_aug (by rw [G.hN]; exact G.nd) hi hx ha (ip_aug (pl := pl) o) hf).run pins s σ H D' I ?_⟩
  obtain ⟨ρ, L, g, rl, rg, h⟩ := h
  rw [evS] at h
  cases eL : L[i]? with
  | none => rw [eL] at h; exact h.elim
  | some o' =>
    rw [eL] at h
    cases o' with
    | none => exact h.elim
    | some d =>
      obtain ⟨v, hv, rv⟩ := rl.2 i d eL
      refine ⟨v, hv, ρ, L, g, rl, rg, (PoO.toO (Rel := relX X.K) h rl).imp fun u H1 ⟨ρ1, y, g1, e1, rg1, rx, h⟩ => ?_⟩
      cases ea : augop o d y with
      | none => rw [ea] at h; exact h.elim
      | some z =>
        rw [ea] at h
        exact ⟨ρ1, d, y, z, H, rv.mono e1, rx, ea, fun v' rv' => h ρ1 H1 _ .refl rg1 ((rl.mono e1).set rv' i)⟩

/-! ### attributes -/
theorem lookup_pyF (f i : Nat) (d : D) : ∀ fs : List (Nat × D), (Py.putF f d fs).lookup i = if i = f then some d else fs.lookup i
  | [] => by
    show List.lookup i [(f, d)] = _
    rw [List.lookup_cons]
    by_cases e : i = f
    · simp [e]
    · have : (i == f) = false := by simpa using e
      simp [this, e]
  | (j, x) :: r => by
    unfold Py.putF
    by_cases hj : j = f
    · subst hj
      rw [if_pos rfl, List.lookup_cons, List.lookup_cons]
      by_cases e : i = j
      · simp [e]
      · have : (i == j) = false := by simpa using e
        simp [this, e]
    · rw [if_neg hj, List.lookup_cons, List.lookup_cons, lookup_pyF f i d r]
      by_cases e : i = j
      · subst e
        simp [hj]
      · have : (i == j) = false := by simpa using e
        simp [this]
theorem len_pyF (f : Nat) (d : D) : ∀ fs : List (Nat × D), (Py.putF f d fs).length = if (fs.lookup f).isSome then fs.length else fs.length + 1
  | [] => rfl
  | (j, x) :: r => by
    unfold Py.putF
    by_cases hj : j = f
    · subst hj
      simp [List.lookup_cons]
    · have : (f == j) = false := by simpa using Ne.symm hj
      rw [if_neg hj, List.length_cons, len_pyF f d r, List.lookup_cons, this]
      simp only [List.length_cons]
      split <;> rfl
theorem len_lF (f : Str) (d : V) : ∀ fs : List (Str × V), (L2.putF f d fs).length = if (fs.lookup f).isSome then fs.length else fs.length + 1
  | [] => rfl
  | (j, x) :: r => by
    unfold L2.putF
    by_cases hj : j = f
    · subst hj
      simp [List.lookup_cons]
    · have : (f == j) = false := by simpa using Ne.symm hj
      rw [if_neg hj, List.length_cons, len_lF f d r, List.lookup_cons, this]
      simp only [List.length_cons]
      split <;> rfl
theorem RF.put {nm : Nm} {K : PySem.W.Frag} {ρ : List Addr} {H : Hp} {fs : List (Nat × D)} {fv : List (Str × V)} {f : Nat} {x : Str} {d : D} {v : V} (nd : nm.ats.Nodup) (h : RF nm K ρ H fs fv) (hx : nm.ats[f]? = some x) (r : RV K ρ H d v) : RF nm K ρ H (Py.putF f d fs) (L2.putF x v fv) := by
  obtain ⟨h1, h2, h3⟩ := h
  have same : (fs.lookup f).isSome = (fv.lookup x).isSome := by
    have := h3 f x hx
    revert this
    cases fs.lookup f with
    | none => intro this; have this : fv.lookup x = none := this; rw [this]; rfl
    | some d => intro ⟨v, this, _⟩; rw [this]; rfl
  refine ⟨?_, fun y w e => ?_, fun i y hy => ?_⟩
  · rw [len_pyF, len_lF, same]
    split <;> omega
  · rw [lookup_putF] at e
    by_cases hy : y = x
    · subst hy; exact ⟨f, hx⟩
    · rw [if_neg hy] at e
      exact h2 y w e
  · rw [lookup_pyF, lookup_putF]
    by_cases e : i = f
    · subst e
      rw [hx] at hy
      cases hy
      rw [if_pos rfl, if_pos rfl]
      exact ⟨v, rfl, r⟩
    · have hne : ¬ y = x := fun z => e (by
        subst z
        obtain ⟨l1, e1⟩ := List.getElem?_eq_some_iff.mp hy
        obtain ⟨l2, e2⟩ := List.getElem?_eq_some_iff.mp hx
        exact (List.getElem_inj nd).mp (e1.trans e2.symm))
      rw [if_neg e, if_neg hne]
      exact h3 i y hy
/-- what a store at an attribute asks -/
theorem setFld_ok {ρ : List Addr} {H : Hp} {g g' : G} {dx z : D} {vx vz : V} {f : Nat} {x : Str} (top : Top X.prog X.w X.K X.mg X.base pl T k) (hx : pl.nm.ats[f]? = some x) (rg : RG pl X.K ρ H g) (rx : RV X.K ρ H dx vx) (rz : RV X.K ρ H z vz) (e : setFld T g dx f z = some g') :
    ∃ a C dd fv, vx = .ref a ∧ H a = some (.ins C dd fv) ∧ Cls X.K C ∧ NoAttr X.K C x ∧ fv.length < 1000 ∧ (∃ C0, clsAt g dx = some C0 ∧ C = pl.ca C0) ∧ RG pl X.K ρ (upd H a (.ins C dd (L2.putF x vz fv))) g' ∧ Ext ρ ρ H (upd H a (.ins C dd (L2.putF x vz fv))) := by
  unfold setFld at e
  split at e
  · rename_i n
    split at e
    · rename_i C fs eg
      split at e
      · rename_i hc
        cases e
        simp only [Bool.and_eq_true, decide_eq_true_eq] at hc
        obtain ⟨a, dd, fv, rfl, hn, ha, hf, fi, hi⟩ := rv_noobj rg rx eg
        have hi' := hi
        rw [top.ini] at hi'
        obtain ⟨rg', x'⟩ := rg.write hn ⟨_, eg⟩ (o := .ins C (Py.putF f z fs)) (u := .ins (pl.ca C) dd (L2.putF x vz fv)) fun H' m e => ⟨⟨fi, hi⟩, dd, _, e, RF.put top.nd (hf.by_ m) hx (rz.by_ m)⟩
        exact ⟨a, pl.ca C, dd, fv, rfl, ha, top.cl C fi hi', top.nat C fi f x hi' hx (Option.isNone_iff_eq_none.mp hc.1), by have := hf.1; omega, ⟨C, by simp [clsAt, eg], rfl⟩, rg', x'⟩
      · cases e
    · cases e
  · cases e
theorem s_setF {f : Nat} {x : Str} {apos : Pos} (G : Good T pl k N sc W X) (hx : pl.nm.ats[f]? = some x) (hn : swapsWith b (some (.Attribute a x apos)) pos.line X.env = pure false) (ha : PE X a (tE T pl X.K k W ia)) (hb : PE X b (tE T pl X.K k W ib)) :
    PS X (.Assign [.Attribute a x apos] b pos) (tS T pl X.K k W (.setF ia f ib)) := by
  refine ⟨fun pins s σ H D' I h => (ps_fld ha (s_lay hb) hn).run pins s σ H D' I ?_⟩
  obtain ⟨ρ, L, g, rl, rg, h⟩ := h
  rw [evS] at h
  refine ⟨ρ, L, g, rl, rg, (PoO.toO (Rel := relD X.K) h rl).imp fun v H1 ⟨ρ1, d, g1, e1, rg1, rx, h⟩ => ?_⟩
  have rl1 := rl.mono e1
  refine ⟨ρ1, L, g1, rl1, rg1, (PoO.toO (Rel := relX X.K) h rl1).imp fun u H2 ⟨ρ2, d2, g2, e2, rg2, rx2, h⟩ => ?_⟩
  cases d2 with
  | tmp xs => exact h.elim
  | d d2 =>
    simp only at h
    cases es : setFld T g2 d2 f d with
    | none => rw [es] at h; exact h.elim
    | some g3 =>
      rw [es] at h
      obtain ⟨p, C, dd, fv, rfl, hp, c, n, l, _, rg', x'⟩ := setFld_ok G.top hx rg2 (show RV X.K ρ2 H2 d2 u from rx2) (rx.mono e2) es
      exact ⟨p, C, dd, fv, rfl, hp, c, n, l, h ρ2 _ σ x' rg' ((rl1.mono e2).mono x')⟩
theorem s_augF {f : Nat} {x : Str} {o : BOp} {apos : Pos} (G : Good T pl k N sc W X) (hx : pl.nm.ats[f]? = some x) (ha : PE X a (tE T pl X.K k W ia)) (hb : PE X b (tE T pl X.K k W ib)) :
    PS X (.AugAssign (.Attribute a x apos) (opOf o) b pos) (tS T pl X.K k W (.augF ia f o ib)) := by
  have op : InOp X (opOf o) (rAug pl X.K o) := fun pins s σ H x y u v Q I r1 r2 q => ip_aug (pl := pl) o pins s σ H x y u v Q I r1 r2 q
  refine ⟨fun pins s σ H D' I h => (ps_fldaug ha hb op).run pins s σ H D' I ?_⟩
  obtain ⟨ρ, L, g, rl, rg, h⟩ := h
  rw [evS] at h
  refine ⟨ρ, L, g, rl, rg, (PoO.toO (Rel := relX X.K) h rl).imp fun u H1 ⟨ρ1, d1, g1, e1, rg1, rx1, h⟩ => ?_⟩
  have rl1 := rl.mono e1
  cases d1 with
  | tmp xs => exact h.elim
  | d d1 =>
    simp only at h
    cases eg : getF T g1 d1 f with
    | none => rw [eg] at h; exact h.elim
    | some w =>
      rw [eg] at h
      simp only at h
      cases d1 with
      | ref n =>
        simp only [getF] at eg
        cases eo : g1[n]? with
        | none => rw [eo] at eg; cases eg
        | some ob =>
          rw [eo] at eg
          cases ob with
          | ins C fs =>
            simp only at eg
            split at eg
            · rename_i hmt
              obtain ⟨p, dd, fv, rfl, hn, hp, hf, fi, hi⟩ := rv_noobj rg1 (show RV X.K ρ1 H1 (.ref n) u from rx1) eo
              have hi' := hi
              rw [G.top.ini] at hi'
              have := hf.2.2 f x hx
              rw [eg] at this
              obtain ⟨vw, hvw, rw'⟩ := this
              refine ⟨p, pl.ca C, dd, fv, vw, rfl, hp, G.top.cl C fi hi', G.top.nat C fi f x hi' hx (Option.isNone_iff_eq_none.mp hmt), hvw, ρ1, L, g1, rl1, rg1, (PoO.toO (Rel := relX X.K) h rl1).imp fun v2 H2 ⟨ρ2, y, g2, e2, rg2, ry, h⟩ => ?_⟩
              cases ea : augop o w y with
              | none => rw [ea] at h; exact h.elim
              | some z =>
                rw [ea] at h
                simp only at h
                split at h
                · rename_i hcl
                  refine ⟨ρ2, w, y, z, H1, rw'.mono e2, ry, ea, fun v' rv' => ?_⟩
                  cases es : setFld T g2 (.ref n) f z with
                  | none => rw [es] at h; exact h.elim
                  | some g3 =>
                    rw [es] at h
                    have rp : RV X.K ρ2 H2 (.ref n) (.ref p) := RV.ref (e2.at hn)
                    obtain ⟨p', C', dd', fv', ep, hp', c, n', l, ⟨C0, hC0, hC'⟩, rg', x'⟩ := setFld_ok G.top hx rg2 rp rv' es
                    cases ep
                    have e0 : clsAt g1 (.ref n) = some C := by simp [clsAt, eo]
                    rw [e0, hC0] at hcl
                    cases hcl
                    subst hC'
                    exact ⟨dd', fv', hp', l, h ρ2 _ σ x' rg' ((rl1.mono e2).mono x')⟩
                · exact h.elim
            · cases eg
          | _ => cases eg
      | _ => cases eg
end
end Sd
set_option Elab.async false
set_option linter.all false
set_option maxRecDepth 100000
set_option maxHeartbeats 1000000
/-! Snd12: stores at subscripts, raise, try. -/
namespace Sd
open PySem PySem.Spec PyProof.Rows L2 Py
section
variable {T : Tb} {pl : Pl} {X : Cx} {k : Nat} {N : List Str} {sc : Scope} {W : WX} {ia ib ic : E} {ie : Es} {a b c tg : Expr} {es : List Expr} {pos : Pos} {st : Stmt} {sts : List Stmt} {is_ : S} {iss iss2 : Ss}
def rSet (pl : Pl) (K : PySem.W.Frag) (T : Tb) : TSet := fun o i v H Q => ∃ ρ g dO dI dV g', RG pl K ρ H g ∧ RV K ρ H dO o ∧ RV K ρ H dI i ∧ RV K ρ H dV v ∧ setIx g dO dI dV = some g' ∧ ∀ H', Ext ρ ρ H H' → RG pl K ρ H' g' → Q H'
theorem set_ok (hu : X.A.units + 66 < cLine) : PSet X (rSet pl X.K T) := by
  intro pins s σ H o i v ov iv u Q I ro ri rv h
  obtain ⟨ρ, g, dO, dI, dV, g', rg, r1, r2, r3, e, q⟩ := h
  unfold setIx at e
  split at e
  · rename_i n
    split at e
    · rename_i xs eg
      split at e
      · rename_i j
        cases ej : Py.ixN xs.length j with
        | none => rw [ej] at e; cases e
        | some m =>
          rw [ej] at e
          cases e
          obtain ⟨p, rfl, hn, vs, hp, hr⟩ := ref_obj rg r1 eg
          obtain rfl := rv_int r2
          obtain ⟨rg', x'⟩ := lst_write (vs := vs) rg hn eg (hr.set r3 m)
          refine set_list pins s σ H _ _ v ov iv u Q I ro ri rv ⟨p, vs, j, m, rfl, rfl, hp, ?_, q _ x' rg'⟩
          rw [hr.len]
          exact ej
      · cases e
    · rename_i kvs eg
      cases ek : kyOf dI with
      | none => rw [ek] at e; cases e
      | some ky =>
        simp only [ek, Option.bind_some] at e
        split at e
        · rename_i hl
          cases e
          obtain ⟨p, rfl, hn, ws, hp, hk, hr⟩ := ref_obj rg r1 eg
          obtain rfl := kyOf_ok r2 ek
          obtain ⟨p1, p2⟩ := putK_ok kyT (fun _ _ => kyT_inj) ky r3 hk hr
          obtain ⟨rg', x'⟩ := rg.write hn ⟨_, eg⟩ (o := .dk (Py.putK ky dV kvs)) (u := .dK (L2.putK ws (kyT ky) v)) fun H' m e => ⟨_, e, p1, p2.by_ m⟩
          have hlen : ws.length = kvs.length := by simpa using congrArg List.length hk
          obtain rfl : ov = Value.ref p := ro
          exact d_setItem (by omega) I (DPut.k hp (by rw [hlen, ← line_eq]; exact hl)) ri rv fun s' I' => ⟨_, I', q _ x' rg'⟩
        · cases e
    · rename_i kvs eg
      split at e
      · rename_i ds
        cases ek : keysOf ds with
        | none => rw [ek] at e; cases e
        | some ky =>
          simp only [ek, Option.bind_some] at e
          split at e
          · rename_i hl
            cases e
            obtain ⟨p, rfl, hn, ws, hp, hk, hr⟩ := ref_obj rg r1 eg
            obtain ⟨b, xs, rfl, hb, qb⟩ := rv_tup r2
            obtain rfl := keysOf_ok qb ek
            obtain ⟨p1, p2⟩ := putK_ok (fun ks : List KY => ks.map kyT) (fun _ _ => kyTs_inj) ky r3 hk hr
            obtain ⟨rg', x'⟩ := rg.write hn ⟨_, eg⟩ (o := .dt (Py.putK ky dV kvs)) (u := .dT (L2.putK ws (ky.map kyT) v)) fun H' m e => ⟨_, e, p1, p2.by_ m⟩
            have hlen : ws.length = kvs.length := by simpa using congrArg List.length hk
            obtain rfl : ov = Value.ref p := ro
            exact d_setItem (by omega) I (DPut.t hp hb (by rw [hlen, ← line_eq]; exact hl)) ri rv fun s' I' => ⟨_, I', q _ x' rg'⟩
          · cases e
      · cases e
    · cases e
  · cases e
def noSl : Expr → Bool
  | .Slice .. => false
  | _ => true
theorem s_setI {spos : Pos} (hu : X.A.units + 66 < cLine) (ho : PE X a (tE T pl X.K k W ia)) (hi : PE X b (tE T pl X.K k W ib)) (hv : PE X c (tE T pl X.K k W ic))
    (hs : swapsWithSole [.Subscript a b spos] c pos.line X.env = pure false) (hw : swappedStores [.Subscript a b spos] c X.env = pure none)
    (ha : ∀ v, assign (.Subscript a b spos) X.env v = (do
      let ov ← holding [v] (eval a X.env)
      let iv ← holding [v, ov] (eval b X.env)
      standAt spos
      holding [v, ov, iv] (setItem ov iv v)
      release [v, ov, iv] [])) :
    PS X (.Assign [.Subscript a b spos] c pos) (tS T pl X.K k W (.setI ia ib ic)) := by
  refine ⟨fun pins s σ H D' I h => (ps_asg (s_lay hv) (pg_sub ho hi (set_ok (pl := pl) (T := T) hu) ha) hs hw rfl).run pins s σ H D' I ?_⟩
  obtain ⟨ρ, L, g, rl, rg, h⟩ := h
  rw [evS] at h
  refine ⟨ρ, L, g, rl, rg, (PoO.toO (Rel := relD X.K) h rl).imp fun v H1 ⟨ρ1, dv, g1, e1, rg1, rx1, h⟩ => ?_⟩
  have rl1 := rl.mono e1
  refine ⟨ρ1, L, g1, rl1, rg1, (PoO.toO (Rel := relX X.K) h rl1).imp fun o H2 ⟨ρ2, d2, g2, e2, rg2, rx2, h⟩ => ?_⟩
  have rl2 := rl1.mono e2
  cases d2 with
  | tmp xs => exact h.elim
  | d d2 =>
    simp only at h
    refine ⟨ρ2, L, g2, rl2, rg2, (PoO.toO (Rel := relX X.K) h rl2).imp fun i H3 ⟨ρ3, d3, g3, e3, rg3, rx3, h⟩ => ?_⟩
    cases d3 with
    | tmp xs => exact h.elim
    | d d3 =>
      simp only at h
      cases es : setIx g3 d2 d3 dv with
      | none => rw [es] at h; exact h.elim
      | some g4 =>
        rw [es] at h
        exact ⟨ρ3, g3, d2, d3, dv, g4, rg3, RV.mono e3 (show RV X.K ρ2 H2 d2 o from rx2), rx3, RV.mono e3 (RV.mono e2 rx1), es, fun H' x' rg' => h ρ3 H' σ x' rg' ((rl2.mono e3).mono x')⟩

/-! ### raise -/
theorem s_raise {x m : Str} {j C : Nat} {p p2 p3 : Pos} (F : ∃ I, ExcBaseFacts "ValueError" "ValueError.__new__" I [.type "ValueError", .type "Exception", .type "BaseException", .type "object"]) (G : Good T pl k N sc W X) (C0 : Calm k X) (hx : pl.nm.cls[C]? = some x) (hC : T.ini C = none) (hg : Gl X x) (hd : (x == ("__debug__" : Str)) = false) :
    PS X (.Raise (some (.Call (.Name x p) [.Constant (.str m) j p2] [] p3)) none pos) (tS T pl X.K k W (.raise C)) := by
  obtain ⟨I0, F⟩ := F
  obtain ⟨hm, hex, hkp, hsub, hty⟩ := G.top.exc C x hx hC
  refine ⟨fun pins s σ H D' I h => (ps_raise C0.calm G.tk (pmk_own F hex hm hkp (raises_own hsub hty) hg hd)).run pins s σ H D' I ?_⟩
  obtain ⟨ρ, L, g, rl, rg, h⟩ := h
  rw [evS] at h
  exact h ρ H σ .refl rg rl rfl
theorem PoO.noW {K : PySem.W.Frag} {ρ : List Addr} {H : Hp} {W W' : WX} {D' : Ends} {o : O} (h : PoO pl K ρ H W D' (match o with | .ex _ _ _ => .bad | o => o)) : PoO pl K ρ H W' D' o := by
  cases o with
  | ex x L g => exact h.elim
  | _ => exact h
theorem s_try {x : Str} {C : Nat} {np pos' : Pos} {b₀ : Stmt} {sts2 : List Stmt} (hst : X.stack = X.env :: X.outer) (hf : X.env.frame = some X.env.locals) (G : Good T pl k N sc W X) (hx : pl.nm.cls[C]? = some x) (hC : T.ini C = none) (hg : Gl X x) (hd : (x == ("__debug__" : Str)) = false)
    (hb : ∀ (W : WX) (pn : List (Addr × Obj)) (xe : Value → Shared → Prop), Takes (X.tr pn xe) W → PassesOwn (model X.prog X.w) X.A X.env xe → PSs (X.tr pn xe) sts (tSs T pl X.K k W iss))
    (hsu : ∀ (a : Addr) (oe : Obj) (pn : List (Addr × Obj)), PSs (X.suite a ((a, oe) :: pn)) (b₀ :: sts2) (tSs T pl X.K k noW iss2)) :
    PS X (.Try sts [.ExceptHandler (some (.Name x np)) none (b₀ :: sts2) pos'] [] [] pos) (tS T pl X.K k W (.try iss C none iss2)) := by
  obtain ⟨hm, _⟩ := G.top.exc C x hx hC
  refine ⟨fun pins s σ H D' I h => (ps_try_only (c := .ref (pl.ca C)) (tb := fun W => tSs T pl X.K k W iss) (ts := fun _ _ _ => tSs T pl X.K k noW iss2) (Wout := W) hst hf ⟨hg, hd, .inl hm⟩ G.tk hb (fun a oe cls d pn _ _ => hsu a oe pn)).run pins s σ H D' I ?_⟩
  obtain ⟨ρ, L, g, rl, rg, h⟩ := h
  rw [evS] at h
  refine ⟨ρ, L, g, rl, rg, ?_⟩
  revert h
  cases evSs T (runF T k) iss L g with
  | ex e L1 g1 =>
    intro h ρ1 H1 σ1 e1 rg1 rl1 hfs
    simp only at h
    cases es : T.sub e.cls C with
    | none => rw [es] at h; exact h.elim
    | some b =>
      rw [es] at h
      refine ⟨b, G.top.sub _ _ _ es, fun hb a ha => ?_, fun hb => ?_⟩
      · subst hb
        simp only at h
        exact ⟨ρ1, L1, g1, rl1, rg1, (PoO.noW h).shift e1⟩
      · subst hb
        exact h ρ1 H1 σ1 e1 rg1 rl1 hfs
  | nx L1 g1 => exact id
  | br L1 g1 => exact id
  | ct L1 g1 => exact id
  | rt d g1 => exact id
  | bad => exact id
end
end Sd
set_option Elab.async false
set_option linter.all false
set_option maxRecDepth 100000
set_option maxHeartbeats 1000000
/-! Snd13: terms and texts side by side. -/
namespace Sd
open PySem PySem.Spec PyProof.Rows L2 Py
/-! ### small looks at texts -/
def noStar : Expr → Bool
  | .Starred .. => false
  | _ => true
theorem star_ok {e : Expr} (h : noStar e = true) (r : List Expr) (env : Env) : starEach (e :: r) env = (false, eval e env) :: starEach r env := by
  cases e <;> first | rfl | cases h
theorem stars_none (pos : Pos) (env : Env) : ∀ {es : List Expr}, es.all noStar = true → (backTo pos (starEach es env)).any (·.1) = false ∧ (backTo pos (starEach es env)).all (fun x => !x.1) = true
  | [], _ => ⟨rfl, rfl⟩
  | e :: es, h => by
    simp only [List.all_cons, Bool.and_eq_true] at h
    obtain ⟨h1, h2⟩ := stars_none pos env h.2
    rw [star_ok h.1]
    have e1 : backTo pos ((false, eval e env) :: starEach es env) = (false, eval e env) :: backTo pos (starEach es env) := rfl
    rw [e1]
    exact ⟨by rw [List.any_cons, h1]; rfl, by rw [List.all_cons, h2]; rfl⟩
def baseOk : Expr → Bool
  | .Call .. => false
  | _ => true
theorem base_ok {e : Expr} (h : baseOk e = true) (x : Str) (env : Env) (w : Sem Value) : attributeBase e x env w = w := by
  cases e <;> first | rfl | cases h
theorem plain_ix {b : Expr} (h : noSl b = true) : PlainIx b := by
  intro o i
  cases b <;> first | rfl | cases h
theorem asg_sub {a b : Expr} {spos : Pos} {env : Env} (h : noSl b = true) (v : Value) : assign (.Subscript a b spos) env v = (do
      let ov ← holding [v] (eval a env)
      let iv ← holding [v, ov] (eval b env)
      standAt spos
      holding [v, ov, iv] (setItem ov iv v)
      release [v, ov, iv] []) := by
  cases b <;> first | rfl | cases h
theorem meth_eq {o : Expr} {name : Str} {apos pos : Pos} {args : List Expr} {env : Env} (hb : baseOk o = true) (hs : args.all noStar = true) (hl : args.length < 30) (hline : (apos.endLine == pos.line) = true) :
    eval (.Call (.Attribute o name apos) args [] pos) env = (do
      let ov ← eval o env
      standAt apos.atName
      let (f, first) ← holding [ov] (getMethod ov name (do return (← importBound o env).getD true))
      callWith pos f first (backTo pos (starEach args env)) (backToKw pos (keywordEach [] env))) := by
  rw [arm_eval_Call, base_ok hb]
  have hform : methodCallForm (args.length + ([] : List Keyword).length) (backTo pos (starEach args env)) (backToKw pos (keywordEach [] env)) = true := by
    unfold methodCallForm
    rw [(stars_none pos env hs).2]
    show (true && true && decide (args.length + 0 + 0 < 30)) = true
    simp [hl]
  have hpos : methodCallPos true o env apos pos = pure pos := by unfold methodCallPos; simp [hline]
  unfold methodCall
  rw [hform, hpos]
  rfl
def folded : Expr → Bool
  | .Set .. => false
  | _ => true
theorem folded_ok {e : Expr} (h : folded e = true) (env : Env) : ∀ x, foldedSetIterable e env x = pure x := by
  intro x
  cases e <;> first | rfl | cases h
def plainT : Expr → Bool
  | .UnaryOp .. | .BoolOp .. | .IfExp .. | .Compare .. => false
  | _ => true
theorem plain_t {a : Expr} (h : plainT a = true) (env : Env) : ∀ whole, isTrue a env whole = (do let v ← whole; standAt a.pos; holding [v] (truthy v)) := by
  intro w
  cases a <;> first | rfl | cases h
def noTup : Expr → Bool
  | .Tuple .. => false
  | _ => true
theorem sw_name {x : Str} {p : Pos} {e : Expr} (env : Env) : swappedStores [.Name x p] e env = pure none := by
  cases e <;> rfl
theorem sw_tup {ts : List Expr} {k : Nat} {p : Pos} {e : Expr} (h : noTup e = true) (env : Env) : swappedStores [.Tuple ts k p] e env = pure none := by
  cases e <;> first | rfl | cases h
theorem sw_sub {a b : Expr} {p : Pos} {e : Expr} (env : Env) : swappedStores [.Subscript a b p] e env = pure none := by
  cases e <;> rfl
theorem swl_sub {a b : Expr} {p : Pos} {e : Expr} (l : Nat) (env : Env) : swapsWithSole [.Subscript a b p] e l env = pure false := by
  cases e <;> rfl
theorem swl_att {a : Expr} {x : Str} {p : Pos} {e : Expr} (l : Nat) (env : Env) : swapsWith e (some (.Attribute a x p)) l env = pure false := by
  cases e <;> rfl
theorem swl_no {t e : Expr} (h : noLc e = true) (l : Nat) (env : Env) : swapsWithSole [t] e l env = pure false := noLc_sw h _ _ _

/-! ### names -/
def okN (x : Str) : Bool := !(x == ("__debug__" : Str)) && !(x == ("__classdict__" : Str))
def glB (sc : Scope) (x : Str) : Bool := decide (sc.names.lookup x = some .globalImplicit)
def visB (sc : Scope) (x : Str) : Bool := decide (sc.names.lookup x = some .local) || decide (sc.names.lookup x = some .cell) || decide (sc.names.lookup x = some .free)
def locB (fc : Bool) (sc : Scope) (x : Str) : Bool := decide (sc.names.lookup x = some .local) || (fc && decide (sc.names.lookup x = some .cell))
section
variable {T : Tb} {pl : Pl} {X : Cx} {k : Nat} {N : List Str} {sc : Scope} {W : WX}
theorem gl_ok {x : Str} (G : Good T pl k N sc W X) (h : glB sc x = true) : Gl X x := by
  have h := of_decide_eq_true h
  show X.env.scope.names.lookup x = _
  rw [G.sc_]
  exact h
theorem vis_ok {x : Str} (G : Good T pl k N sc W X) (h : visB sc x = true) : Vis X.env.scope x := by
  unfold Vis
  rw [G.sc_]
  simp only [visB, Bool.or_eq_true, decide_eq_true_eq] at h
  rcases h with (h | h) | h
  · exact .inl h
  · exact .inr (.inl h)
  · exact .inr (.inr h)
theorem loc_ok {fc : Bool} {x : Str} (G : Good T pl k N sc W X) (hf : fc = true → ∀ x, sc.names.lookup x = some .cell → X.fn x = true) (h : locB fc sc x = true) : L2.Loc X.env.scope x ∧ (X.fn x = true ∨ X.env.scope.names.lookup x = some .local) := by
  unfold L2.Loc
  rw [G.sc_]
  simp only [locB, Bool.or_eq_true, Bool.and_eq_true, decide_eq_true_eq] at h
  rcases h with h | ⟨h1, h2⟩
  · exact ⟨.inl h, .inr h⟩
  · exact ⟨.inr h2, .inl (hf h1 x h2)⟩
theorem debug_ok {x : Str} (h : okN x = true) : (x == ("__debug__" : Str)) = false ∧ (x == ("__classdict__" : Str)) = false := by
  simpa [okN] using h
end
/-! ### targets -/
def mNms (N : List Str) (fc : Bool) (sc : Scope) : List Expr → List Nat → Bool
  | [], [] => true
  | .Name x _ :: es, i :: is => decide (N[i]? = some x) && locB fc sc x && mNms N fc sc es is
  | _, _ => false
def mTg (N : List Str) (fc : Bool) (sc : Scope) : Tg → Expr → Bool
  | .nm i, .Name x _ => decide (N[i]? = some x) && locB fc sc x
  | .tp is, .Tuple es _ _ => mNms N fc sc es is
  | _, _ => false
section
variable {T : Tb} {pl : Pl} {X : Cx} {k : Nat} {N : List Str} {sc : Scope} {W : WX}
theorem nms_ok {fc : Bool} (G : Good T pl k N sc W X) (hf : fc = true → ∀ x, sc.names.lookup x = some .cell → X.fn x = true) : ∀ {es : List Expr} {is : List Nat}, mNms N fc sc es is = true → NmsOk X es is
  | [], [], _ => trivial
  | e :: es, i :: is, h => by
    cases e with
    | Name x p =>
      simp only [mNms, Bool.and_eq_true, decide_eq_true_eq] at h
      obtain ⟨l1, l2⟩ := loc_ok G hf h.1.2
      exact ⟨by rw [G.hN]; exact h.1.1, l1, l2, nms_ok G hf h.2⟩
    | _ => cases h
  | [], _ :: _, h => by cases h
  | e :: es, [], h => by cases e <;> cases h
theorem tg_ok {fc : Bool} (G : Good T pl k N sc W X) (hc : X.calm = true) (hf : fc = true → ∀ x, sc.names.lookup x = some .cell → X.fn x = true) {t : Tg} {e : Expr} (h : mTg N fc sc t e = true) : PG X e (tG pl X.K t) := by
  have nd : X.N.Nodup := by rw [G.hN]; exact G.nd
  cases t with
  | nm i =>
    cases e with
    | Name x p =>
      simp only [mTg, Bool.and_eq_true, decide_eq_true_eq] at h
      obtain ⟨l1, l2⟩ := loc_ok G hf h.2
      exact g_nm nd (by rw [G.hN]; exact h.1) l1 l2
    | _ => cases h
  | tp is =>
    cases e with
    | Tuple es kk p => exact g_tp hc nd (nms_ok G hf h)
    | _ => cases h
theorem tg_nm {fc : Bool} (G : Good T pl k N sc W X) (hf : fc = true → ∀ x, sc.names.lookup x = some .cell → X.fn x = true) {i : Nat} {e : Expr} (h : mTg N fc sc (.nm i) e = true) : PG X e (tG pl X.K (.nm i)) := by
  have nd : X.N.Nodup := by rw [G.hN]; exact G.nd
  cases e with
  | Name x p =>
    simp only [mTg, Bool.and_eq_true, decide_eq_true_eq] at h
    obtain ⟨l1, l2⟩ := loc_ok G hf h.2
    exact g_nm nd (by rw [G.hN]; exact h.1) l1 l2
  | _ => cases h
end
/-! ### a comprehension's block -/
def ownOf (N : List Str) (t : Tg) : List (Str × Nat) := t.own.filterMap fun i => (N[i]?).map fun x => (x, i)
def blkB (N : List Str) (sc scope : Scope) (t : Tg) : Bool :=
  decide (scope.kind = .function) && scope.names.all (fun y => decide (scope.names.lookup y.1 = some y.2)) &&
  scope.names.all (fun y => !decide (y.2 = .free) || decide (sc.names.lookup y.1 = some .cell) || decide (sc.names.lookup y.1 = some .free)) &&
  scope.names.all (fun y => !(decide (y.2 = .local) || decide (y.2 = .cell)) || decide (y.1 ∈ (ownOf N t).map (·.1)) || !decide (y.1 ∈ N)) &&
  decide ((ownOf N t).map (·.2) = t.own)
theorem blk_ok {N : List Str} {sc scope : Scope} {t : Tg} (h : blkB N sc scope t = true) : BlkOk N sc scope (ownOf N t) ∧ (ownOf N t).map (·.2) = t.own := by
  simp only [blkB, Bool.and_eq_true, decide_eq_true_eq, List.all_eq_true, Bool.or_eq_true, Bool.not_eq_true', decide_eq_false_iff_not] at h
  obtain ⟨⟨⟨⟨h1, h2⟩, h3⟩, h4⟩, h5⟩ := h
  refine ⟨⟨h1, h2, fun p hp => ?_, fun y hy e => ?_, fun y hy e => ?_⟩, h5⟩
  · obtain ⟨i, hi, q⟩ := List.mem_filterMap.mp hp
    cases e : N[i]? with
    | none => rw [e] at q; cases q
    | some x => rw [e] at q; cases q; exact e
  · rcases h3 y hy with (q | q) | q
    · exact absurd e q
    · exact .inl q
    · exact .inr q
  · rcases h4 y hy with (q | q) | q
    · rcases e with e | e
      · simp [e] at q
      · simp [e] at q
    · exact .inl q
    · exact .inr q

/-! ### expressions -/
def isCallTo (x : Str) : Expr → Bool
  | .Name y _ => decide (y = x)
  | _ => false
mutual
def mE (T : Tb) (nm : Nm) (N : List Str) (cm : Bool) : E → Bool → Scope → Expr → Bool
  | .v i, _, sc, .Name x _ => decide (N[i]? = some x) && visB sc x && okN x
  | .c d, _, _, .Constant c _ _ => match d, c with
    | .int i, .int j => decide (i = j)
    | .bl i, .bool j => decide (i = j)
    | .str z, .str s => decide (toS z = s)
    | .non, .none => true
    | _, _ => false
  | .g i, _, sc, .Name x _ => decide (nm.gls[i]? = some x) && glB sc x && okN x
  | .bin o a b, _, sc, .BinOp ea op eb _ => decide (op = opOf o) && mE T nm N cm a false sc ea && mE T nm N cm b false sc eb
  | .neg a, tst, sc, .UnaryOp .USub ea _ => !tst && mE T nm N cm a false sc ea
  | .cmp o a b, _, sc, .Compare ea [op] [eb] _ => decide (op = copOf o) && !behindInMarks op eb && mE T nm N cm a false sc ea && mE T nm N cm b false sc eb
  | .cmp2 o o' a b c, _, sc, .Compare ea [op, op'] [eb, ec] _ => decide (op = copOf o) && decide (op' = copOf o') && !lastMarks [op, op'] [eb, ec] && mE T nm N cm a false sc ea && mE T nm N cm b false sc eb && mE T nm N cm c false sc ec
  | .isi a t, _, sc, .Call (.Name x _) [ea, .Name y _] [] _ => decide (x = ("isinstance" : Str)) && isTy t && decide (y = Str.ofString (tyN t)) && glB sc x && glB sc y && noStar ea && mE T nm N cm a false sc ea
  | .and a b, tst, sc, .BoolOp .And (ea :: eb :: rest) pos => mE T nm N cm a tst sc ea && (match rest with
    | [] => mE T nm N cm b tst sc eb
    | _ => mE T nm N cm b tst sc (.BoolOp .And (eb :: rest) pos))
  | .or a b, tst, sc, .BoolOp .Or (ea :: eb :: rest) pos => mE T nm N cm a tst sc ea && (match rest with
    | [] => mE T nm N cm b tst sc eb
    | _ => mE T nm N cm b tst sc (.BoolOp .Or (eb :: rest) pos))
  | .not a, tst, sc, .UnaryOp .Not ea _ => mE T nm N cm a tst sc ea
  | .ite c a b, tst, sc, .IfExp ec ea eb _ => !tst && mE T nm N cm c true sc ec && mE T nm N cm a false sc ea && mE T nm N cm b false sc eb
  | .tup es, _, sc, .Tuple ees _ _ => mEs T nm N cm es sc ees
  | .lst es, _, sc, .List ees _ => mEs T nm N cm es sc ees
  | .dnk, _, _, .Dict [] [] _ => true
  | .dnt, _, _, .Dict [] [] _ => true
  | .ix a i, _, sc, .Subscript ea ei _ => noSl ei && mE T nm N cm a false sc ea && mE T nm N cm i false sc ei
  | .slL a lo, _, sc, .Subscript ea (.Slice (some el) none none _) _ => mE T nm N cm a false sc ea && mE T nm N cm lo false sc el
  | .slH a hi, _, sc, .Subscript ea (.Slice none (some eh) none _) _ => mE T nm N cm a false sc ea && mE T nm N cm hi false sc eh
  | .slB a lo hi, _, sc, .Subscript ea (.Slice (some el) (some eh) none _) _ => mE T nm N cm a false sc ea && mE T nm N cm lo false sc el && mE T nm N cm hi false sc eh
  | .fld a f, _, sc, .Attribute ea x _ => decide (nm.ats[f]? = some x) && baseOk ea && mE T nm N cm a false sc ea
  | .call f es, _, sc, .Call (.Name x _) ees [] _ => cm && decide (nm.fns[f]? = some (some x)) && glB sc x && okN x && ees.all noStar && mEs T nm N cm es sc ees
  | .mk C es, _, sc, .Call (.Name x _) ees [] _ => cm && decide (nm.cls[C]? = some x) && (T.ini C).isSome && glB sc x && okN x && ees.all noStar && mEs T nm N cm es sc ees
  | .mth a m es, _, sc, .Call (.Attribute ea x apos) ees [] pos => cm && decide (nm.ats[m]? = some x) && baseOk ea && (apos.endLine == pos.line) && ees.all noStar && decide (ees.length < 30) && mE T nm N cm a false sc ea && mEs T nm N cm es sc ees
  | .bi b es, _, sc, .Call (.Name x _) ees [] _ => cm && decide (x = Str.ofString (biN b)) && glB sc x && ees.all noStar && (match ees with
    | [_] => b1ok b
    | [_, _] => b2ok b
    | _ => false) && mEs T nm N cm es sc ees
  | .bm m a es, _, sc, .Call (.Attribute ea x apos) ees [] pos => decide (x = Str.ofString (bmN m)) && baseOk ea && (apos.endLine == pos.line) && ees.all noStar && decide (ees.length < 30) && mE T nm N cm a false sc ea && mEs T nm N cm es sc ees
  | .comp t s c e, _, sc, .ListComp ee [⟨tg, iter, ifs, asy⟩] scope _ => cm && decide (asy = 0) && blkB N sc scope t && mTg N false (relS scope sc) t tg && folded iter && mI T nm N cm s sc tg iter && (match ifs with
    | [] => (match c with
      | .c (.bl true) => true
      | _ => false)
    | [ec] => mE T nm N cm c true (relS scope sc) ec
    | _ => false) && mE T nm N cm e false (relS scope sc) ee
  | _, _, _, _ => false
def mEs (T : Tb) (nm : Nm) (N : List Str) (cm : Bool) : Es → Scope → List Expr → Bool
  | .nil, _, [] => true
  | .cons a r, sc, e :: es => noStar e && mE T nm N cm a false sc e && mEs T nm N cm r sc es
  | _, _, _ => false
def mI (T : Tb) (nm : Nm) (N : List Str) (cm : Bool) : Src → Scope → Expr → Expr → Bool
  | .it a, sc, _, e => mE T nm N cm a false sc e
  | .rng es, sc, _, .Call (.Name x _) ees [] _ => decide (x = ("range" : Str)) && glB sc x && ees.all noStar && (match ees with
    | [_] => true
    | [_, _] => true
    | _ => false) && mEs T nm N cm es sc ees
  | .enum a, sc, .Tuple _ _ _, .Call (.Name x _) [ea] [] _ => decide (x = ("enumerate" : Str)) && glB sc x && noStar ea && mE T nm N cm a false sc ea
  | _, _, _, _ => false
end
end Sd
set_option Elab.async false
set_option linter.all false
set_option maxRecDepth 100000
set_option maxHeartbeats 4000000
/-! Snd14: what stands side by side means the same: expressions. -/
namespace Sd
open PySem PySem.Spec PyProof.Rows L2 Py
def OkE (T : Tb) (pl : Pl) (k : Nat) (W : WX) (X : Cx) (tst : Bool) (ir : E) (e : Expr) : Prop :=
  (tst = false → PE X e (tE T pl X.K k W ir)) ∧ (tst = true → PT X e (tT T pl X.K k W ir)) ∧ (tst = true → ∀ op vs p, e = .BoolOp op vs p → PW X e (tT T pl X.K k W ir))
section
variable {T : Tb} {pl : Pl} {X : Cx} {k : Nat} {N : List Str} {sc : Scope} {W : WX} {ia ib ic : E} {ie : Es} {a b c tg : Expr} {es : List Expr} {pos : Pos} {tst : Bool}
theorem OkE.plain (hp : plainT a = true) (h : PE X a (tE T pl X.K k W ia)) : OkE T pl k W X tst ia a :=
  ⟨fun _ => h, fun _ => t_plain h (plain_t hp _), fun _ op vs p e => by subst e; cases hp⟩
theorem OkE.both (h : PE X a (tE T pl X.K k W ia)) (ht : PT X a (tT T pl X.K k W ia)) (hn : ∀ op vs p, a ≠ .BoolOp op vs p) : OkE T pl k W X tst ia a :=
  ⟨fun _ => h, fun _ => ht, fun _ op vs p e => absurd e (hn _ _ _)⟩
theorem OkE.e (h : OkE T pl k W X false ia a) : PE X a (tE T pl X.K k W ia) := h.1 rfl
theorem OkE.t (h : OkE T pl k W X true ia a) : PT X a (tT T pl X.K k W ia) := h.2.1 rfl
theorem pe_one {op : BoolOp} (h : PE X a (tE T pl X.K k W ia)) : PE X (.BoolOp op [a] pos) (tE T pl X.K k W ia) := ⟨fun pins s σ H Q I q => by
  have := h.run pins s σ H Q I q
  exact this⟩
theorem ok_and {rest : List Expr} (h1 : OkE T pl k W X tst ia a) (h2 : rest = [] → OkE T pl k W X tst ib b) (h3 : rest ≠ [] → OkE T pl k W X tst ib (.BoolOp .And (b :: rest) pos)) : OkE T pl k W X tst (.and ia ib) (.BoolOp .And (a :: b :: rest) pos) := by
  have w : tst = true → PW X (.BoolOp .And (a :: b :: rest) pos) (tT T pl X.K k W (.and ia ib)) := fun ht => by
    refine t_and (h1.2.1 ht) ?_
    by_cases hr : rest = []
    · subst hr
      exact t_and1 ((h2 rfl).2.1 ht)
    · exact (h3 hr).2.2 ht _ _ _ rfl
  refine ⟨fun ht => ?_, fun ht => (w ht).pt, fun ht _ _ _ _ => w ht⟩
  refine s_and (h1.1 ht) ?_
  by_cases hr : rest = []
  · subst hr
    exact pe_one ((h2 rfl).1 ht)
  · exact (h3 hr).1 ht
theorem ok_or {rest : List Expr} (h1 : OkE T pl k W X tst ia a) (h2 : rest = [] → OkE T pl k W X tst ib b) (h3 : rest ≠ [] → OkE T pl k W X tst ib (.BoolOp .Or (b :: rest) pos)) : OkE T pl k W X tst (.or ia ib) (.BoolOp .Or (a :: b :: rest) pos) := by
  have w : tst = true → PW X (.BoolOp .Or (a :: b :: rest) pos) (tT T pl X.K k W (.or ia ib)) := fun ht => by
    refine t_or (h1.2.1 ht) ?_
    by_cases hr : rest = []
    · subst hr
      exact t_or1 ((h2 rfl).2.1 ht)
    · exact (h3 hr).2.2 ht _ _ _ rfl
  refine ⟨fun ht => ?_, fun ht => (w ht).pt, fun ht _ _ _ _ => w ht⟩
  refine s_or (h1.1 ht) ?_
  by_cases hr : rest = []
  · subst hr
    exact pe_one ((h2 rfl).1 ht)
  · exact (h3 hr).1 ht
theorem ok_not (h : OkE T pl k W X tst ia a) : OkE T pl k W X tst (.not ia) (.UnaryOp .Not a pos) :=
  ⟨fun ht => s_not (h.1 ht), fun ht => t_not (h.2.1 ht), fun _ _ _ _ e => by cases e⟩
end
/-- shorthand for the hypotheses -/
abbrev Hc (cm : Bool) (k : Nat) (X : Cx) : Prop := cm = true → Calm k X
section
variable {T : Tb} {pl : Pl} {k : Nat} {N : List Str} {cm : Bool}
mutual
theorem okE : ∀ (ir : E) {tst : Bool} {sc : Scope} {e : Expr} {X : Cx} {W : WX}, Good T pl k N sc W X → Hc cm k X → mE T pl.nm N cm ir tst sc e = true → OkE T pl k W X tst ir e
  | .v i, tst, sc, e, X, W, G, hC, h => by
    cases e with
    | Name x p =>
      simp only [mE, Bool.and_eq_true, decide_eq_true_eq] at h
      obtain ⟨d1, d2⟩ := debug_ok h.2
      exact .plain rfl (s_v (by rw [G.hN]; exact h.1.1) (vis_ok G h.1.2) d1 d2)
    | _ => cases h
  | .c d, tst, sc, e, X, W, G, hC, h => by
    cases e with
    | Constant c j p =>
      refine .plain rfl ?_
      cases d <;> cases c <;> simp only [mE, Bool.false_eq_true, decide_eq_true_eq] at h
      · exact s_non
      · subst h; exact s_bl
      · subst h; exact s_int
      · subst h; exact s_str
    | _ => cases h
  | .g i, tst, sc, e, X, W, G, hC, h => by
    cases e with
    | Name x p =>
      simp only [mE, Bool.and_eq_true, decide_eq_true_eq] at h
      obtain ⟨d1, d2⟩ := debug_ok h.2
      exact .plain rfl (s_g G (gl_ok G h.1.2) h.1.1 d1)
    | _ => cases h
  | .bin o a b, tst, sc, e, X, W, G, hC, h => by
    cases e with
    | BinOp ea op eb p =>
      simp only [mE, Bool.and_eq_true, decide_eq_true_eq] at h
      obtain ⟨⟨rfl, h1⟩, h2⟩ := h
      exact .plain rfl (s_bin (okE a G hC h1).e (okE b G hC h2).e)
    | _ => cases h
  | .neg a, tst, sc, e, X, W, G, hC, h => by
    cases e with
    | UnaryOp op ea p =>
      cases op with
      | USub =>
        simp only [mE, Bool.and_eq_true, Bool.not_eq_true'] at h
        obtain ⟨rfl, h1⟩ := h
        exact ⟨fun _ => s_neg (okE a G hC h1).e, (fun e => by cases e), (fun e => by cases e)⟩
      | _ => cases h
    | _ => cases h
  | .cmp o a b, tst, sc, e, X, W, G, hC, h => by
    cases e with
    | Compare ea ops ebs p =>
      rcases ops with _ | ⟨op, _ | ⟨op2, ops⟩⟩
      · cases h
      · rcases ebs with _ | ⟨eb, _ | ⟨eb2, ebs⟩⟩
        · cases h
        · simp only [mE, Bool.and_eq_true, decide_eq_true_eq, Bool.not_eq_true'] at h
          obtain ⟨⟨⟨rfl, hm⟩, h1⟩, h2⟩ := h
          exact .both (s_cmp G.hu (okE a G hC h1).e (okE b G hC h2).e hm) (t_cmp G.hu (okE a G hC h1).e (okE b G hC h2).e hm) (fun _ _ _ e => by cases e)
        · cases h
      · cases h
    | _ => cases h
  | .cmp2 o o' a b c, tst, sc, e, X, W, G, hC, h => by
    cases e with
    | Compare ea ops ebs p =>
      rcases ops with _ | ⟨op, _ | ⟨op2, _ | ⟨op3, ops⟩⟩⟩
      · cases h
      · cases h
      · rcases ebs with _ | ⟨eb, _ | ⟨eb2, _ | ⟨eb3, ebs⟩⟩⟩
        · cases h
        · cases h
        · simp only [mE, Bool.and_eq_true, decide_eq_true_eq, Bool.not_eq_true'] at h
          obtain ⟨⟨⟨⟨⟨rfl, rfl⟩, hm⟩, h1⟩, h2⟩, h3⟩ := h
          exact .both (s_cmp2 G.hu (okE a G hC h1).e (okE b G hC h2).e (okE c G hC h3).e hm) (t_cmp2 G.hu (okE a G hC h1).e (okE b G hC h2).e (okE c G hC h3).e hm) (fun _ _ _ e => by cases e)
        · cases h
      · cases h
    | _ => cases h
  | .isi a t, tst, sc, e, X, W, G, hC, h => by
    cases e with
    | Call f ees kws p =>
      cases f with
      | Name x p1 =>
        rcases ees with _ | ⟨ea, _ | ⟨eb, _ | ⟨ec, ees⟩⟩⟩
        · cases h
        · cases h
        · cases eb with
          | Name y p2 =>
            cases kws with
            | nil =>
              simp only [mE, Bool.and_eq_true, decide_eq_true_eq] at h
              obtain ⟨⟨⟨⟨⟨⟨rfl, ht⟩, rfl⟩, g1⟩, g2⟩, hs⟩, h1⟩ := h
              exact .plain rfl (s_isi G ht (okE a G hC h1).e (gl_ok G g1) (gl_ok G g2) fun r => star_ok hs r _)
            | cons _ _ => cases h
          | _ => cases h
        · cases eb <;> cases h
      | _ => cases h
    | _ => cases h
  | .and a b, tst, sc, e, X, W, G, hC, h => by
    cases e with
    | BoolOp op vs p =>
      cases op with
      | And =>
        rcases vs with _ | ⟨ea, _ | ⟨eb, rest⟩⟩
        · cases h
        · cases h
        · cases rest with
          | nil =>
            simp only [mE, Bool.and_eq_true] at h
            exact ok_and (okE a G hC h.1) (fun _ => okE b G hC h.2) (fun q => absurd rfl q)
          | cons r1 rs =>
            simp only [mE, Bool.and_eq_true] at h
            exact ok_and (okE a G hC h.1) (fun q => by cases q) (fun q => okE b G hC h.2)
      | Or => cases h
    | _ => cases h
  | .or a b, tst, sc, e, X, W, G, hC, h => by
    cases e with
    | BoolOp op vs p =>
      cases op with
      | Or =>
        rcases vs with _ | ⟨ea, _ | ⟨eb, rest⟩⟩
        · cases h
        · cases h
        · cases rest with
          | nil =>
            simp only [mE, Bool.and_eq_true] at h
            exact ok_or (okE a G hC h.1) (fun _ => okE b G hC h.2) (fun q => absurd rfl q)
          | cons r1 rs =>
            simp only [mE, Bool.and_eq_true] at h
            exact ok_or (okE a G hC h.1) (fun q => by cases q) (fun q => okE b G hC h.2)
      | And => cases h
    | _ => cases h
  | .not a, tst, sc, e, X, W, G, hC, h => by
    cases e with
    | UnaryOp op ea p =>
      cases op with
      | Not =>
        simp only [mE] at h
        exact ok_not (okE a G hC h)
      | _ => cases h
    | _ => cases h
  | .ite c a b, tst, sc, e, X, W, G, hC, h => by
    cases e with
    | IfExp ec ea eb p =>
      simp only [mE, Bool.and_eq_true, Bool.not_eq_true'] at h
      obtain ⟨⟨⟨rfl, h1⟩, h2⟩, h3⟩ := h
      exact ⟨fun _ => t_ite (tc := tT T pl X.K k W c) (okE c G hC h1).t (okE a G hC h2).e (okE b G hC h3).e, (fun e => by cases e), (fun e => by cases e)⟩
    | _ => cases h
  | .tup es, tst, sc, e, X, W, G, hC, h => by
    cases e with
    | Tuple ees kk p =>
      simp only [mE] at h
      exact .plain rfl (s_tup (okEs es G hC h))
    | _ => cases h
  | .lst es, tst, sc, e, X, W, G, hC, h => by
    cases e with
    | List ees p =>
      simp only [mE] at h
      exact .plain rfl (s_lst (okEs es G hC h))
    | _ => cases h
  | .dnk, tst, sc, e, X, W, G, hC, h => by
    cases e with
    | Dict ks vs p =>
      cases ks with
      | nil =>
        cases vs with
        | nil => exact .plain rfl s_dnk
        | cons _ _ => cases h
      | cons _ _ => cases h
    | _ => cases h
  | .dnt, tst, sc, e, X, W, G, hC, h => by
    cases e with
    | Dict ks vs p =>
      cases ks with
      | nil =>
        cases vs with
        | nil => exact .plain rfl s_dnt
        | cons _ _ => cases h
      | cons _ _ => cases h
    | _ => cases h
  | .dic _ _, tst, sc, e, X, W, G, hC, h => by cases e <;> cases h
  | .gix _ _, tst, sc, e, X, W, G, hC, h => by cases e <;> cases h
  | .rev _, tst, sc, e, X, W, G, hC, h => by cases e <;> cases h
  | .lenset _, tst, sc, e, X, W, G, hC, h => by cases e <;> cases h
  | .ix a i, tst, sc, e, X, W, G, hC, h => by
    cases e with
    | Subscript ea ei p =>
      simp only [mE, Bool.and_eq_true] at h
      exact .plain rfl (s_ix G.hu (okE a G hC h.1.2).e (okE i G hC h.2).e (plain_ix h.1.1))
    | _ => cases h
  | .slL a lo, tst, sc, e, X, W, G, hC, h => by
    cases e with
    | Subscript ea ei p =>
      cases ei with
      | Slice l u st p2 =>
        cases l <;> cases u <;> cases st <;> first | (cases h; done) | skip
        simp only [mE, Bool.and_eq_true] at h
        exact .plain rfl (s_slL (okE a G hC h.1).e (okE lo G hC h.2).e)
      | _ => cases h
    | _ => cases h
  | .slH a hi, tst, sc, e, X, W, G, hC, h => by
    cases e with
    | Subscript ea ei p =>
      cases ei with
      | Slice l u st p2 =>
        cases l <;> cases u <;> cases st <;> first | (cases h; done) | skip
        simp only [mE, Bool.and_eq_true] at h
        exact .plain rfl (s_slH (okE a G hC h.1).e (okE hi G hC h.2).e)
      | _ => cases h
    | _ => cases h
  | .slB a lo hi, tst, sc, e, X, W, G, hC, h => by
    cases e with
    | Subscript ea ei p =>
      cases ei with
      | Slice l u st p2 =>
        cases l <;> cases u <;> cases st <;> first | (cases h; done) | skip
        simp only [mE, Bool.and_eq_true] at h
        exact .plain rfl (s_slB (okE a G hC h.1.1).e (okE lo G hC h.1.2).e (okE hi G hC h.2).e)
      | _ => cases h
    | _ => cases h
  | .fld a f, tst, sc, e, X, W, G, hC, h => by
    cases e with
    | Attribute ea x p =>
      simp only [mE, Bool.and_eq_true, decide_eq_true_eq] at h
      exact .plain rfl (s_fld G (okE a G hC h.2).e h.1.1 (base_ok h.1.2 _ _ _))
    | _ => cases h
  | .call f es, tst, sc, e, X, W, G, hC, h => by
    cases e with
    | Call fn ees kws p =>
      cases fn with
      | Name x p1 =>
        cases kws with
        | nil =>
          simp only [mE, Bool.and_eq_true, decide_eq_true_eq] at h
          obtain ⟨⟨⟨⟨⟨hcm, hx⟩, hg⟩, ho⟩, hs⟩, h1⟩ := h
          refine .plain rfl ?_
          cases ees with
          | nil =>
            cases es with
            | nil => exact s_call0 G (hC hcm) hx (gl_ok G hg) (debug_ok ho).1
            | cons _ _ => cases h1
          | cons e0 er =>
            have hs' := hs
            simp only [List.all_cons, Bool.and_eq_true] at hs'
            exact s_call G (hC hcm) hx (gl_ok G hg) (debug_ok ho).1 (okEs es G hC h1) (star_ok hs'.1 _ _) (stars_none _ _ hs'.2).1
        | cons _ _ => cases h
      | _ => cases h
    | _ => cases h
  | .mk C es, tst, sc, e, X, W, G, hC, h => by
    cases e with
    | Call fn ees kws p =>
      cases fn with
      | Name x p1 =>
        cases kws with
        | nil =>
          simp only [mE, Bool.and_eq_true, decide_eq_true_eq] at h
          obtain ⟨⟨⟨⟨⟨⟨hcm, hx⟩, hi⟩, hg⟩, ho⟩, hs⟩, h1⟩ := h
          obtain ⟨f, hf⟩ := Option.isSome_iff_exists.mp hi
          refine .plain rfl ?_
          cases ees with
          | nil =>
            cases es with
            | nil => exact s_mk0 G (hC hcm) hf hx (gl_ok G hg) (debug_ok ho).1
            | cons _ _ => cases h1
          | cons e0 er =>
            have hs' := hs
            simp only [List.all_cons, Bool.and_eq_true] at hs'
            exact s_mk G (hC hcm) hf hx (gl_ok G hg) (debug_ok ho).1 (okEs es G hC h1) (star_ok hs'.1 _ _) (stars_none _ _ hs'.2).1
        | cons _ _ => cases h
      | _ => cases h
    | _ => cases h
  | .mth a m es, tst, sc, e, X, W, G, hC, h => by
    cases e with
    | Call fn ees kws p =>
      cases fn with
      | Attribute ea x apos =>
        cases kws with
        | nil =>
          simp only [mE, Bool.and_eq_true, decide_eq_true_eq] at h
          obtain ⟨⟨⟨⟨⟨⟨⟨hcm, hx⟩, hb⟩, hl⟩, hs⟩, hlen⟩, h1⟩, h2⟩ := h
          refine .plain rfl ?_
          cases ees with
          | nil =>
            cases es with
            | nil => exact s_mth0 G (hC hcm) (okE a G hC h1).e hx (meth_eq hb hs hlen hl)
            | cons _ _ => cases h2
          | cons e0 er =>
            have hs' := hs
            simp only [List.all_cons, Bool.and_eq_true] at hs'
            exact s_mth G (hC hcm) (okE a G hC h1).e hx (okEs es G hC h2) (star_ok hs'.1 _ _) (stars_none _ _ hs'.2).1 (meth_eq hb hs hlen hl)
        | cons _ _ => cases h
      | _ => cases h
    | _ => cases h
  | .bi b es, tst, sc, e, X, W, G, hC, h => by
    cases e with
    | Call fn ees kws p =>
      cases fn with
      | Name x p1 =>
        cases kws with
        | nil =>
          simp only [mE, Bool.and_eq_true, decide_eq_true_eq] at h
          obtain ⟨⟨⟨⟨⟨hcm, rfl⟩, hg⟩, hs⟩, hb⟩, h1⟩ := h
          refine .plain rfl ?_
          rcases ees with _ | ⟨e1, _ | ⟨e2, _ | ⟨e3, ees⟩⟩⟩
          · cases hb
          · simp only [List.all_cons, List.all_nil, Bool.and_true] at hs
            rcases es with _ | ⟨a1, _ | ⟨a2, es⟩⟩
            · cases h1
            · simp only [mEs, Bool.and_eq_true] at h1
              exact s_bi1 G (hC hcm) hb (okE a1 G hC h1.1.2).e (gl_ok G hg) fun r => star_ok hs r _
            · simp [mEs] at h1
          · simp only [List.all_cons, List.all_nil, Bool.and_true, Bool.and_eq_true] at hs
            rcases es with _ | ⟨a1, _ | ⟨a2, _ | ⟨a3, es⟩⟩⟩
            · cases h1
            · simp [mEs] at h1
            · simp only [mEs, Bool.and_eq_true] at h1
              exact s_bi2 G (hC hcm) hb (okE a1 G hC h1.1.2).e (okE a2 G hC h1.2.1.2).e (gl_ok G hg) (fun r => star_ok hs.1 r _) (fun r => star_ok hs.2 r _)
            · simp [mEs] at h1
          · cases hb
        | cons _ _ => cases h
      | _ => cases h
    | _ => cases h
  | .bm m a es, tst, sc, e, X, W, G, hC, h => by
    cases e with
    | Call fn ees kws p =>
      cases fn with
      | Attribute ea x apos =>
        cases kws with
        | nil =>
          simp only [mE, Bool.and_eq_true, decide_eq_true_eq] at h
          obtain ⟨⟨⟨⟨⟨⟨rfl, hb⟩, hl⟩, hs⟩, hlen⟩, h1⟩, h2⟩ := h
          refine .plain rfl ?_
          cases ees with
          | nil =>
            cases es with
            | nil => exact s_bm0 G.hu (okE a G hC h1).e (base_ok hb _ _ _) hl
            | cons _ _ => cases h2
          | cons e0 er =>
            have hs' := hs
            simp only [List.all_cons, Bool.and_eq_true] at hs'
            have few : ((backTo p (starEach (e0 :: er) X.env)).all (fun x => !x.1) && (backToKw p (keywordEach [] X.env)).all (fun x => x.1.isSome)
      && decide ((e0 :: er).length + ([] : List Keyword).length + (if ([] : List Keyword).isEmpty then 0 else 1) < 30)) = true := by
              rw [(stars_none p X.env hs).2]
              show (true && true && decide ((e0 :: er).length + 0 + 0 < 30)) = true
              simp only [Nat.add_zero, Bool.and_self, Bool.true_and, decide_eq_true_eq]
              exact hlen
            exact s_bm G.hu (okE a G hC h1).e (okEs es G hC h2) (base_ok hb _ _ _) few hl (star_ok hs'.1 _ _) (stars_none _ _ hs'.2).1
        | cons _ _ => cases h
      | _ => cases h
    | _ => cases h
  | .comp t s c e0, tst, sc, e, X, W, G, hC, h => by
    cases e with
    | ListComp ee gs scope p =>
      rcases gs with _ | ⟨⟨tg, iter, ifs, asy⟩, _ | ⟨g2, gs⟩⟩
      · cases h
      · simp only [mE, Bool.and_eq_true, decide_eq_true_eq] at h
        obtain ⟨⟨⟨⟨⟨⟨⟨hcm, rfl⟩, hb⟩, ht⟩, hf⟩, hi⟩, hifs⟩, he⟩ := h
        have C0 := hC hcm
        obtain ⟨ok, hown⟩ := blk_ok hb
        refine .plain rfl (s_comp G C0 (okI s G hC hi) (by rw [G.hN, G.sc_]; exact ok) hown (fun s H C cl fp => tg_ok (G.blk s H scope C cl fp) C0.calm (fun z => by cases z) ht) (fun s H C cl fp => ?_)
          (fun s H C cl fp => (okE e0 (G.blk s H scope C cl fp) (fun _ => C0.blk s H scope C cl fp) he).e) (folded_ok hf _))
        rcases ifs with _ | ⟨ec, _ | ⟨e2, ifs⟩⟩
        · dsimp only at hifs
          split at hifs
          · exact pts_true (X := X.blk s H scope (compEnvC scope cl C X.env) fp)
          · cases hifs
        · exact pts_one (okE c (G.blk s H scope C cl fp) (fun _ => C0.blk s H scope C cl fp) hifs).t
        · cases hifs
      · cases h
    | _ => cases h
theorem okEs : ∀ (ir : Es) {sc : Scope} {es : List Expr} {X : Cx} {W : WX}, Good T pl k N sc W X → Hc cm k X → mEs T pl.nm N cm ir sc es = true → PA X es (tEs T pl X.K k W ir)
  | .nil, sc, es, X, W, G, hC, h => by
    cases es with
    | nil => exact a_nil
    | cons _ _ => cases h
  | .cons a r, sc, es, X, W, G, hC, h => by
    cases es with
    | nil => cases h
    | cons e es =>
      simp only [mEs, Bool.and_eq_true] at h
      exact a_cons (okE a G hC h.1.2).e (okEs r G hC h.2) (star_ok h.1.1 _ _)
theorem okI : ∀ (ir : Src) {sc : Scope} {tg e : Expr} {X : Cx} {W : WX}, Good T pl k N sc W X → Hc cm k X → mI T pl.nm N cm ir sc tg e = true → PI X tg e (tI T pl X.K k W ir)
  | .it a, sc, tg, e, X, W, G, hC, h => by
    simp only [mI] at h
    exact i_it (okE a G hC h).e
  | .rng es, sc, tg, e, X, W, G, hC, h => by
    cases e with
    | Call fn ees kws p =>
      cases fn with
      | Name x p1 =>
        cases kws with
        | nil =>
          simp only [mI, Bool.and_eq_true, decide_eq_true_eq] at h
          obtain ⟨⟨⟨⟨rfl, hg⟩, hs⟩, hb⟩, h1⟩ := h
          rcases ees with _ | ⟨e1, _ | ⟨e2, _ | ⟨e3, ees⟩⟩⟩
          · cases hb
          · simp only [List.all_cons, List.all_nil, Bool.and_true] at hs
            rcases es with _ | ⟨a1, _ | ⟨a2, es⟩⟩
            · cases h1
            · simp only [mEs, Bool.and_eq_true] at h1
              exact i_rng1 G (gl_ok G hg) (okE a1 G hC h1.1.2).e fun r => star_ok hs r _
            · simp [mEs] at h1
          · simp only [List.all_cons, List.all_nil, Bool.and_true, Bool.and_eq_true] at hs
            rcases es with _ | ⟨a1, _ | ⟨a2, _ | ⟨a3, es⟩⟩⟩
            · cases h1
            · simp [mEs] at h1
            · simp only [mEs, Bool.and_eq_true] at h1
              exact i_rng2 G (gl_ok G hg) (okE a1 G hC h1.1.2).e (okE a2 G hC h1.2.1.2).e (fun r => star_ok hs.1 r _) (fun r => star_ok hs.2 r _)
            · simp [mEs] at h1
          · cases hb
        | cons _ _ => cases h
      | _ => cases h
    | _ => cases h
  | .enum a, sc, tg, e, X, W, G, hC, h => by
    cases tg with
    | Tuple ts kk tp =>
      cases e with
      | Call fn ees kws p =>
        cases fn with
        | Name x p1 =>
          rcases ees with _ | ⟨e1, _ | ⟨e2, ees⟩⟩
          · cases h
          · cases kws with
            | nil =>
              simp only [mI, Bool.and_eq_true, decide_eq_true_eq] at h
              obtain ⟨⟨⟨rfl, hg⟩, hs⟩, h1⟩ := h
              exact i_enum G (gl_ok G hg) (okE a G hC h1).e fun r => star_ok hs r _
            | cons _ _ => cases h
          · cases h
        | _ => cases h
      | _ => cases h
    | _ => cases h
  | .zip _ _, sc, tg, e, X, W, G, hC, h => by cases tg <;> cases e <;> cases h
  | .revd _, sc, tg, e, X, W, G, hC, h => by cases tg <;> cases e <;> cases h
end
end
end Sd
set_option Elab.async false
set_option linter.all false
set_option maxRecDepth 100000
set_option maxHeartbeats 4000000
/-! Snd15: what stands side by side means the same: statements. -/
namespace Sd
open PySem PySem.Spec PyProof.Rows L2 Py
/-- a, b = x, y is stored from the right -/
def parB (sc : Scope) (x y : Str) (px py : Pos) (ea eb : Expr) : Bool :=
  decide (sc.kind = .function) && decide (sc.names.lookup x = some .local) && decide (sc.names.lookup y = some .local) && (px.line == py.line) && !(x == y) && noStar ea && noStar eb && !([ea, eb].all (foldedForSure 8)) && !([ea, eb].all (constantsAlone 8))
mutual
def mS (T : Tb) (nm : Nm) (N : List Str) (sc : Scope) : S → Bool → Stmt → Bool
  | .set (.nm i) (.comp t s c e), cm, .Assign [.Name y py] (.ListComp ee [⟨tg, iter, ifs, asy⟩] scope p) _ => mTg N true sc (.nm i) (.Name y py) && mE T nm N cm (.comp t s c e) false sc (.ListComp ee [⟨tg, iter, ifs, asy⟩] scope p)
  | .set t e, cm, .Assign [tg] ev _ => cm && mTg N true sc t tg && noLc ev && noTup ev && mE T nm N cm e false sc ev
  | .par i j a b, cm, .Assign [.Tuple [.Name x px, .Name y py] _ _] (.Tuple [ea, eb] _ _) _ => cm && decide (N[i]? = some x) && decide (N[j]? = some y) && !decide (i = j) && parB sc x y px py ea eb && mE T nm N cm a false sc ea && mE T nm N cm b false sc eb
  | .aug i o e, cm, .AugAssign (.Name x _) op ev _ => decide (N[i]? = some x) && locB true sc x && decide (op = opOf o) && mE T nm N cm e false sc ev
  | .augF a f o e, cm, .AugAssign (.Attribute ea x _) op ev _ => decide (nm.ats[f]? = some x) && decide (op = opOf o) && mE T nm N cm a false sc ea && mE T nm N cm e false sc ev
  | .setF a f e, cm, .Assign [.Attribute ea x _] ev _ => decide (nm.ats[f]? = some x) && mE T nm N cm a false sc ea && mE T nm N cm e false sc ev
  | .setI a i e, cm, .Assign [.Subscript ea ei _] ev _ => noSl ei && mE T nm N cm a false sc ea && mE T nm N cm i false sc ei && mE T nm N cm e false sc ev
  | .ex e, cm, .Expr ev _ => noLc ev && mE T nm N cm e false sc ev
  | .ifs c a b, cm, .If ec ea eb _ => mE T nm N cm c true sc ec && mSs T nm N sc a cm ea && mSs T nm N sc b cm eb
  | .whl c b, cm, .While ec eb [] _ => cm && mE T nm N cm c true sc ec && mSs T nm N sc b cm eb
  | .for t s b, cm, .For tg iter body [] _ => cm && mTg N true sc t tg && folded iter && mI T nm N cm s sc tg iter && mSs T nm N sc b cm body
  | .ret e, cm, .Return (some ev) _ => mE T nm N cm e false sc ev
  | .ret0, _, .Return none _ => true
  | .raise C, cm, .Raise (some (.Call (.Name x _) [.Constant (.str _) _ _] [] _)) none _ => cm && decide (nm.cls[C]? = some x) && (T.ini C).isNone && glB sc x && okN x
  | .try b C x h, cm, .Try body [.ExceptHandler (some (.Name y _)) none (b0 :: suite) _] [] [] _ => cm && x.isNone && decide (nm.cls[C]? = some y) && (T.ini C).isNone && glB sc y && okN y && mSs T nm N sc b true body && mSs T nm N sc h false (b0 :: suite)
  | .pass, _, .Pass _ => true
  | .pass, _, .Expr (.Constant (.str _) _ _) _ => true
  | .brk, _, .Break _ => true
  | .cnt, _, .Continue _ => true
  | _, _, _ => false
def mSs (T : Tb) (nm : Nm) (N : List Str) (sc : Scope) : Ss → Bool → List Stmt → Bool
  | .nil, _, [] => true
  | .cons s r, cm, st :: sts => mS T nm N sc s cm st && mSs T nm N sc r cm sts
  | _, _, _ => false
end
/-- what a def's context has -/
structure Gs (T : Tb) (pl : Pl) (k : Nat) (N : List Str) (sc : Scope) (cm : Bool) (W : WX) (X : Cx) : Prop where
  good : Good T pl k N sc W X
  calm : cm = true → Calm k X
  po : cm = true → PassesOwn (model X.prog X.w) X.A X.env X.xe
  fnc : ∀ x, sc.names.lookup x = some .cell → X.fn x = true
  stk : X.stack = X.env :: X.outer
  frm : X.env.frame = some X.env.locals
section
variable {T : Tb} {pl : Pl} {k : Nat} {N : List Str} {sc : Scope} {cm : Bool} {X : Cx} {W : WX}
theorem Gs.tr (g : Gs T pl k N sc true W X) {W' : WX} {pn : List (Addr × Obj)} {xe : Value → Shared → Prop} (tk : Takes (X.tr pn xe) W') (po : PassesOwn (model X.prog X.w) X.A X.env xe) : Gs T pl k N sc true W' (X.tr pn xe) where
  good := ⟨g.good.top, g.good.hN, g.good.sc_, g.good.nd, g.good.un, tk⟩
  calm := fun h => ⟨(g.calm h).calm, (g.calm h).room⟩
  po := fun _ => po
  fnc := g.fnc
  stk := g.stk
  frm := g.frm
theorem Gs.suite (g : Gs T pl k N sc cm W X) (a : Addr) (pn : List (Addr × Obj)) : Gs T pl k N sc false noW (X.suite a pn) where
  good := ⟨g.good.top, g.good.hN, g.good.sc_, g.good.nd, g.good.un, fun u s' ⟨a, B, sI, pins, σ, H, cls, d, e, I, nb, up, sky, na, os, ag, w⟩ => w.elim⟩
  calm := fun h => by cases h
  po := fun h => by cases h
  fnc := g.fnc
  stk := g.stk
  frm := g.frm
theorem tg_plain {t : Tg} {tg : Expr} {fc : Bool} (h : mTg N fc sc t tg = true) : plainTg tg = true := by
  cases t <;> cases tg <;> first | rfl | cases h
theorem sw_any {t : Tg} {tg e : Expr} {fc : Bool} (h : mTg N fc sc t tg = true) (hn : noTup e = true) (env : Env) : swappedStores [tg] e env = pure none := by
  cases t <;> cases tg <;> first | exact sw_name env | exact sw_tup hn env | cases h
theorem par_ok {x y : Str} {px py pt : Pos} {kt k2 : Nat} {pt2 : Pos} {ea eb : Expr} {env : Env} (he : env.scope = sc) (h : parB sc x y px py ea eb = true) :
    swappedStores [.Tuple [.Name x px, .Name y py] kt pt] (.Tuple [ea, eb] k2 pt2) env = pure (some [x, y]) := by
  simp only [parB, Bool.and_eq_true, decide_eq_true_eq, Bool.not_eq_true', beq_iff_eq, beq_eq_false_iff_ne] at h
  obtain ⟨⟨⟨⟨⟨⟨⟨⟨hk, hx⟩, hy⟩, hl⟩, hxy⟩, h1⟩, h2⟩, h3⟩, h4⟩ := h
  have kx : env.kindOf x = some .local := by unfold Env.kindOf; rw [he]; exact hx
  have ky : env.kindOf y = some .local := by unfold Env.kindOf; rw [he]; exact hy
  have hb : env.blockKind = .function := by unfold Env.blockKind; rw [he, hk]; rfl
  have s0 : ∀ e : Expr, noStar e = true → (match e with | .Starred .. => true | _ => false) = false := by
    intro e h
    cases e <;> first | rfl | cases h
  have s1 := s0 ea h1
  have s2 := s0 eb h2
  clear s0
  have ne : ([x, y] : List Str).eraseDups.length = 2 := by
    rw [List.eraseDups_cons]
    have : (y == x) = false := by simpa using Ne.symm hxy
    simp [this, List.eraseDups_cons]
  unfold swappedStores
  simp only [s1, s2, List.length_cons, List.length_nil, hb, kx, ky, List.any_cons, List.any_nil, s1, s2, List.filterMap_cons, List.filterMap_nil, List.head?_cons, Option.map_some, Option.getD_some, hl, h3, h4, ne, Expr.pos]
  simp [s1, s2, ne]
  intro hh
  rcases hh with hh | hh
  · exact absurd (hh.symm.trans s1) (by decide)
  · exact absurd (hh.symm.trans s2) (by decide)
end
end Sd
set_option Elab.async false
set_option linter.all false
set_option maxRecDepth 100000
set_option maxHeartbeats 4000000
/-! Snd16: what stands side by side means the same: statements. -/
namespace Sd
open PySem PySem.Spec PyProof.Rows L2 Py
section
variable {T : Tb} {pl : Pl} {k : Nat} {N : List Str} {sc : Scope}
mutual
theorem okS : ∀ (ir : S) {cm : Bool} {st : Stmt} {X : Cx} {W : WX}, (∃ I, ExcBaseFacts "ValueError" "ValueError.__new__" I [.type "ValueError", .type "Exception", .type "BaseException", .type "object"]) → Gs T pl k N sc cm W X → mS T pl.nm N sc ir cm st = true → PS X st (tS T pl X.K k W ir)
  | .pass, cm, st, X, W, F, g, h => by
    cases st with
    | Pass p => exact s_pass
    | Expr e p =>
      cases e with
      | Constant c j p2 =>
        cases c with
        | str z =>
          refine ⟨fun pins s σ H D' I q => ps_doc.run pins s σ H D' I ?_⟩
          obtain ⟨ρ, L, g, rl, rg, q⟩ := q
          rw [evS] at q
          exact q ρ H σ .refl rg rl
        | _ => cases h
      | _ => cases h
    | _ => cases h
  | .brk, cm, st, X, W, F, g, h => by
    cases st with
    | Break p => exact s_brk
    | _ => cases h
  | .cnt, cm, st, X, W, F, g, h => by
    cases st with
    | Continue p => exact s_cnt
    | _ => cases h
  | .ret e, cm, st, X, W, F, g, h => by
    cases st with
    | Return v p =>
      cases v with
      | none => cases h
      | some ev =>
        simp only [mS] at h
        exact s_ret (okE e g.good g.calm h).e
    | _ => cases h
  | .ret0, cm, st, X, W, F, g, h => by
    cases st with
    | Return v p =>
      cases v with
      | none => exact s_ret0
      | some ev => cases h
    | _ => cases h
  | .ex e, cm, st, X, W, F, g, h => by
    cases st with
    | Expr ev p =>
      simp only [mS, Bool.and_eq_true] at h
      exact s_ex h.1 (okE e g.good g.calm h.2).e
    | _ => cases h
  | .ifs c a b, cm, st, X, W, F, g, h => by
    cases st with
    | If ec ea eb p =>
      simp only [mS, Bool.and_eq_true] at h
      exact s_if (okE c g.good g.calm h.1.1).t (okSs a F g h.1.2) (okSs b F g h.2)
    | _ => cases h
  | .whl c b, cm, st, X, W, F, g, h => by
    cases st with
    | While ec eb el p =>
      cases el with
      | nil =>
        simp only [mS, Bool.and_eq_true] at h
        exact s_whl (g.po h.1.1) (okE c g.good g.calm h.1.2).t (okSs b F g h.2)
      | cons _ _ => cases h
    | _ => cases h
  | .for t s b, cm, st, X, W, F, g, h => by
    cases st with
    | For tg iter body el p =>
      cases el with
      | nil =>
        simp only [mS, Bool.and_eq_true] at h
        obtain ⟨⟨⟨⟨hcm, ht⟩, hf⟩, hi⟩, hb⟩ := h
        exact s_for (g.po hcm) (g.calm hcm) (okI s g.good g.calm hi) (tg_ok g.good (g.calm hcm).calm (fun _ => g.fnc) ht) (okSs b F g hb) (folded_ok hf _)
      | cons _ _ => cases h
    | _ => cases h
  | .raise C, cm, st, X, W, F, g, h => by
    cases st with
    | Raise ex cause p =>
      rcases ex with _ | ex
      · cases h
      · cases ex with
        | Call fn ees kws p1 =>
          cases fn with
          | Name x p2 =>
            rcases ees with _ | ⟨e1, _ | ⟨e2, ees⟩⟩
            · cases h
            · cases e1 with
              | Constant c j p3 =>
                cases c with
                | str m =>
                  cases kws with
                  | nil =>
                    cases cause with
                    | none =>
                      simp only [mS, Bool.and_eq_true, decide_eq_true_eq] at h
                      obtain ⟨⟨⟨⟨hcm, hx⟩, hi⟩, hg⟩, ho⟩ := h
                      exact s_raise F g.good (g.calm hcm) hx (Option.isNone_iff_eq_none.mp hi) (gl_ok g.good hg) (debug_ok ho).1
                    | some _ => cases h
                  | cons _ _ => cases h
                | _ => cases h
              | _ => cases h
            · cases e1 with
              | Constant c j p3 => cases c <;> cases h
              | _ => cases h
          | _ => cases h
        | _ => cases h
    | _ => cases h
  | .try b C x hh, cm, st, X, W, F, g, h => by
    cases st with
    | Try body hs el fb p =>
      rcases hs with _ | ⟨⟨ty, nmo, suite, p1⟩, _ | ⟨h2, hs⟩⟩
      · cases h
      · rcases ty with _ | ty
        · cases h
        · cases ty with
          | Name y p2 =>
            cases nmo with
            | none =>
              rcases suite with _ | ⟨b0, suite⟩
              · cases h
              · cases el with
                | nil =>
                  cases fb with
                  | nil =>
                    simp only [mS, Bool.and_eq_true, decide_eq_true_eq] at h
                    obtain ⟨⟨⟨⟨⟨⟨⟨rfl, hxn⟩, hy⟩, hi⟩, hg⟩, ho⟩, hb⟩, hsu⟩ := h
                    obtain rfl := Option.isNone_iff_eq_none.mp hxn
                    exact s_try g.stk g.frm g.good hy (Option.isNone_iff_eq_none.mp hi) (gl_ok g.good hg) (debug_ok ho).1 (fun W' pn xe tk po => okSs b F (g.tr tk po) hb) (fun a oe pn => okSs hh F (g.suite a ((a, oe) :: pn)) hsu)
                  | cons _ _ => cases h
                | cons _ _ => cases h
            | some _ => cases h
          | _ => cases h
      · rcases ty with _ | ty
        · cases h
        · cases ty <;> cases nmo <;> cases suite <;> cases h
    | _ => cases h
  | .aug i o e, cm, st, X, W, F, g, h => by
    cases st with
    | AugAssign tg op ev p =>
      cases tg with
      | Name x px =>
        simp only [mS, Bool.and_eq_true, decide_eq_true_eq] at h
        obtain ⟨⟨⟨hx, hl⟩, rfl⟩, h1⟩ := h
        obtain ⟨l1, l2⟩ := loc_ok g.good (fun _ => g.fnc) hl
        exact s_aug g.good (by rw [g.good.hN]; exact hx) l1 l2 (okE e g.good g.calm h1).e
      | _ => cases h
    | _ => cases h
  | .augF a f o e, cm, st, X, W, F, g, h => by
    cases st with
    | AugAssign tg op ev p =>
      cases tg with
      | Attribute ea x px =>
        simp only [mS, Bool.and_eq_true, decide_eq_true_eq] at h
        obtain ⟨⟨⟨hx, rfl⟩, h1⟩, h2⟩ := h
        exact s_augF g.good hx (okE a g.good g.calm h1).e (okE e g.good g.calm h2).e
      | _ => cases h
    | _ => cases h
  | .setF a f e, cm, st, X, W, F, g, h => by
    cases st with
    | Assign ts ev p =>
      rcases ts with _ | ⟨tg, _ | ⟨t2, ts⟩⟩
      · cases h
      · cases tg with
        | Attribute ea x px =>
          simp only [mS, Bool.and_eq_true, decide_eq_true_eq] at h
          obtain ⟨⟨hx, h1⟩, h2⟩ := h
          exact s_setF g.good hx (swl_att _ _) (okE a g.good g.calm h1).e (okE e g.good g.calm h2).e
        | _ => cases h
      · cases tg <;> cases h
    | _ => cases h
  | .setI a i e, cm, st, X, W, F, g, h => by
    cases st with
    | Assign ts ev p =>
      rcases ts with _ | ⟨tg, _ | ⟨t2, ts⟩⟩
      · cases h
      · cases tg with
        | Subscript ea ei px =>
          simp only [mS, Bool.and_eq_true] at h
          obtain ⟨⟨⟨hn, h1⟩, h2⟩, h3⟩ := h
          exact s_setI g.good.hu (okE a g.good g.calm h1).e (okE i g.good g.calm h2).e (okE e g.good g.calm h3).e (swl_sub _ _) (sw_sub _) (asg_sub hn)
        | _ => cases h
      · cases tg <;> cases h
    | _ => cases h
  | .par i j a b, cm, st, X, W, F, g, h => by
    cases st with
    | Assign ts ev p =>
      rcases ts with _ | ⟨tg, _ | ⟨t2, ts⟩⟩
      · cases h
      · cases tg with
        | Tuple es kk pt =>
          rcases es with _ | ⟨e1, _ | ⟨e2, _ | ⟨e3, es⟩⟩⟩
          · cases h
          · cases e1 <;> cases h
          · cases e1 with
            | Name x px =>
              cases e2 with
              | Name y py =>
                cases ev with
                | Tuple vs k2 p2 =>
                  rcases vs with _ | ⟨v1, _ | ⟨v2, _ | ⟨v3, vs⟩⟩⟩
                  · cases h
                  · cases h
                  · simp only [mS, Bool.and_eq_true, decide_eq_true_eq, Bool.not_eq_true', decide_eq_false_iff_not] at h
                    obtain ⟨⟨⟨⟨⟨⟨hcm, hx⟩, hy⟩, hij⟩, hp⟩, h1⟩, h2⟩ := h
                    have hp' := hp
                    simp only [parB, Bool.and_eq_true, decide_eq_true_eq] at hp'
                    obtain ⟨⟨⟨⟨⟨⟨⟨⟨_, lx⟩, ly⟩, _⟩, _⟩, n1⟩, n2⟩, _⟩, _⟩ := hp'
                    exact s_par g.good (g.calm hcm) (by rw [g.good.hN]; exact hx) (by rw [g.good.hN]; exact hy) hij (by rw [g.good.sc_]; exact lx) (by rw [g.good.sc_]; exact ly) (okE a g.good g.calm h1).e (okE b g.good g.calm h2).e (fun r => star_ok n1 r _) (fun r => star_ok n2 r _) (par_ok g.good.sc_ hp)
                  · cases h
                | _ => cases h
              | _ => cases h
            | _ => cases h
          · cases e1 with
            | Name x px => cases e2 <;> cases h
            | _ => cases h
        | _ => cases h
      · cases tg with
        | Tuple es kk pt =>
          rcases es with _ | ⟨e1, _ | ⟨e2, _ | ⟨e3, es⟩⟩⟩
          · cases h
          · cases e1 <;> cases h
          · cases e1 with
            | Name x px => cases e2 <;> cases h
            | _ => cases h
          · cases e1 with
            | Name x px => cases e2 <;> cases h
            | _ => cases h
        | _ => cases h
    | _ => cases h
  | .set t e, cm, st, X, W, F, g, h => by
    cases st with
    | Assign ts ev p =>
      rcases ts with _ | ⟨tg, _ | ⟨t2, ts⟩⟩
      · cases t <;> cases e <;> cases h
      · have gen : (cm && mTg N true sc t tg && noLc ev && noTup ev && mE T pl.nm N cm e false sc ev) = true → PS X (.Assign [tg] ev p) (tS T pl X.K k W (.set t e)) := fun h => by
          simp only [Bool.and_eq_true] at h
          obtain ⟨⟨⟨⟨hcm, ht⟩, hn⟩, hu⟩, h1⟩ := h
          exact s_set (tg_plain ht) (tg_ok g.good (g.calm hcm).calm (fun _ => g.fnc) ht) (okE e g.good g.calm h1).e (swl_no hn _ _) (sw_any ht hu _)
        cases t with
        | tp is =>
          refine gen ?_
          cases e <;> exact h
        | nm i =>
          cases e with
          | comp t s c e0 =>
            cases tg with
            | Name y py =>
              cases ev with
              | ListComp ee gs scope p2 =>
                rcases gs with _ | ⟨⟨tg, iter, ifs, asy⟩, _ | ⟨g2, gs⟩⟩
                · exact gen h
                · simp only [mS, Bool.and_eq_true] at h
                  obtain ⟨ht, h1⟩ := h
                  have h0 := h1
                  have ht0 := ht
                  simp only [mTg, Bool.and_eq_true, decide_eq_true_eq] at ht
                  simp only [mE, Bool.and_eq_true, decide_eq_true_eq] at h1
                  obtain ⟨⟨⟨⟨⟨⟨⟨hcm, rfl⟩, hb⟩, htg⟩, hf⟩, hi⟩, hifs⟩, he⟩ := h1
                  have C0 := g.calm hcm
                  have G := g.good
                  by_cases sw : ((X.env.blockKind == .function && X.env.kindOf y == some .local && py.line == (Expr.ListComp ee [⟨tg, iter, ifs, 0⟩] scope p2).pos.line && !(scope.names.any fun (n, k) => n == y && (k == .local || k == .cell))) = true)
                  · obtain ⟨ok, hown⟩ := blk_ok hb
                    have hyl : X.env.scope.names.lookup y = some .local := by
                      simp only [Bool.and_eq_true, beq_iff_eq] at sw
                      exact sw.1.1.2
                    have hsw : swapsWith (.ListComp ee [⟨tg, iter, ifs, 0⟩] scope p2) (some (.Name y py)) p.line X.env = pure true := by
                      rw [← sw]
                      rfl
                    refine s_setLc G C0 (by rw [G.hN]; exact ht.1) hyl hsw (okI s G g.calm hi) (by rw [G.hN, G.sc_]; exact ok) hown (fun s H C cl fp => tg_ok (G.blk s H scope C cl fp) C0.calm (fun z => by cases z) htg) (fun s H C cl fp => ?_)
                      (fun s H C cl fp => (okE e0 (G.blk s H scope C cl fp) (fun _ => C0.blk s H scope C cl fp) he).e) (folded_ok hf _)
                    rcases ifs with _ | ⟨ec, _ | ⟨e2, ifs⟩⟩
                    · dsimp only at hifs
                      split at hifs
                      · exact pts_true (X := X.blk s H scope (compEnvC scope cl C X.env) fp)
                      · cases hifs
                    · exact pts_one (okE c (G.blk s H scope C cl fp) (fun _ => C0.blk s H scope C cl fp) hifs).t
                    · cases hifs
                  · have hsw : swapsWithSole [.Name y py] (.ListComp ee [⟨tg, iter, ifs, 0⟩] scope p2) p.line X.env = pure false := by
                      rw [← (Bool.not_eq_true _).mp sw]
                      rfl
                    exact s_set rfl (tg_nm G (fun _ => g.fnc) ht0) (okE (.comp t s c e0) G g.calm h0).e hsw (sw_name _)
                · exact gen h
              | _ => exact gen h
            | _ => exact gen h
          | _ => exact gen h
      · cases t <;> cases e <;> cases tg <;> first | (cases h; done) | (cases ev <;> cases h)
    | _ => cases t <;> cases e <;> cases h
theorem okSs : ∀ (ir : Ss) {cm : Bool} {st : List Stmt} {X : Cx} {W : WX}, (∃ I, ExcBaseFacts "ValueError" "ValueError.__new__" I [.type "ValueError", .type "Exception", .type "BaseException", .type "object"]) → Gs T pl k N sc cm W X → mSs T pl.nm N sc ir cm st = true → PSs X st (tSs T pl X.K k W ir)
  | .nil, cm, st, X, W, F, g, h => by
    cases st with
    | nil => exact ss_nil
    | cons _ _ => cases h
  | .cons s r, cm, st, X, W, F, g, h => by
    cases st with
    | nil => cases h
    | cons e es =>
      simp only [mSs, Bool.and_eq_true] at h
      exact ss_cons (okS s F g h.1) (okSs r F g h.2)
end
end
end Sd
set_option Elab.async false
set_option linter.all false
set_option maxRecDepth 100000
set_option maxHeartbeats 4000000
/-! Snd17: the defs of a table, the law's call. -/
namespace Sd
open PySem PySem.Spec PyProof.Rows L2 Py
theorem excVE : ∃ I, ExcBaseFacts "ValueError" "ValueError.__new__" I [.type "ValueError", .type "Exception", .type "BaseException", .type "object"] := ⟨_, PySem.F.excBase_ValueError⟩
section
variable {P : Program} {w : World} {K : PySem.W.Frag} {mg : Str → Option Value} {base : Heap} {pl : Pl} {T : Tb}
theorem rl_start {ρ : List Addr} {H : Hp} {ds : List D} {vs : List V} {N : List Str} {ns : Nat} (hN : N.length = ns) (r : RVs K ρ H ds vs) (hl : ds.length ≤ ns) : RL K ρ H (L2.start N vs) (ds.map some ++ List.replicate (ns - ds.length) none) := by
  have e := r.len
  refine ⟨by simp [L2.start, e, hN], fun i d h => ?_⟩
  by_cases hi : i < ds.length
  · rw [List.getElem?_append_left (by simpa using hi), List.getElem?_map] at h
    cases ed : ds[i]? with
    | none => rw [ed] at h; cases h
    | some d' =>
      rw [ed] at h
      cases h
      obtain ⟨v, h1, h2⟩ := r.get ed
      refine ⟨v, ?_, h2⟩
      unfold L2.start
      rw [List.getElem?_append_left (by rw [List.length_map, e]; exact hi), List.getElem?_map, h1]
      rfl
  · rw [List.getElem?_append_right (by simpa using hi), List.getElem?_replicate] at h
    split at h <;> cases h
/-- a def of the table, its text -/
structure DefAt (K : PySem.W.Frag) (nm : Nm) (T : Tb) (x qual : Str) (st : Stmt) (N ps : List Str) (f : Nat) (fa : Addr) : Prop where
  fn : ∃ fd F, T.fn f = some F ∧ Fun K x qual st fa fd ∧ Binds K fd ps [] ∧ N.length = F.ns ∧ ps.length = F.np ∧ F.np ≤ F.ns ∧ mSs T nm N (defScope st) F.body true (defBody st) = true
  sc : FnScope N ps (defScope st)
def FnD (K : PySem.W.Frag) (nm : Nm) (T : Tb) (f : Nat) (fa : Addr) : Prop := ∃ x qual st N ps, DefAt K nm T x qual st N ps f fa
theorem fn_zero {f : Nat} {fa : Addr} (h : FnD K pl.nm T f fa) : FnAt P w K mg base pl T 0 f fa := by
  obtain ⟨x, qual, st, N, ps, ⟨fd, F, hF, Fu, hb, hN, hp, hnp, hm⟩, S⟩ := h
  refine ⟨⟨fd, ps, F, hF, ⟨fun vs H Q E q => by rw [q.1, hp], fun A outer s H args us vs Q E hr he hb hv q => ?_⟩, hb, hp⟩, Fu.kp⟩
  obtain ⟨_, ρ, ds, g, _, _, q⟩ := q
  exact q.elim
theorem fn_core {k f : Nat} {fa : Addr} {x qual : Str} {st : Stmt} {N ps : List Str} {fd : FuncData} {F : Fn} (top : Top P w K mg base pl T k) (hF : T.fn f = some F) (Fu : Fun K x qual st fa fd) (hN : N.length = F.ns) (hp : ps.length = F.np) (hnp : F.np ≤ F.ns)
    (hm : mSs T pl.nm N (defScope st) F.body true (defBody st) = true) (S : FnScope N ps (defScope st)) : FnOk P w K mg base (L2.CX P w) (2 * (k + 1)) fa fd ps (spE pl K T F.np (k + 1) f) := by
  have e : 2 * (k + 1) = (2 * k + 1) + 1 := by omega
  rw [e]
  refine Fu.okX S (fun vs H Q E q => by rw [q.1, hp]) fun cdv A outer s H vs Q E hr q => ?_
  obtain ⟨hl, ρ, ds, g, rs, rg, q⟩ := q
  simp only [runF, hF] at q
  have hds : ds.length = F.np := by rw [← rs.len, hl]
  rw [if_pos hds] at q
  have tk : Takes (cxOf (L2.CX P w) P w K mg base N qual (defScope st) fa cdv A outer s H E) (fun cls d _ H => E cls d H) := takes_of rfl rfl rfl rfl
  have G : Gs T pl k N (defScope st) true (fun cls d _ H => E cls d H) (cxOf (L2.CX P w) P w K mg base N qual (defScope st) fa cdv A outer s H E) := by
    refine ⟨⟨top, rfl, rfl, S.nd, ?_, tk⟩, fun _ => ⟨rfl, hr⟩, fun _ => passes_of rfl, fun _ _ => rfl, rfl, rfl⟩
    have := hr.un
    show (A.deeper _).units + 66 < cLine
    omega
  refine ⟨tSs T pl K k (fun cls d _ H => E cls d H) F.body, okSs F.body excVE G hm, ρ, ds.map some ++ List.replicate (F.ns - F.np) none, g, ?_, rg, ?_⟩
  · rw [← hds]
    exact rl_start hN rs (by rw [hds]; exact hnp)
  · revert q
    cases evSs T (runF T k) F.body (ds.map some ++ List.replicate (F.ns - F.np) none) g with
    | nx L g2 => exact fun q ρ' H' σ' e rg' rl' => q ρ' H' .non e rg' RV.non
    | rt d g2 => exact fun q ρ' H' v e rg' rv => q ρ' H' v e rg' rv
    | ex x L g2 => exact fun q ρ' H' σ' e rg' rl' hfs => q ρ' H' e rg' hfs
    | br L g2 => exact fun q => q.elim
    | ct L g2 => exact fun q => q.elim
    | bad => exact fun q => q.elim
theorem fn_next {k f : Nat} {fa : Addr} (top : Top P w K mg base pl T k) (h : FnD K pl.nm T f fa) : FnAt P w K mg base pl T (k + 1) f fa := by
  obtain ⟨x, qual, st, N, ps, ⟨fd, F, hF, Fu, hb, hN, hp, hnp, hm⟩, S⟩ := h
  exact ⟨⟨fd, ps, F, hF, fn_core top hF Fu hN hp hnp hm S, hb, hp⟩, Fu.kp⟩
theorem fn_law {k f : Nat} {fa : Addr} {x qual : Str} {st : Stmt} {N ps : List Str} {fd : FuncData} {F : Fn} (top : Top P w K mg base pl T k) (d : DefAt K pl.nm T x qual st N ps f fa) (hF : T.fn f = some F) (Fu : Fun K x qual st fa fd) :
    FnOk P w K mg base (L2.CX P w) (2 * (k + 1)) fa fd ps (spE pl K T F.np (k + 1) f) := by
  obtain ⟨⟨fd', F', hF', _, _, hN, hp, hnp, hm⟩, S⟩ := d
  rw [hF] at hF'
  cases hF'
  exact fn_core top hF Fu hN hp hnp hm S
/-- what the top has left -/
structure Base (K : PySem.W.Frag) (mg : Str → Option Value) (pl : Pl) (T : Tb) : Prop where
  blt : ∀ x ∈ bnames, mg x = none
  gls : ∀ (i : Nat) x d, pl.nm.gls[i]? = some x → T.gl i = some d → ∃ u v, mg x = some u ∧ RelV v u ∧ ∀ ρ H, RV K ρ H d v
  fns : ∀ (f : Nat) x, pl.nm.fns[f]? = some (some x) → ∃ fa, mg x = some (.ref fa) ∧ FnD K pl.nm T f fa
  mts : ∀ C m f x, T.mt C m = some f → pl.nm.ats[m]? = some x → ∃ fa, Meth K (pl.ca C) x fa ∧ FnD K pl.nm T f fa
  cls : ∀ C x f, T.ini C = some f → pl.nm.cls[C]? = some x → mg x = some (.ref (pl.ca C)) ∧ ∃ fa, Mk K (pl.ca C) fa ∧ FnD K pl.nm T f fa
  cl : ∀ C f, T.ini C = some f → Cls K (pl.ca C)
  exc : ∀ (C : Nat) x, pl.nm.cls[C]? = some x → T.ini C = none → mg x = some (.ref (pl.ca C)) ∧ PySem.W.excIn K (pl.ca C) [.type "ValueError", .type "Exception", .type "BaseException", .type "object"] "ValueError.__new__" = true ∧ PySem.W.keepIn K (.ref (pl.ca C)) = true ∧
    PySem.W.subIn K (.ref (pl.ca C)) (.type "BaseException") = some true ∧ PySem.W.typeIn K (.ref (pl.ca C)) = some (.type "type")
  sub : ∀ c C b, T.sub c C = some b → PySem.W.exmOne K (.ref (pl.ca c)) (.ref (pl.ca C)) = some b
  nat : ∀ C f (i : Nat) x, T.ini C = some f → pl.nm.ats[i]? = some x → T.mt C i = none → NoAttr K (pl.ca C) x
  nd : pl.nm.ats.Nodup
  ini : pl.ini = T.ini
theorem top_all (B : Base K mg pl T) : ∀ k, Top P w K mg base pl T k
  | 0 => ⟨B.blt, B.gls, fun f x h => let ⟨fa, a, b⟩ := B.fns f x h; ⟨fa, a, fn_zero b⟩, fun C m f x h h' => let ⟨fa, a, b⟩ := B.mts C m f x h h'; ⟨fa, a, fn_zero b⟩,
    fun C x f h h' => let ⟨a, fa, b, c⟩ := B.cls C x f h h'; ⟨a, fa, b, fn_zero c⟩, B.cl, B.exc, B.sub, B.nat, B.nd, B.ini⟩
  | k + 1 => have t := top_all B k
    ⟨B.blt, B.gls, fun f x h => let ⟨fa, a, b⟩ := B.fns f x h; ⟨fa, a, fn_next t b⟩, fun C m f x h h' => let ⟨fa, a, b⟩ := B.mts C m f x h h'; ⟨fa, a, fn_next t b⟩,
    fun C x f h h' => let ⟨a, fa, b, c⟩ := B.cls C x f h h'; ⟨a, fa, b, fn_next t c⟩, B.cl, B.exc, B.sub, B.nat, B.nd, B.ini⟩
theorem rvs_ints {ρ : List Addr} {H : Hp} : ∀ ns : List Int, RVs K ρ H (ns.map D.int) (ns.map V.int)
  | [] => .nil
  | n :: ns => .cons (RV.int n) (rvs_ints ns)
/-- the law's call -/
theorem law_sp {H : Hp} {a : Addr} {ns : List Int} {kk f : Nat} (ho : Only H) (hS : SqL K H a (ns.map V.int)) (h : ∃ g, runF T kk f [.ls (ns.map D.int)] [] = .ok (.bl true) g) :
    spE pl K T 1 kk f [.ref a] H (fun v _ => v = .bl true) fun _ _ _ => False := by
  obtain ⟨g, h⟩ := h
  have fz : FzL K H a (ns.map V.int) := by
    rcases hS with (hS | hS) | hS
    · rcases ho a with z | ⟨o, xs, z⟩
      · rw [z] at hS; cases hS
      · rw [z] at hS; cases hS
    · exact .inl hS
    · exact .inr hS
  refine ⟨rfl, [], [.ls (ns.map D.int)], [], .one ?_, ⟨rfl, List.nodup_nil, fun n o a h => by simp at h⟩, ?_⟩
  · rw [RV]
    exact ⟨a, _, rfl, fz, rvs_ints ns⟩
  · rw [h]
    intro ρ' H' v e rg rv
    exact rv_bl rv
theorem walkL {l : PySem.W.OpenLaw} {q : Program} {loose : List Str} {XP : (Str → Option Value) → Heap → Prop} {YP : World → Heap → Prop} {d : DefRec} {K : Params → PySem.W.Frag} {pl : World → Pl} {T : Tb} {f : Nat} (kk : Nat) (hn : l.most = some 63) (hdf : d.params.defaults = []) (hr : Room (2 * kk) callerA)
    (hY : ∀ (w : World) (h : Heap), YP w h → (K w.params).In h)
    (hlaw : ∀ ns : List Int, ns.length ≤ 63 → ∃ g, runF T kk f [.ls (ns.map D.int)] [] = .ok (.bl true) g)
    (F : ∀ (w : World) (mg : Str → Option Value) (fa : Addr) (h : Heap), (K w.params).In h → h.Ns mainGlobals mg → mg d.name = some (.ref fa) →
      ∃ fd : FuncData, (∀ (s : Shared) (u : Value), BindsTo s fd ⟨[u], []⟩ [("script", u)]) ∧ ∀ base : Heap, (K w.params).In base → base.Ns mainGlobals mg → FnOk l.prog w (K w.params) mg base (L2.CX l.prog w) (2 * kk) fa fd ["script"] (spE (pl w) (K w.params) T 1 kk f)) :
    PySem.W.WalkO q loose XP YP l.row.toRowW d [] (fun f vs => PySem.call f vs) :=
  L2.walk_of (n := 63) (k := 2 * kk) (x := "script") (CX := fun w => L2.CX l.prog w) (sp := fun w => spE (pl w) (K w.params) T 1 kk f) hn (by decide) hdf hr hY F (fun w H a ns hl ho hS => law_sp ho hS (hlaw ns hl)) fun _ _ _ _ _ z => by
    obtain ⟨_, _, _, _, _, _, _, _, _, _, _, _, z⟩ := z
    exact z
end
end Sd
namespace K01
open PySem PySem.Spec PyProof.Rows L2 Py Sd
def top (i : Nat) : Stmt := PySem.Challenge.pw_leatever_k01_is_graph.main.body.getD i (.Pass ⟨0, 0, 0, 0⟩)
abbrev st0 : Stmt := top 7
abbrev st1 : Stmt := top 8
abbrev st2 : Stmt := top 9
abbrev st3 : Stmt := top 10
abbrev st4 : Stmt := top 11
abbrev st5 : Stmt := top 13
abbrev st6 : Stmt := top 14
abbrev st7 : Stmt := top 15
abbrev st8 : Stmt := top 16
abbrev st9 : Stmt := top 17
abbrev st10 : Stmt := top 18
abbrev st11 : Stmt := top 19
abbrev st12 : Stmt := top 20
abbrev st13 : Stmt := top 21
abbrev st14 : Stmt := top 22
abbrev st15 : Stmt := top 23
abbrev st16 : Stmt := top 24
abbrev st17 : Stmt := top 25
abbrev st18 : Stmt := top 26
abbrev st19 : Stmt := top 27
def nm : Nm := ⟨[some "is_whole", some "is_atom", some "is_count", some "is_node", some "is_graph", some "_law_stream", some "_law_draw", some "_law_is_pythons", some "_law_given_back", some "_law_far", some "_law_atom", some "_law_node", some "_law_graph", some "_law_is_number", some "_law_is_atom", some "_law_is_node", some "_law_due", some "_law_odd", some "_law_changed", some "law"], [], ["MOST_NODES", "MOST_PARTS", "MOST_ATOM", "MOST_NUMBER", "SMALL", "DIGITS"], []⟩
def pl (ca : Nat → Addr) : Pl := ⟨nm, ca, T.ini⟩
theorem m0 : mSs T nm (["value"] : List Str) (defScope st0) fn0.body true (defBody st0) = true := by decide +kernel
theorem sc0 : FnScope (["value"] : List Str) (["value"] : List Str) (defScope st0) := ⟨rfl, rfl, rfl, by decide +kernel, rfl, by decide +kernel, by decide +kernel⟩
theorem d0 {K : PySem.W.Frag} {fd : FuncData} {fa : Addr} (F : Fun K "is_whole" "is_whole" st0 fa fd) : DefAt K nm T "is_whole" "is_whole" st0 (["value"] : List Str) (["value"] : List Str) 0 fa :=
  ⟨⟨_, fn0, rfl, F, F.binds fun _ _ _ _ _ _ us hl => match us, hl with | [_], _ => rfl, rfl, rfl, by decide, m0⟩, sc0⟩
theorem m1 : mSs T nm (["value", "sign"] : List Str) (defScope st1) fn1.body true (defBody st1) = true := by decide +kernel
theorem sc1 : FnScope (["value", "sign"] : List Str) (["value"] : List Str) (defScope st1) := ⟨rfl, rfl, rfl, by decide +kernel, rfl, by decide +kernel, by decide +kernel⟩
theorem d1 {K : PySem.W.Frag} {fd : FuncData} {fa : Addr} (F : Fun K "is_atom" "is_atom" st1 fa fd) : DefAt K nm T "is_atom" "is_atom" st1 (["value", "sign"] : List Str) (["value"] : List Str) 1 fa :=
  ⟨⟨_, fn1, rfl, F, F.binds fun _ _ _ _ _ _ us hl => match us, hl with | [_], _ => rfl, rfl, rfl, by decide, m1⟩, sc1⟩
theorem m2 : mSs T nm (["value"] : List Str) (defScope st2) fn2.body true (defBody st2) = true := by decide +kernel
theorem sc2 : FnScope (["value"] : List Str) (["value"] : List Str) (defScope st2) := ⟨rfl, rfl, rfl, by decide +kernel, rfl, by decide +kernel, by decide +kernel⟩
theorem d2 {K : PySem.W.Frag} {fd : FuncData} {fa : Addr} (F : Fun K "is_count" "is_count" st2 fa fd) : DefAt K nm T "is_count" "is_count" st2 (["value"] : List Str) (["value"] : List Str) 2 fa :=
  ⟨⟨_, fn2, rfl, F, F.binds fun _ _ _ _ _ _ us hl => match us, hl with | [_], _ => rfl, rfl, rfl, by decide, m2⟩, sc2⟩
theorem m3 : mSs T nm (["value", "count", "word", "part"] : List Str) (defScope st3) fn3.body true (defBody st3) = true := by decide +kernel
theorem sc3 : FnScope (["value", "count", "word", "part"] : List Str) (["value", "count"] : List Str) (defScope st3) := ⟨rfl, rfl, rfl, by decide +kernel, rfl, by decide +kernel, by decide +kernel⟩
theorem d3 {K : PySem.W.Frag} {fd : FuncData} {fa : Addr} (F : Fun K "is_node" "is_node" st3 fa fd) : DefAt K nm T "is_node" "is_node" st3 (["value", "count", "word", "part"] : List Str) (["value", "count"] : List Str) 3 fa :=
  ⟨⟨_, fn3, rfl, F, F.binds fun _ _ _ _ _ _ us hl => match us, hl with | [_, _], _ => rfl, rfl, rfl, by decide, m3⟩, sc3⟩
theorem m4 : mSs T nm (["value", "node"] : List Str) (defScope st4) fn4.body true (defBody st4) = true := by decide +kernel
theorem sc4 : FnScope (["value", "node"] : List Str) (["value"] : List Str) (defScope st4) := ⟨rfl, rfl, rfl, by decide +kernel, rfl, by decide +kernel, by decide +kernel⟩
theorem d4 {K : PySem.W.Frag} {fd : FuncData} {fa : Addr} (F : Fun K "is_graph" "is_graph" st4 fa fd) : DefAt K nm T "is_graph" "is_graph" st4 (["value", "node"] : List Str) (["value"] : List Str) 4 fa :=
  ⟨⟨_, fn4, rfl, F, F.binds fun _ _ _ _ _ _ us hl => match us, hl with | [_], _ => rfl, rfl, rfl, by decide, m4⟩, sc4⟩
theorem m5 : mSs T nm (["script", "mixed", "cell"] : List Str) (defScope st5) fn5.body true (defBody st5) = true := by decide +kernel
theorem sc5 : FnScope (["script", "mixed", "cell"] : List Str) (["script"] : List Str) (defScope st5) := ⟨rfl, rfl, rfl, by decide +kernel, rfl, by decide +kernel, by decide +kernel⟩
theorem d5 {K : PySem.W.Frag} {fd : FuncData} {fa : Addr} (F : Fun K "_law_stream" "_law_stream" st5 fa fd) : DefAt K nm T "_law_stream" "_law_stream" st5 (["script", "mixed", "cell"] : List Str) (["script"] : List Str) 5 fa :=
  ⟨⟨_, fn5, rfl, F, F.binds fun _ _ _ _ _ _ us hl => match us, hl with | [_], _ => rfl, rfl, rfl, by decide, m5⟩, sc5⟩
theorem m6 : mSs T nm (["stream", "many", "value"] : List Str) (defScope st6) fn6.body true (defBody st6) = true := by decide +kernel
theorem sc6 : FnScope (["stream", "many", "value"] : List Str) (["stream", "many"] : List Str) (defScope st6) := ⟨rfl, rfl, rfl, by decide +kernel, rfl, by decide +kernel, by decide +kernel⟩
theorem d6 {K : PySem.W.Frag} {fd : FuncData} {fa : Addr} (F : Fun K "_law_draw" "_law_draw" st6 fa fd) : DefAt K nm T "_law_draw" "_law_draw" st6 (["stream", "many", "value"] : List Str) (["stream", "many"] : List Str) 6 fa :=
  ⟨⟨_, fn6, rfl, F, F.binds fun _ _ _ _ _ _ us hl => match us, hl with | [_, _], _ => rfl, rfl, rfl, by decide, m6⟩, sc6⟩
theorem m7 : mSs T nm (["value", "part"] : List Str) (defScope st7) fn7.body true (defBody st7) = true := by decide +kernel
theorem sc7 : FnScope (["value", "part"] : List Str) (["value"] : List Str) (defScope st7) := ⟨rfl, rfl, rfl, by decide +kernel, rfl, by decide +kernel, by decide +kernel⟩
theorem d7 {K : PySem.W.Frag} {fd : FuncData} {fa : Addr} (F : Fun K "_law_is_pythons" "_law_is_pythons" st7 fa fd) : DefAt K nm T "_law_is_pythons" "_law_is_pythons" st7 (["value", "part"] : List Str) (["value"] : List Str) 7 fa :=
  ⟨⟨_, fn7, rfl, F, F.binds fun _ _ _ _ _ _ us hl => match us, hl with | [_], _ => rfl, rfl, rfl, by decide, m7⟩, sc7⟩
theorem m8 : mSs T nm (["value"] : List Str) (defScope st8) fn8.body true (defBody st8) = true := by decide +kernel
theorem sc8 : FnScope (["value"] : List Str) (["value"] : List Str) (defScope st8) := ⟨rfl, rfl, rfl, by decide +kernel, rfl, by decide +kernel, by decide +kernel⟩
theorem d8 {K : PySem.W.Frag} {fd : FuncData} {fa : Addr} (F : Fun K "_law_given_back" "_law_given_back" st8 fa fd) : DefAt K nm T "_law_given_back" "_law_given_back" st8 (["value"] : List Str) (["value"] : List Str) 8 fa :=
  ⟨⟨_, fn8, rfl, F, F.binds fun _ _ _ _ _ _ us hl => match us, hl with | [_], _ => rfl, rfl, rfl, by decide, m8⟩, sc8⟩
theorem m9 : mSs T nm (["stream"] : List Str) (defScope st9) fn9.body true (defBody st9) = true := by decide +kernel
theorem sc9 : FnScope (["stream"] : List Str) (["stream"] : List Str) (defScope st9) := ⟨rfl, rfl, rfl, by decide +kernel, rfl, by decide +kernel, by decide +kernel⟩
theorem d9 {K : PySem.W.Frag} {fd : FuncData} {fa : Addr} (F : Fun K "_law_far" "_law_far" st9 fa fd) : DefAt K nm T "_law_far" "_law_far" st9 (["stream"] : List Str) (["stream"] : List Str) 9 fa :=
  ⟨⟨_, fn9, rfl, F, F.binds fun _ _ _ _ _ _ us hl => match us, hl with | [_], _ => rfl, rfl, rfl, by decide, m9⟩, sc9⟩
theorem m10 : mSs T nm (["stream", "atom", "k"] : List Str) (defScope st10) fn10.body true (defBody st10) = true := by decide +kernel
theorem sc10 : FnScope (["stream", "atom", "k"] : List Str) (["stream"] : List Str) (defScope st10) := ⟨rfl, rfl, rfl, by decide +kernel, rfl, by decide +kernel, by decide +kernel⟩
theorem d10 {K : PySem.W.Frag} {fd : FuncData} {fa : Addr} (F : Fun K "_law_atom" "_law_atom" st10 fa fd) : DefAt K nm T "_law_atom" "_law_atom" st10 (["stream", "atom", "k"] : List Str) (["stream"] : List Str) 10 fa :=
  ⟨⟨_, fn10, rfl, F, F.binds fun _ _ _ _ _ _ us hl => match us, hl with | [_], _ => rfl, rfl, rfl, by decide, m10⟩, sc10⟩
theorem m11 : mSs T nm (["stream", "many", "pick", "parts", "k"] : List Str) (defScope st11) fn11.body true (defBody st11) = true := by decide +kernel
theorem sc11 : FnScope (["stream", "many", "pick", "parts", "k"] : List Str) (["stream", "many"] : List Str) (defScope st11) := ⟨rfl, rfl, rfl, by decide +kernel, rfl, by decide +kernel, by decide +kernel⟩
theorem d11 {K : PySem.W.Frag} {fd : FuncData} {fa : Addr} (F : Fun K "_law_node" "_law_node" st11 fa fd) : DefAt K nm T "_law_node" "_law_node" st11 (["stream", "many", "pick", "parts", "k"] : List Str) (["stream", "many"] : List Str) 11 fa :=
  ⟨⟨_, fn11, rfl, F, F.binds fun _ _ _ _ _ _ us hl => match us, hl with | [_, _], _ => rfl, rfl, rfl, by decide, m11⟩, sc11⟩
theorem m12 : mSs T nm (["stream", "most", "many", "k"] : List Str) (defScope st12) fn12.body true (defBody st12) = true := by decide +kernel
theorem sc12 : FnScope (["stream", "most", "many", "k"] : List Str) (["stream", "most"] : List Str) (defScope st12) := ⟨rfl, rfl, rfl, by decide +kernel, rfl, by decide +kernel, by decide +kernel⟩
theorem d12 {K : PySem.W.Frag} {fd : FuncData} {fa : Addr} (F : Fun K "_law_graph" "_law_graph" st12 fa fd) : DefAt K nm T "_law_graph" "_law_graph" st12 (["stream", "most", "many", "k"] : List Str) (["stream", "most"] : List Str) 12 fa :=
  ⟨⟨_, fn12, rfl, F, F.binds fun _ _ _ _ _ _ us hl => match us, hl with | [_, _], _ => rfl, rfl, rfl, by decide, m12⟩, sc12⟩
theorem m13 : mSs T nm (["value", "low", "high"] : List Str) (defScope st13) fn13.body true (defBody st13) = true := by decide +kernel
theorem sc13 : FnScope (["value", "low", "high"] : List Str) (["value", "low", "high"] : List Str) (defScope st13) := ⟨rfl, rfl, rfl, by decide +kernel, rfl, by decide +kernel, by decide +kernel⟩
theorem d13 {K : PySem.W.Frag} {fd : FuncData} {fa : Addr} (F : Fun K "_law_is_number" "_law_is_number" st13 fa fd) : DefAt K nm T "_law_is_number" "_law_is_number" st13 (["value", "low", "high"] : List Str) (["value", "low", "high"] : List Str) 13 fa :=
  ⟨⟨_, fn13, rfl, F, F.binds fun _ _ _ _ _ _ us hl => match us, hl with | [_, _, _], _ => rfl, rfl, rfl, by decide, m13⟩, sc13⟩
theorem m14 : mSs T nm (["value", "letters", "sign"] : List Str) (defScope st14) fn14.body true (defBody st14) = true := by decide +kernel
theorem sc14 : FnScope (["value", "letters", "sign"] : List Str) (["value"] : List Str) (defScope st14) := ⟨rfl, rfl, rfl, by decide +kernel, rfl, by decide +kernel, by decide +kernel⟩
theorem d14 {K : PySem.W.Frag} {fd : FuncData} {fa : Addr} (F : Fun K "_law_is_atom" "_law_is_atom" st14 fa fd) : DefAt K nm T "_law_is_atom" "_law_is_atom" st14 (["value", "letters", "sign"] : List Str) (["value"] : List Str) 14 fa :=
  ⟨⟨_, fn14, rfl, F, F.binds fun _ _ _ _ _ _ us hl => match us, hl with | [_], _ => rfl, rfl, rfl, by decide, m14⟩, sc14⟩
theorem m15 : mSs T nm (["node", "many", "part"] : List Str) (defScope st15) fn15.body true (defBody st15) = true := by decide +kernel
theorem sc15 : FnScope (["node", "many", "part"] : List Str) (["node", "many"] : List Str) (defScope st15) := ⟨rfl, rfl, rfl, by decide +kernel, rfl, by decide +kernel, by decide +kernel⟩
theorem d15 {K : PySem.W.Frag} {fd : FuncData} {fa : Addr} (F : Fun K "_law_is_node" "_law_is_node" st15 fa fd) : DefAt K nm T "_law_is_node" "_law_is_node" st15 (["node", "many", "part"] : List Str) (["node", "many"] : List Str) 15 fa :=
  ⟨⟨_, fn15, rfl, F, F.binds fun _ _ _ _ _ _ us hl => match us, hl with | [_, _], _ => rfl, rfl, rfl, by decide, m15⟩, sc15⟩
theorem m16 : mSs T nm (["value", "node"] : List Str) (defScope st16) fn16.body true (defBody st16) = true := by decide +kernel
theorem sc16 : FnScope (["value", "node"] : List Str) (["value"] : List Str) (defScope st16) := ⟨rfl, rfl, rfl, by decide +kernel, rfl, by decide +kernel, by decide +kernel⟩
theorem d16 {K : PySem.W.Frag} {fd : FuncData} {fa : Addr} (F : Fun K "_law_due" "_law_due" st16 fa fd) : DefAt K nm T "_law_due" "_law_due" st16 (["value", "node"] : List Str) (["value"] : List Str) 16 fa :=
  ⟨⟨_, fn16, rfl, F, F.binds fun _ _ _ _ _ _ us hl => match us, hl with | [_], _ => rfl, rfl, rfl, by decide, m16⟩, sc16⟩
theorem m17 : mSs T nm (["stream", "many", "odd"] : List Str) (defScope st17) fn17.body true (defBody st17) = true := by decide +kernel
theorem sc17 : FnScope (["stream", "many", "odd"] : List Str) (["stream", "many"] : List Str) (defScope st17) := ⟨rfl, rfl, rfl, by decide +kernel, rfl, by decide +kernel, by decide +kernel⟩
theorem d17 {K : PySem.W.Frag} {fd : FuncData} {fa : Addr} (F : Fun K "_law_odd" "_law_odd" st17 fa fd) : DefAt K nm T "_law_odd" "_law_odd" st17 (["stream", "many", "odd"] : List Str) (["stream", "many"] : List Str) 17 fa :=
  ⟨⟨_, fn17, rfl, F, F.binds fun _ _ _ _ _ _ us hl => match us, hl with | [_, _], _ => rfl, rfl, rfl, by decide, m17⟩, sc17⟩
theorem m18 : mSs T nm (["stream", "value", "at", "node", "pick", "spot"] : List Str) (defScope st18) fn18.body true (defBody st18) = true := by decide +kernel
theorem sc18 : FnScope (["stream", "value", "at", "node", "pick", "spot"] : List Str) (["stream", "value"] : List Str) (defScope st18) := ⟨rfl, rfl, rfl, by decide +kernel, rfl, by decide +kernel, by decide +kernel⟩
theorem d18 {K : PySem.W.Frag} {fd : FuncData} {fa : Addr} (F : Fun K "_law_changed" "_law_changed" st18 fa fd) : DefAt K nm T "_law_changed" "_law_changed" st18 (["stream", "value", "at", "node", "pick", "spot"] : List Str) (["stream", "value"] : List Str) 18 fa :=
  ⟨⟨_, fn18, rfl, F, F.binds fun _ _ _ _ _ _ us hl => match us, hl with | [_, _], _ => rfl, rfl, rfl, by decide, m18⟩, sc18⟩
theorem m19 : mSs T nm (["script", "stream", "value", "k", "actual", "many"] : List Str) (defScope st19) fn19.body true (defBody st19) = true := by decide +kernel
theorem sc19 : FnScope (["script", "stream", "value", "k", "actual", "many"] : List Str) (["script"] : List Str) (defScope st19) := ⟨rfl, rfl, rfl, by decide +kernel, rfl, by decide +kernel, by decide +kernel⟩
theorem d19 {K : PySem.W.Frag} {fd : FuncData} {fa : Addr} (F : Fun K "law" "law" st19 fa fd) : DefAt K nm T "law" "law" st19 (["script", "stream", "value", "k", "actual", "many"] : List Str) (["script"] : List Str) 19 fa :=
  ⟨⟨_, fn19, rfl, F, F.binds fun _ _ _ _ _ _ us hl => match us, hl with | [_], _ => rfl, rfl, rfl, by decide, m19⟩, sc19⟩
theorem blt {K : PySem.W.Frag} {h : Heap} {mg : Str → Option Value} (X : K.In h) (G : h.Ns mainGlobals mg) (z0 : PySem.W.nsIn K mainGlobals "len" = some none) (z1 : PySem.W.nsIn K mainGlobals "abs" = some none) (z2 : PySem.W.nsIn K mainGlobals "int" = some none) (z3 : PySem.W.nsIn K mainGlobals "bool" = some none) (z4 : PySem.W.nsIn K mainGlobals "str" = some none) (z5 : PySem.W.nsIn K mainGlobals "tuple" = some none) (z6 : PySem.W.nsIn K mainGlobals "list" = some none) (z7 : PySem.W.nsIn K mainGlobals "all" = some none) (z8 : PySem.W.nsIn K mainGlobals "any" = some none) (z9 : PySem.W.nsIn K mainGlobals "sum" = some none) (z10 : PySem.W.nsIn K mainGlobals "max" = some none) (z11 : PySem.W.nsIn K mainGlobals "min" = some none) (z12 : PySem.W.nsIn K mainGlobals "sorted" = some none) (z13 : PySem.W.nsIn K mainGlobals "dict" = some none) (z14 : PySem.W.nsIn K mainGlobals "repr" = some none) (z15 : PySem.W.nsIn K mainGlobals "range" = some none) (z16 : PySem.W.nsIn K mainGlobals "enumerate" = some none) (z17 : PySem.W.nsIn K mainGlobals "zip" = some none) (z18 : PySem.W.nsIn K mainGlobals "reversed" = some none) (z19 : PySem.W.nsIn K mainGlobals "isinstance" = some none) (z20 : PySem.W.nsIn K mainGlobals "set" = some none) : ∀ x ∈ bnames, mg x = none := by
  unfold bnames
  intro x hx
  simp only [List.mem_cons, List.not_mem_nil, or_false] at hx
  rcases hx with rfl | rfl | rfl | rfl | rfl | rfl | rfl | rfl | rfl | rfl | rfl | rfl | rfl | rfl | rfl | rfl | rfl | rfl | rfl | rfl | rfl
  · exact PySem.W.mg_none_of X G z0
  · exact PySem.W.mg_none_of X G z1
  · exact PySem.W.mg_none_of X G z2
  · exact PySem.W.mg_none_of X G z3
  · exact PySem.W.mg_none_of X G z4
  · exact PySem.W.mg_none_of X G z5
  · exact PySem.W.mg_none_of X G z6
  · exact PySem.W.mg_none_of X G z7
  · exact PySem.W.mg_none_of X G z8
  · exact PySem.W.mg_none_of X G z9
  · exact PySem.W.mg_none_of X G z10
  · exact PySem.W.mg_none_of X G z11
  · exact PySem.W.mg_none_of X G z12
  · exact PySem.W.mg_none_of X G z13
  · exact PySem.W.mg_none_of X G z14
  · exact PySem.W.mg_none_of X G z15
  · exact PySem.W.mg_none_of X G z16
  · exact PySem.W.mg_none_of X G z17
  · exact PySem.W.mg_none_of X G z18
  · exact PySem.W.mg_none_of X G z19
  · exact PySem.W.mg_none_of X G z20
set_option maxHeartbeats 4000000 in
theorem all_mk {l : PySem.W.OpenLaw} {w : World} {K : PySem.W.Frag} {h : Heap} {mg : Str → Option Value} {fa f0 f1 f2 f3 f4 f5 f6 f7 f8 f9 f10 f11 f12 f13 f14 f15 f16 f17 f18 f19 : Addr} (X : K.In h) (G : h.Ns mainGlobals mg) (hfa : mg "law" = some (.ref fa))
    {od0 an0 od1 an1 od2 an2 od3 an3 od4 an4 od5 an5 od6 an6 od7 an7 od8 an8 od9 an9 od10 an10 od11 an11 od12 an12 od13 an13 od14 an14 od15 an15 od16 an16 od17 an17 od18 an18 od19 an19 : Option Addr} {sl0 sl1 sl2 sl3 sl4 sl5 sl6 sl7 sl8 sl9 sl10 sl11 sl12 sl13 sl14 sl15 sl16 sl17 sl18 sl19 : Array (Option Value)} {oc0 kV0 dc0 pm0 cd0 ct0 oc1 kV1 dc1 pm1 cd1 ct1 oc2 kV2 dc2 pm2 cd2 ct2 oc3 kV3 dc3 pm3 cd3 ct3 oc4 kV4 dc4 pm4 cd4 ct4 oc5 kV5 dc5 pm5 cd5 ct5 oc6 kV6 dc6 pm6 cd6 ct6 oc7 kV7 dc7 pm7 cd7 ct7 oc8 kV8 dc8 pm8 cd8 ct8 oc9 kV9 dc9 pm9 cd9 ct9 oc10 kV10 dc10 pm10 cd10 ct10 oc11 kV11 dc11 pm11 cd11 ct11 oc12 kV12 dc12 pm12 cd12 ct12 oc13 kV13 dc13 pm13 cd13 ct13 oc14 kV14 dc14 pm14 cd14 ct14 oc15 kV15 dc15 pm15 cd15 ct15 oc16 kV16 dc16 pm16 cd16 ct16 oc17 kV17 dc17 pm17 cd17 ct17 oc18 kV18 dc18 pm18 cd18 ct18 oc19 kV19 dc19 pm19 cd19 ct19 : Value} {t0 t1 t2 t3 t4 t5 : Tok}
    (a0 : PySem.W.nsIn K mainGlobals "is_whole" = some (some (.ref f0)))
    (l0 : K.lookup f0 = some ⟨oc0, od0, .func (PySem.W.fnOf "is_whole" "is_whole" (defArgs st0) (defBody st0) (defScope st0) .none kV0 dc0 pm0 an0 cd0 ct0), sl0⟩)
    (c0 : PySem.W.codeIn K cd0 "is_whole" = true)
    (k0 : PySem.W.keepIn K (.ref f0) = true)
    (a1 : PySem.W.nsIn K mainGlobals "is_atom" = some (some (.ref f1)))
    (l1 : K.lookup f1 = some ⟨oc1, od1, .func (PySem.W.fnOf "is_atom" "is_atom" (defArgs st1) (defBody st1) (defScope st1) .none kV1 dc1 pm1 an1 cd1 ct1), sl1⟩)
    (c1 : PySem.W.codeIn K cd1 "is_atom" = true)
    (k1 : PySem.W.keepIn K (.ref f1) = true)
    (a2 : PySem.W.nsIn K mainGlobals "is_count" = some (some (.ref f2)))
    (l2 : K.lookup f2 = some ⟨oc2, od2, .func (PySem.W.fnOf "is_count" "is_count" (defArgs st2) (defBody st2) (defScope st2) .none kV2 dc2 pm2 an2 cd2 ct2), sl2⟩)
    (c2 : PySem.W.codeIn K cd2 "is_count" = true)
    (k2 : PySem.W.keepIn K (.ref f2) = true)
    (a3 : PySem.W.nsIn K mainGlobals "is_node" = some (some (.ref f3)))
    (l3 : K.lookup f3 = some ⟨oc3, od3, .func (PySem.W.fnOf "is_node" "is_node" (defArgs st3) (defBody st3) (defScope st3) .none kV3 dc3 pm3 an3 cd3 ct3), sl3⟩)
    (c3 : PySem.W.codeIn K cd3 "is_node" = true)
    (k3 : PySem.W.keepIn K (.ref f3) = true)
    (a4 : PySem.W.nsIn K mainGlobals "is_graph" = some (some (.ref f4)))
    (l4 : K.lookup f4 = some ⟨oc4, od4, .func (PySem.W.fnOf "is_graph" "is_graph" (defArgs st4) (defBody st4) (defScope st4) .none kV4 dc4 pm4 an4 cd4 ct4), sl4⟩)
    (c4 : PySem.W.codeIn K cd4 "is_graph" = true)
    (k4 : PySem.W.keepIn K (.ref f4) = true)
    (a5 : PySem.W.nsIn K mainGlobals "_law_stream" = some (some (.ref f5)))
    (l5 : K.lookup f5 = some ⟨oc5, od5, .func (PySem.W.fnOf "_law_stream" "_law_stream" (defArgs st5) (defBody st5) (defScope st5) .none kV5 dc5 pm5 an5 cd5 ct5), sl5⟩)
    (c5 : PySem.W.codeIn K cd5 "_law_stream" = true)
    (k5 : PySem.W.keepIn K (.ref f5) = true)
    (a6 : PySem.W.nsIn K mainGlobals "_law_draw" = some (some (.ref f6)))
    (l6 : K.lookup f6 = some ⟨oc6, od6, .func (PySem.W.fnOf "_law_draw" "_law_draw" (defArgs st6) (defBody st6) (defScope st6) .none kV6 dc6 pm6 an6 cd6 ct6), sl6⟩)
    (c6 : PySem.W.codeIn K cd6 "_law_draw" = true)
    (k6 : PySem.W.keepIn K (.ref f6) = true)
    (a7 : PySem.W.nsIn K mainGlobals "_law_is_pythons" = some (some (.ref f7)))
    (l7 : K.lookup f7 = some ⟨oc7, od7, .func (PySem.W.fnOf "_law_is_pythons" "_law_is_pythons" (defArgs st7) (defBody st7) (defScope st7) .none kV7 dc7 pm7 an7 cd7 ct7), sl7⟩)
    (c7 : PySem.W.codeIn K cd7 "_law_is_pythons" = true)
    (k7 : PySem.W.keepIn K (.ref f7) = true)
    (a8 : PySem.W.nsIn K mainGlobals "_law_given_back" = some (some (.ref f8)))
    (l8 : K.lookup f8 = some ⟨oc8, od8, .func (PySem.W.fnOf "_law_given_back" "_law_given_back" (defArgs st8) (defBody st8) (defScope st8) .none kV8 dc8 pm8 an8 cd8 ct8), sl8⟩)
    (c8 : PySem.W.codeIn K cd8 "_law_given_back" = true)
    (k8 : PySem.W.keepIn K (.ref f8) = true)
    (a9 : PySem.W.nsIn K mainGlobals "_law_far" = some (some (.ref f9)))
    (l9 : K.lookup f9 = some ⟨oc9, od9, .func (PySem.W.fnOf "_law_far" "_law_far" (defArgs st9) (defBody st9) (defScope st9) .none kV9 dc9 pm9 an9 cd9 ct9), sl9⟩)
    (c9 : PySem.W.codeIn K cd9 "_law_far" = true)
    (k9 : PySem.W.keepIn K (.ref f9) = true)
    (a10 : PySem.W.nsIn K mainGlobals "_law_atom" = some (some (.ref f10)))
    (l10 : K.lookup f10 = some ⟨oc10, od10, .func (PySem.W.fnOf "_law_atom" "_law_atom" (defArgs st10) (defBody st10) (defScope st10) .none kV10 dc10 pm10 an10 cd10 ct10), sl10⟩)
    (c10 : PySem.W.codeIn K cd10 "_law_atom" = true)
    (k10 : PySem.W.keepIn K (.ref f10) = true)
    (a11 : PySem.W.nsIn K mainGlobals "_law_node" = some (some (.ref f11)))
    (l11 : K.lookup f11 = some ⟨oc11, od11, .func (PySem.W.fnOf "_law_node" "_law_node" (defArgs st11) (defBody st11) (defScope st11) .none kV11 dc11 pm11 an11 cd11 ct11), sl11⟩)
    (c11 : PySem.W.codeIn K cd11 "_law_node" = true)
    (k11 : PySem.W.keepIn K (.ref f11) = true)
    (a12 : PySem.W.nsIn K mainGlobals "_law_graph" = some (some (.ref f12)))
    (l12 : K.lookup f12 = some ⟨oc12, od12, .func (PySem.W.fnOf "_law_graph" "_law_graph" (defArgs st12) (defBody st12) (defScope st12) .none kV12 dc12 pm12 an12 cd12 ct12), sl12⟩)
    (c12 : PySem.W.codeIn K cd12 "_law_graph" = true)
    (k12 : PySem.W.keepIn K (.ref f12) = true)
    (a13 : PySem.W.nsIn K mainGlobals "_law_is_number" = some (some (.ref f13)))
    (l13 : K.lookup f13 = some ⟨oc13, od13, .func (PySem.W.fnOf "_law_is_number" "_law_is_number" (defArgs st13) (defBody st13) (defScope st13) .none kV13 dc13 pm13 an13 cd13 ct13), sl13⟩)
    (c13 : PySem.W.codeIn K cd13 "_law_is_number" = true)
    (k13 : PySem.W.keepIn K (.ref f13) = true)
    (a14 : PySem.W.nsIn K mainGlobals "_law_is_atom" = some (some (.ref f14)))
    (l14 : K.lookup f14 = some ⟨oc14, od14, .func (PySem.W.fnOf "_law_is_atom" "_law_is_atom" (defArgs st14) (defBody st14) (defScope st14) .none kV14 dc14 pm14 an14 cd14 ct14), sl14⟩)
    (c14 : PySem.W.codeIn K cd14 "_law_is_atom" = true)
    (k14 : PySem.W.keepIn K (.ref f14) = true)
    (a15 : PySem.W.nsIn K mainGlobals "_law_is_node" = some (some (.ref f15)))
    (l15 : K.lookup f15 = some ⟨oc15, od15, .func (PySem.W.fnOf "_law_is_node" "_law_is_node" (defArgs st15) (defBody st15) (defScope st15) .none kV15 dc15 pm15 an15 cd15 ct15), sl15⟩)
    (c15 : PySem.W.codeIn K cd15 "_law_is_node" = true)
    (k15 : PySem.W.keepIn K (.ref f15) = true)
    (a16 : PySem.W.nsIn K mainGlobals "_law_due" = some (some (.ref f16)))
    (l16 : K.lookup f16 = some ⟨oc16, od16, .func (PySem.W.fnOf "_law_due" "_law_due" (defArgs st16) (defBody st16) (defScope st16) .none kV16 dc16 pm16 an16 cd16 ct16), sl16⟩)
    (c16 : PySem.W.codeIn K cd16 "_law_due" = true)
    (k16 : PySem.W.keepIn K (.ref f16) = true)
    (a17 : PySem.W.nsIn K mainGlobals "_law_odd" = some (some (.ref f17)))
    (l17 : K.lookup f17 = some ⟨oc17, od17, .func (PySem.W.fnOf "_law_odd" "_law_odd" (defArgs st17) (defBody st17) (defScope st17) .none kV17 dc17 pm17 an17 cd17 ct17), sl17⟩)
    (c17 : PySem.W.codeIn K cd17 "_law_odd" = true)
    (k17 : PySem.W.keepIn K (.ref f17) = true)
    (a18 : PySem.W.nsIn K mainGlobals "_law_changed" = some (some (.ref f18)))
    (l18 : K.lookup f18 = some ⟨oc18, od18, .func (PySem.W.fnOf "_law_changed" "_law_changed" (defArgs st18) (defBody st18) (defScope st18) .none kV18 dc18 pm18 an18 cd18 ct18), sl18⟩)
    (c18 : PySem.W.codeIn K cd18 "_law_changed" = true)
    (k18 : PySem.W.keepIn K (.ref f18) = true)
    (a19 : PySem.W.nsIn K mainGlobals "law" = some (some (.ref f19)))
    (l19 : K.lookup f19 = some ⟨oc19, od19, .func (PySem.W.fnOf "law" "law" (defArgs st19) (defBody st19) (defScope st19) .none kV19 dc19 pm19 an19 cd19 ct19), sl19⟩)
    (c19 : PySem.W.codeIn K cd19 "law" = true)
    (k19 : PySem.W.keepIn K (.ref f19) = true)
    (gv0 : PySem.W.nsIn K mainGlobals "MOST_NODES" = some (some (.int 400 t0)))
    (gv1 : PySem.W.nsIn K mainGlobals "MOST_PARTS" = some (some (.int 6 t1)))
    (gv2 : PySem.W.nsIn K mainGlobals "MOST_ATOM" = some (some (.int 12 t2)))
    (gv3 : PySem.W.nsIn K mainGlobals "MOST_NUMBER" = some (some (.int 1000000000 t3)))
    (gv4 : PySem.W.nsIn K mainGlobals "SMALL" = some (some (.str "abcdefghijklmnopqrstuvwxyz" t4)))
    (gv5 : PySem.W.nsIn K mainGlobals "DIGITS" = some (some (.str "0123456789" t5)))
    (z0 : PySem.W.nsIn K mainGlobals "len" = some none)
    (z1 : PySem.W.nsIn K mainGlobals "abs" = some none)
    (z2 : PySem.W.nsIn K mainGlobals "int" = some none)
    (z3 : PySem.W.nsIn K mainGlobals "bool" = some none)
    (z4 : PySem.W.nsIn K mainGlobals "str" = some none)
    (z5 : PySem.W.nsIn K mainGlobals "tuple" = some none)
    (z6 : PySem.W.nsIn K mainGlobals "list" = some none)
    (z7 : PySem.W.nsIn K mainGlobals "all" = some none)
    (z8 : PySem.W.nsIn K mainGlobals "any" = some none)
    (z9 : PySem.W.nsIn K mainGlobals "sum" = some none)
    (z10 : PySem.W.nsIn K mainGlobals "max" = some none)
    (z11 : PySem.W.nsIn K mainGlobals "min" = some none)
    (z12 : PySem.W.nsIn K mainGlobals "sorted" = some none)
    (z13 : PySem.W.nsIn K mainGlobals "dict" = some none)
    (z14 : PySem.W.nsIn K mainGlobals "repr" = some none)
    (z15 : PySem.W.nsIn K mainGlobals "range" = some none)
    (z16 : PySem.W.nsIn K mainGlobals "enumerate" = some none)
    (z17 : PySem.W.nsIn K mainGlobals "zip" = some none)
    (z18 : PySem.W.nsIn K mainGlobals "reversed" = some none)
    (z19 : PySem.W.nsIn K mainGlobals "isinstance" = some none)
    (z20 : PySem.W.nsIn K mainGlobals "set" = some none) :
    ∃ fd : FuncData, (∀ (s : Shared) (v : Value), BindsTo s fd ⟨[v], []⟩ [("script", v)]) ∧ ∀ base : Heap, K.In base → base.Ns mainGlobals mg → FnOk l.prog w K mg base (L2.CX l.prog w) (2 * 20) fa fd ["script"] (spE (pl fun _ => 0) K T 1 20 19) := by
  have e := hfa.symm.trans (PySem.W.mg_of X G a19)
  cases e
  have F0 := fun_mk (st := st0) l0 c0 k0
  have F1 := fun_mk (st := st1) l1 c1 k1
  have F2 := fun_mk (st := st2) l2 c2 k2
  have F3 := fun_mk (st := st3) l3 c3 k3
  have F4 := fun_mk (st := st4) l4 c4 k4
  have F5 := fun_mk (st := st5) l5 c5 k5
  have F6 := fun_mk (st := st6) l6 c6 k6
  have F7 := fun_mk (st := st7) l7 c7 k7
  have F8 := fun_mk (st := st8) l8 c8 k8
  have F9 := fun_mk (st := st9) l9 c9 k9
  have F10 := fun_mk (st := st10) l10 c10 k10
  have F11 := fun_mk (st := st11) l11 c11 k11
  have F12 := fun_mk (st := st12) l12 c12 k12
  have F13 := fun_mk (st := st13) l13 c13 k13
  have F14 := fun_mk (st := st14) l14 c14 k14
  have F15 := fun_mk (st := st15) l15 c15 k15
  have F16 := fun_mk (st := st16) l16 c16 k16
  have F17 := fun_mk (st := st17) l17 c17 k17
  have F18 := fun_mk (st := st18) l18 c18 k18
  have F19 := fun_mk (st := st19) l19 c19 k19
  have B : Base K mg (pl fun _ => 0) T := by
    refine ⟨blt X G z0 z1 z2 z3 z4 z5 z6 z7 z8 z9 z10 z11 z12 z13 z14 z15 z16 z17 z18 z19 z20, ?_, ?_, ?_, ?_, ?_, ?_, ?_, ?_, by decide +kernel, rfl⟩
    · intro i x d h1 h2
      match i, h1, h2 with
      | 0, h1, h2 => cases h1; cases h2; exact ⟨_, .int 400, PySem.W.mg_of X G gv0, ⟨_, rfl⟩, fun _ _ => RV.int _⟩
      | 1, h1, h2 => cases h1; cases h2; exact ⟨_, .int 6, PySem.W.mg_of X G gv1, ⟨_, rfl⟩, fun _ _ => RV.int _⟩
      | 2, h1, h2 => cases h1; cases h2; exact ⟨_, .int 12, PySem.W.mg_of X G gv2, ⟨_, rfl⟩, fun _ _ => RV.int _⟩
      | 3, h1, h2 => cases h1; cases h2; exact ⟨_, .int 1000000000, PySem.W.mg_of X G gv3, ⟨_, rfl⟩, fun _ _ => RV.int _⟩
      | 4, h1, h2 => cases h1; cases h2; exact ⟨_, .str (toS ['a', 'b', 'c', 'd', 'e', 'f', 'g', 'h', 'i', 'j', 'k', 'l', 'm', 'n', 'o', 'p', 'q', 'r', 's', 't', 'u', 'v', 'w', 'x', 'y', 'z']), PySem.W.mg_of X G gv4, ⟨_, by rw [show toS ['a', 'b', 'c', 'd', 'e', 'f', 'g', 'h', 'i', 'j', 'k', 'l', 'm', 'n', 'o', 'p', 'q', 'r', 's', 't', 'u', 'v', 'w', 'x', 'y', 'z'] = ("abcdefghijklmnopqrstuvwxyz" : Str) from by decide +kernel]⟩, fun _ _ => RV.str _⟩
      | 5, h1, h2 => cases h1; cases h2; exact ⟨_, .str (toS ['0', '1', '2', '3', '4', '5', '6', '7', '8', '9']), PySem.W.mg_of X G gv5, ⟨_, by rw [show toS ['0', '1', '2', '3', '4', '5', '6', '7', '8', '9'] = ("0123456789" : Str) from by decide +kernel]⟩, fun _ _ => RV.str _⟩
      | (_ + 6), h1, _ => simp [pl, nm] at h1
    · intro f x h1
      match f, h1 with
      | 0, h1 => cases h1; exact ⟨_, PySem.W.mg_of X G a0, _, _, _, _, _, d0 F0⟩
      | 1, h1 => cases h1; exact ⟨_, PySem.W.mg_of X G a1, _, _, _, _, _, d1 F1⟩
      | 2, h1 => cases h1; exact ⟨_, PySem.W.mg_of X G a2, _, _, _, _, _, d2 F2⟩
      | 3, h1 => cases h1; exact ⟨_, PySem.W.mg_of X G a3, _, _, _, _, _, d3 F3⟩
      | 4, h1 => cases h1; exact ⟨_, PySem.W.mg_of X G a4, _, _, _, _, _, d4 F4⟩
      | 5, h1 => cases h1; exact ⟨_, PySem.W.mg_of X G a5, _, _, _, _, _, d5 F5⟩
      | 6, h1 => cases h1; exact ⟨_, PySem.W.mg_of X G a6, _, _, _, _, _, d6 F6⟩
      | 7, h1 => cases h1; exact ⟨_, PySem.W.mg_of X G a7, _, _, _, _, _, d7 F7⟩
      | 8, h1 => cases h1; exact ⟨_, PySem.W.mg_of X G a8, _, _, _, _, _, d8 F8⟩
      | 9, h1 => cases h1; exact ⟨_, PySem.W.mg_of X G a9, _, _, _, _, _, d9 F9⟩
      | 10, h1 => cases h1; exact ⟨_, PySem.W.mg_of X G a10, _, _, _, _, _, d10 F10⟩
      | 11, h1 => cases h1; exact ⟨_, PySem.W.mg_of X G a11, _, _, _, _, _, d11 F11⟩
      | 12, h1 => cases h1; exact ⟨_, PySem.W.mg_of X G a12, _, _, _, _, _, d12 F12⟩
      | 13, h1 => cases h1; exact ⟨_, PySem.W.mg_of X G a13, _, _, _, _, _, d13 F13⟩
      | 14, h1 => cases h1; exact ⟨_, PySem.W.mg_of X G a14, _, _, _, _, _, d14 F14⟩
      | 15, h1 => cases h1; exact ⟨_, PySem.W.mg_of X G a15, _, _, _, _, _, d15 F15⟩
      | 16, h1 => cases h1; exact ⟨_, PySem.W.mg_of X G a16, _, _, _, _, _, d16 F16⟩
      | 17, h1 => cases h1; exact ⟨_, PySem.W.mg_of X G a17, _, _, _, _, _, d17 F17⟩
      | 18, h1 => cases h1; exact ⟨_, PySem.W.mg_of X G a18, _, _, _, _, _, d18 F18⟩
      | 19, h1 => cases h1; exact ⟨_, PySem.W.mg_of X G a19, _, _, _, _, _, d19 F19⟩
      | (_ + 20), h1 => simp [pl, nm] at h1
    · intro C m f x h1 h2
      simp [T, mts] at h1
    · intro C x f h1 h2
      simp [T, inis] at h1
    · intro C f h1
      simp [T, inis] at h1
    · intro C x h1 h2
      simp [pl, nm] at h1
    · intro c C b h1
      simp [T, subs] at h1
    · intro C f i x h1 h2
      simp [T, inis] at h1
  refine ⟨PySem.W.fnOf "law" "law" (defArgs st19) (defBody st19) (defScope st19) .none kV19 dc19 pm19 an19 cd19 ct19, fun s v => .of_eq rfl, fun base _ _ => ?_⟩
  have t := top_all (P := l.prog) (w := w) (base := base) B 19
  exact fn_law t (d19 F19) rfl F19
end K01
open PySem PySem.W PyProof.Rows
set_option maxRecDepth 100000 in
set_option maxHeartbeats 0 in
theorem PySem.Challenge.cw_leatever_k01_is_graph_holds : PySem.Challenge.rw_leatever_k01_is_graph.Holds := by
  w_on; o_law; k_head; (case hw => w_witness2)
  k_fill
  refine Sd.walkL (l := PySem.Challenge.rw_leatever_k01_is_graph) (pl := fun _ => K01.pl fun _ => 0) (T := K01.T) (f := 19) 20 rfl rfl ⟨rfl, by decide, by decide⟩ (fun w h Y => PySem.W.kIn_of Y) K01.law_plain ?F
  case F =>
    intro w mg fa h KX G hmg
    refine' K01.all_mk KX G hmg ?a0 ?l0 ?c0 ?k0 ?a1 ?l1 ?c1 ?k1 ?a2 ?l2 ?c2 ?k2 ?a3 ?l3 ?c3 ?k3 ?a4 ?l4 ?c4 ?k4 ?a5 ?l5 ?c5 ?k5 ?a6 ?l6 ?c6 ?k6 ?a7 ?l7 ?c7 ?k7 ?a8 ?l8 ?c8 ?k8 ?a9 ?l9 ?c9 ?k9 ?a10 ?l10 ?c10 ?k10 ?a11 ?l11 ?c11 ?k11 ?a12 ?l12 ?c12 ?k12 ?a13 ?l13 ?c13 ?k13 ?a14 ?l14 ?c14 ?k14 ?a15 ?l15 ?c15 ?k15 ?a16 ?l16 ?c16 ?k16 ?a17 ?l17 ?c17 ?k17 ?a18 ?l18 ?c18 ?k18 ?a19 ?l19 ?c19 ?k19 ?gv0 ?gv1 ?gv2 ?gv3 ?gv4 ?gv5 ?z0 ?z1 ?z2 ?z3 ?z4 ?z5 ?z6 ?z7 ?z8 ?z9 ?z10 ?z11 ?z12 ?z13 ?z14 ?z15 ?z16 ?z17 ?z18 ?z19 ?z20
    (case a0 => k_is); (case l0 => k_is); (case c0 => k_is); (case k0 => k_is); (case a1 => k_is); (case l1 => k_is)
    (case c1 => k_is); (case k1 => k_is); (case a2 => k_is); (case l2 => k_is); (case c2 => k_is); (case k2 => k_is)
    (case a3 => k_is); (case l3 => k_is); (case c3 => k_is); (case k3 => k_is); (case a4 => k_is); (case l4 => k_is)
    (case c4 => k_is); (case k4 => k_is); (case a5 => k_is); (case l5 => k_is); (case c5 => k_is); (case k5 => k_is)
    (case a6 => k_is); (case l6 => k_is); (case c6 => k_is); (case k6 => k_is); (case a7 => k_is); (case l7 => k_is)
    (case c7 => k_is); (case k7 => k_is); (case a8 => k_is); (case l8 => k_is); (case c8 => k_is); (case k8 => k_is)
    (case a9 => k_is); (case l9 => k_is); (case c9 => k_is); (case k9 => k_is); (case a10 => k_is); (case l10 => k_is)
    (case c10 => k_is); (case k10 => k_is); (case a11 => k_is); (case l11 => k_is); (case c11 => k_is); (case k11 => k_is)
    (case a12 => k_is); (case l12 => k_is); (case c12 => k_is); (case k12 => k_is); (case a13 => k_is); (case l13 => k_is)
    (case c13 => k_is); (case k13 => k_is); (case a14 => k_is); (case l14 => k_is); (case c14 => k_is); (case k14 => k_is)
    (case a15 => k_is); (case l15 => k_is); (case c15 => k_is); (case k15 => k_is); (case a16 => k_is); (case l16 => k_is)
    (case c16 => k_is); (case k16 => k_is); (case a17 => k_is); (case l17 => k_is); (case c17 => k_is); (case k17 => k_is)
    (case a18 => k_is); (case l18 => k_is); (case c18 => k_is); (case k18 => k_is); (case a19 => k_is); (case l19 => k_is)
    (case c19 => k_is); (case k19 => k_is); (case gv0 => k_is); (case gv1 => k_is); (case gv2 => k_is); (case gv3 => k_is)
    (case gv4 => k_is); (case gv5 => k_is); (case z0 => k_is); (case z1 => k_is); (case z2 => k_is); (case z3 => k_is)
    (case z4 => k_is); (case z5 => k_is); (case z6 => k_is); (case z7 => k_is); (case z8 => k_is); (case z9 => k_is)
    (case z10 => k_is); (case z11 => k_is); (case z12 => k_is); (case z13 => k_is); (case z14 => k_is); (case z15 => k_is)
    (case z16 => k_is); (case z17 => k_is); (case z18 => k_is); (case z19 => k_is); (case z20 => k_is)
