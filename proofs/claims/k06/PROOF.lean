import PyProof.Rows.All
import Wide.All
import OpenK.AllK
import Wide.FinOn
import HandS.ForExc
import HandS.TupAny
import HandS.TupMul
import HandS.Deep
import HandS.IsInst
import HandS.Comp
import HandS.Iter
import HandS.Text
import HandS.Flow
import HandS.Style
import HandS.More
import HandS.ExcIs
import PyProof.TwoTypesSub
import PyProof.FactsAll.bool_3
import KE.DataCmp
import HandS.TupLe
import HandS.DictTup
import HandS.TupLen
import HandS.WordsDict
import PyProof.DictMoreH
import HandS.SetKeys
import HandS.Zip
import HandS.WrittenGet
import PyProof.Rows.TupDisplay
import PyProof.DictFindH
import KE.KDictZip
import PyProof.Draws
import PyProof.EnumMake
import HandS.RevRange
import HandS.Small
import PyProof.ExcBaseAll.ValueError
import HandS.WordsExc
import HandS.Defaults
import HandS.HeadHook4
import HandS.HeadEnd
import HandS.Head2
import PySem.Challenge.RW_leatever_k06_cut_trees
set_option Elab.async false
set_option linter.all false
/-! Ev0: a small language, and what its texts do: values, a heap of lists, dicts and instances, expressions, statements, calls. -/
set_option linter.all false
namespace Py
abbrev Tx := List Char

/-- a value: refs point into the heap of things that change; ls: a list that never changes (the script), and in resolved trees any list; kt: a tuple of the module's own -/
inductive D where
  | non | bl (b : Bool) | int (i : Int) | str (x : Tx) | tup (xs : List D) | ls (xs : List D) | kt (xs : List D) | ref (n : Nat)
  deriving Inhabited

/-- keys of dicts -/
inductive KY where
  | i (n : Int) | s (x : Tx)
  deriving DecidableEq, Inhabited

inductive Ob where
  | lst (xs : List D)
  | dk (kvs : List (KY × D))
  | dt (kvs : List (List KY × D))
  | ins (C : Nat) (fs : List (Nat × D))
  | fz (kvs : List (KY × D))
  deriving Inhabited
abbrev G := List Ob

/-- what an expression gives: a value, or a list that nothing else holds -/
inductive XV where
  | d (d : D) | tmp (xs : List D)

/-- an exception: its class, its fields -/
structure Xc where
  cls : Nat
  fs : List (Nat × D) := []

inductive R (α : Type) where
  | ok (a : α) (g : G)
  | ex (x : Xc) (g : G)
  | bad

def R.bind {α β : Type} (r : R α) (f : α → G → R β) : R β :=
  match r with
  | .ok a g => f a g
  | .ex x g => .ex x g
  | .bad => .bad

abbrev Lc := List (Option D)
/-- what a statement leaves -/
inductive O where
  | nx (L : Lc) (g : G) | rt (d : D) (g : G) | br (L : Lc) (g : G) | ct (L : Lc) (g : G) | ex (x : Xc) (L : Lc) (g : G) | bad

/-! ### syntax -/
inductive BOp where | add | sub | mul | fdiv | mod | pow
inductive COp where | eq | ne | lt | le | gt | ge | is | isnt | isin | notin
inductive Ty where | int | bool | str | tuple | list | dict | own (c : Nat)
/-- built-in functions -/
inductive BI where | len | abs | int | bool | str | tuple | list | all | any | sum | max | min | sorted | dict | repr
/-- methods of built-in types -/
inductive BM where | append | extend | pop | index | count | insert | get | setdefault | update | join | startswith | lower | lstrip | split | copy

inductive Tg where
  | nm (i : Nat) | tp (is : List Nat)

mutual
inductive E where
  | v (i : Nat) | c (d : D) | g (i : Nat)
  | bin (o : BOp) (a b : E) | neg (a : E)
  | cmp (o : COp) (a b : E) | cmp2 (o o' : COp) (a b c : E)
  | isi (a : E) (t : Ty)
  | and (a b : E) | or (a b : E) | not (a : E) | ite (c a b : E)
  | tup (es : Es) | lst (es : Es) | dnk | dnt | dic (kvs : Es)
  | ix (a i : E) | gix (g : Nat) (i : E)
  | slL (a lo : E) | slH (a hi : E) | slB (a lo hi : E) | rev (a : E)
  | fld (a : E) (f : Nat)
  | call (f : Nat) (es : Es) | mk (C : Nat) (es : Es) | mth (a : E) (m : Nat) (es : Es)
  | bi (b : BI) (es : Es) | bm (m : BM) (a : E) (es : Es) | lenset (a : E)
  | comp (t : Tg) (s : Src) (c e : E)
  | gin (n : Bool) (g : Nat) (e : E) | gget (g : Nat) (e d : E) | lzip (a b : E) | any
inductive Es where
  | nil | cons (e : E) (es : Es)
inductive Src where
  | it (e : E) | rng (es : Es) | enum (e : E) | zip (a b : E) | zipt (a b : E) | revr (es : Es)
end

mutual
inductive S where
  | set (t : Tg) (e : E) | par (i j : Nat) (a b : E)
  | aug (i : Nat) (o : BOp) (e : E)
  | augF (a : E) (f : Nat) (o : BOp) (e : E)
  | setF (a : E) (f : Nat) (e : E) | setI (a i e : E) | augI (a i : E) (o : BOp) (e : E) | del (a i : E)
  | ex (e : E)
  | ifs (c : E) (a b : Ss) | whl (c : E) (b : Ss) | for (t : Tg) (s : Src) (b : Ss)
  | forD (t : Tg) (i : Nat) (b : Ss)
  | ret (e : E) | ret0 | raise (C : Nat)
  | try (b : Ss) (C : Nat) (x : Option Nat) (h : Ss)
  | tryi (b : Ss) (C : Nat) (i D : Nat) (h1 h2 : Ss)
  | pass | brk | cnt | any
inductive Ss where
  | nil | cons (s : S) (ss : Ss) | any
end

structure Fn where
  np : Nat
  ns : Nat
  body : Ss

structure Tb where
  fn : Nat → Option Fn
  ini : Nat → Option Nat
  mt : Nat → Nat → Option Nat
  sub : Nat → Nat → Option Bool
  gl : Nat → Option D
  gd : Nat → Option (List (Tx × D))

/-- the most items of a list, signs of a text -/
def line : Nat := 16777216

/-! ### resolved trees, equality -/
def trL (f : D → Option D) : List D → Option (List D)
  | [] => some []
  | x :: xs => match f x, trL f xs with
    | some y, some ys => some (y :: ys)
    | _, _ => none
def tr (g : G) : Nat → D → Option D
  | 0, _ => none
  | n + 1, .tup xs => (trL (tr g n) xs).map .tup
  | n + 1, .kt xs => (trL (tr g n) xs).map .tup
  | n + 1, .ref m => match g[m]? with
    | some (.lst xs) => (trL (tr g n) xs).map .ls
    | _ => none
  | _ + 1, .ls _ => none
  | _ + 1, d => some d
def trX (g : G) : XV → Option D
  | .d d => tr g 60 d
  | .tmp xs => (trL (tr g 59) xs).map .ls

mutual
def eqv : D → D → Bool
  | .non, .non => true
  | .bl a, .bl b => a == b
  | .bl a, .int j => decide ((if a then 1 else 0) = j)
  | .int i, .bl b => decide (i = (if b then 1 else 0))
  | .int i, .int j => decide (i = j)
  | .str x, .str y => decide (x = y)
  | .tup xs, .tup ys => eqvs xs ys
  | .ls xs, .ls ys => eqvs xs ys
  | _, _ => false
def eqvs : List D → List D → Bool
  | [], [] => true
  | x :: xs, y :: ys => eqv x y && eqvs xs ys
  | _, _ => false
end

/-- numbers, texts, None, truths -/
def flat : D → Bool
  | .non | .bl _ | .int _ | .str _ => true
  | _ => false

def D.isNon : D → Bool
  | .non => true
  | _ => false

/-! ### truth, lengths, items -/
def truth (g : G) : XV → Option Bool
  | .tmp xs => some (!xs.isEmpty)
  | .d .non => some false
  | .d (.bl b) => some b
  | .d (.int i) => some (i != 0)
  | .d (.str x) => if x.length ≤ line then some (!x.isEmpty) else none
  | .d (.tup xs) => some (!xs.isEmpty)
  | .d (.ls xs) => some (!xs.isEmpty)
  | .d (.kt xs) => some (!xs.isEmpty)
  | .d (.ref n) => match g[n]? with
    | some (.lst xs) => some (!xs.isEmpty)
    | some (.dk kvs) => some (!kvs.isEmpty)
    | _ => none

/-- the place of an index -/
def ixN (n : Nat) (i : Int) : Option Nat := if 0 ≤ i then (if i < n then some i.toNat else none) else if -(n : Int) ≤ i then some (i + n).toNat else none
def atI {α : Type} (xs : List α) (i : Int) : Option α := (ixN xs.length i).bind fun j => xs[j]?

def kyOf : D → Option KY
  | .int i => some (.i i)
  | .str x => some (.s x)
  | _ => none
def keysOf : List D → Option (List KY)
  | [] => some []
  | d :: ds => match kyOf d, keysOf ds with
    | some k, some ks => some (k :: ks)
    | _, _ => none
def look {κ : Type} [DecidableEq κ] (k : κ) : List (κ × D) → Option D
  | [] => none
  | (j, d) :: r => if j = k then some d else look k r
def putK {κ : Type} [DecidableEq κ] (k : κ) (v : D) (kvs : List (κ × D)) : List (κ × D) :=
  if kvs.any (fun p => decide (p.1 = k)) then kvs.map (fun p => if p.1 = k then (p.1, v) else p) else kvs ++ [(k, v)]

/-- the items of a list or tuple -/
def items (g : G) : XV → Option (List D)
  | .tmp xs => some xs
  | .d (.tup xs) => some xs
  | .d (.ls xs) => some xs
  | .d (.kt xs) => some xs
  | .d (.ref n) => match g[n]? with
    | some (.lst xs) => some xs
    | _ => none
  | _ => none
def listOf (g : G) : XV → Option (List D)
  | .tmp xs => some xs
  | .d (.ref n) => match g[n]? with
    | some (.lst xs) => some xs
    | _ => none
  | _ => none

/-- x[i] -/
def index (g : G) (x : XV) (i : D) : Option D :=
  match x with
  | .d (.str z) => match i with
    | .int i => if z.length ≤ line then (atI z i).map fun c => .str [c] else none
    | _ => none
  | .d (.ref n) => match g[n]? with
    | some (.lst xs) => match i with
      | .int i => atI xs i
      | _ => none
    | some (.dk kvs) => (kyOf i).bind fun k => look k kvs
    | some (.fz kvs) => (kyOf i).bind fun k => look k kvs
    | some (.dt kvs) => match i with
      | .tup ds => (keysOf ds).bind fun k => look k kvs
      | _ => none
    | _ => none
  | .d (.tup xs) => match i with
    | .int i => atI xs i
    | _ => none
  | .d (.kt xs) => match i with
    | .int i => atI xs i
    | _ => none
  | .tmp xs => match i with
    | .int i => atI xs i
    | _ => none
  | _ => none

/-- an end of a slice -/
def sIx (n d : Nat) : Option Int → Nat
  | none => d
  | some v => if v < 0 then (v + (n : Int)).toNat else min v.toNat n
def cut {α : Type} (xs : List α) (lo hi : Option Int) : List α := (xs.drop (sIx xs.length 0 lo)).take (sIx xs.length xs.length hi - sIx xs.length 0 lo)
def slice (g : G) (x : XV) (lo hi : Option Int) : Option XV :=
  match x with
  | .d (.str z) => if z.length ≤ line then some (.d (.str (cut z lo hi))) else none
  | .d (.tup xs) => some (.d (.tup (cut xs lo hi)))
  | .tmp xs => some (.tmp (cut xs lo hi))
  | .d (.ref n) => match g[n]? with
    | some (.lst xs) => some (.tmp (cut xs lo hi))
    | _ => none
  | _ => none

/-! ### operators -/
def small (i : Int) : Bool := decide (-(2 ^ 64) < i) && decide (i < 2 ^ 64)
def binop (g : G) (o : BOp) (x y : XV) : Option XV :=
  match o with
  | .add => match x, y with
    | .d (.int i), .d (.int j) => some (.d (.int (i + j)))
    | .d (.str a), .d (.str b) => if a.length + b.length ≤ line then some (.d (.str (a ++ b))) else none
    | .d (.tup a), .d (.tup b) => if a.length + b.length ≤ line then some (.d (.tup (a ++ b))) else none
    | x, y => match listOf g x, listOf g y with
      | some a, some b => if a.length + b.length ≤ line then some (.tmp (a ++ b)) else none
      | _, _ => none
  | .sub => match x, y with
    | .d (.int i), .d (.int j) => some (.d (.int (i - j)))
    | .d (.bl a), .d (.bl b) => some (.d (.int ((if a then 1 else 0) - (if b then 1 else 0))))
    | _, _ => none
  | .mul => match y with
    | .d (.int j) => match x with
      | .d (.int i) => if small i || small j then some (.d (.int (i * j))) else none
      | .d (.tup a) => if decide (a ≠ []) && decide (2 ≤ j) && decide (j ≤ 1000) && decide (a.length ≤ 1000) then some (.d (.tup (List.replicate j.toNat a).flatten)) else none
      | x => match listOf g x with
        | some a => if decide (-(2 ^ 62) ≤ j) && decide (j < 2 ^ 62) && decide (a.length * j.toNat ≤ line) then some (.tmp (List.replicate j.toNat a).flatten) else none
        | _ => none
    | _ => none
  | .fdiv => match x, y with
    | .d (.int i), .d (.int j) => if decide (0 < j) && decide (j < 1073741824) then some (.d (.int (i / j))) else none
    | _, _ => none
  | .mod => match x, y with
    | .d (.int i), .d (.int j) => if decide (0 < j) then some (.d (.int (i % j))) else none
    | _, _ => none
  | .pow => match x, y with
    | .d (.int i), .d (.int j) => if decide (0 ≤ j) && decide (j ≤ 1000000) && decide (i.natAbs < 2 ^ 64) then some (.d (.int (i ^ j.toNat))) else none
    | _, _ => none

/-- a op= b -/
def augop (o : BOp) (x : D) (y : XV) : Option D :=
  match o, x, y with
  | .add, .int i, .d (.int j) => some (.int (i + j))
  | .add, .str a, .d (.str b) => if a.length + b.length ≤ line then some (.str (a ++ b)) else none
  | .sub, .int i, .d (.int j) => some (.int (i - j))
  | .mul, .int i, .d (.int j) => if small i || small j then some (.int (i * j)) else none
  | .fdiv, .int i, .d (.int j) => if decide (0 < j) && decide (j < 1073741824) then some (.int (i / j)) else none
  | .mod, .int i, .d (.int j) => if decide (0 < j) then some (.int (i % j)) else none
  | _, _, _ => none

def lexLt : List Char → List Char → Bool
  | [], [] => false
  | [], _ :: _ => true
  | _ :: _, [] => false
  | a :: as, b :: bs => if a.toNat < b.toNat then true else if b.toNat < a.toNat then false else lexLt as bs

mutual
/-- two values that can be compared place by place -/
def alikeD : D → D → Bool
  | .non, .non => true
  | .bl _, .bl _ => true
  | .int _, .int _ => true
  | .str _, .str _ => true
  | .tup xs, .tup ys => alikesD xs ys
  | .ls xs, .ls ys => alikesD xs ys
  | _, _ => false
def alikesD : List D → List D → Bool
  | x :: xs, y :: ys => alikeD x y && alikesD xs ys
  | _, _ => true
end
mutual
def ltv : D → D → Bool
  | .bl a, .bl b => !a && b
  | .int i, .int j => decide (i < j)
  | .str x, .str y => lexLt x y
  | .tup xs, .tup ys => ltvs xs ys
  | .ls xs, .ls ys => ltvs xs ys
  | _, _ => false
def ltvs : List D → List D → Bool
  | [], [] => false
  | [], _ :: _ => true
  | _ :: _, [] => false
  | x :: xs, y :: ys => if eqv x y then ltvs xs ys else ltv x y
end
def ordX (g : G) (x y : XV) (f : D → D → Bool) : Option Bool := match trX g x, trX g y with
  | some a, some b => if alikeD a b && !a.isNon then some (f a b) else none
  | _, _ => none

/-- the entries of a dict -/
def keyed (g : G) (y : XV) : Option (List (KY × D) ⊕ List (List KY × D)) :=
  match y with
  | .d (.ref n) => match g[n]? with
    | some (.dk kvs) => some (.inl kvs)
    | some (.fz kvs) => some (.inl kvs)
    | some (.dt kvs) => some (.inr kvs)
    | _ => none
  | _ => none
/-- x in y -/
def isin (g : G) (x : D) (y : XV) : Option Bool :=
  match y with
  | .d (.str z) => match x with
    | .str [c] => some (decide (c ∈ z))
    | _ => none
  | y => match keyed g y with
    | some (.inl kvs) => (kyOf x).map fun k => (look k kvs).isSome
    | some (.inr kvs) => match x with
      | .tup ds => (keysOf ds).map fun k => (look k kvs).isSome
      | _ => none
    | none => match tr g 60 x, trX g y with
      | some t, some (.tup ts) => some (ts.any fun z => eqv z t)
      | some t, some (.ls ts) => some (ts.any fun z => eqv z t)
      | _, _ => none

def cmpop (g : G) (o : COp) (x y : XV) : Option Bool :=
  match o with
  | .eq => match trX g x, trX g y with
    | some a, some b => some (eqv a b)
    | _, _ => none
  | .ne => match trX g x, trX g y with
    | some a, some b => some (!eqv a b)
    | _, _ => none
  | .lt => match x, y with
    | .d (.int i), .d (.int j) => some (decide (i < j))
    | .d (.str a), .d (.str b) => some (lexLt a b)
    | x, y => ordX g x y fun a b => ltv a b
  | .le => match x, y with
    | .d (.int i), .d (.int j) => some (decide (i ≤ j))
    | .d (.str a), .d (.str b) => some (!lexLt b a)
    | x, y => ordX g x y fun a b => !ltv b a
  | .gt => match x, y with
    | .d (.int i), .d (.int j) => some (decide (j < i))
    | .d (.str a), .d (.str b) => some (lexLt b a)
    | x, y => ordX g x y fun a b => ltv b a
  | .ge => match x, y with
    | .d (.int i), .d (.int j) => some (decide (j ≤ i))
    | .d (.str a), .d (.str b) => some (!lexLt a b)
    | x, y => ordX g x y fun a b => !ltv a b
  | .is => match x, y with
    | .d a, .d .non => some a.isNon
    | .d (.bl a), .d (.bl b) => some (a == b)
    | _, _ => none
  | .isnt => match x, y with
    | .d a, .d .non => some (!a.isNon)
    | .d (.bl a), .d (.bl b) => some (!(a == b))
    | _, _ => none
  | .isin => match x with
    | .d a => isin g a y
    | _ => none
  | .notin => match x with
    | .d a => (isin g a y).map (!·)
    | _ => none

/-- the kinds of values that isinstance tells apart -/
inductive Kd where | non | bool | int | str | tuple | list | dict
def Kd.isa : Kd → Ty → Bool
  | .bool, .bool => true
  | .bool, .int => true
  | .int, .int => true
  | .str, .str => true
  | .tuple, .tuple => true
  | .list, .list => true
  | .dict, .dict => true
  | _, _ => false
def kdOf (g : G) : XV → Option Kd
  | .tmp _ => some .list
  | .d .non => some .non
  | .d (.bl _) => some .bool
  | .d (.int _) => some .int
  | .d (.str _) => some .str
  | .d (.tup _) => some .tuple
  | .d (.kt _) => some .tuple
  | .d (.ls _) => none
  | .d (.ref n) => match g[n]? with
    | some (.lst _) => some .list
    | some (.dk _) => some .dict
    | some (.dt _) => some .dict
    | _ => none
def isinst (T : Tb) (g : G) (d : XV) (t : Ty) : Option Bool := (kdOf g d).map fun k => k.isa t

/-! ### built-in functions -/
def boolsOf : List D → Option (List Bool)
  | [] => some []
  | .bl b :: r => (boolsOf r).map (b :: ·)
  | _ => none
def intsOf : List D → Option (List Int)
  | [] => some []
  | .int i :: r => (intsOf r).map (i :: ·)
  | _ => none
def strsOf : List D → Option (List Tx)
  | [] => some []
  | .str i :: r => (strsOf r).map (i :: ·)
  | _ => none
def joinT (z : Tx) : List Tx → Tx
  | [] => []
  | [x] => x
  | x :: y :: r => x ++ z ++ joinT z (y :: r)
def lenOf (g : G) : XV → Option Nat
  | .d (.str z) => if z.length ≤ line then some z.length else none
  | .d (.ref n) => match g[n]? with
    | some (.lst xs) => some xs.length
    | some (.dk kvs) => some kvs.length
    | some (.dt kvs) => some kvs.length
    | _ => none
  | x => (items g x).map List.length
def built1 (g : G) (b : BI) (x : XV) : Option XV :=
  match b with
  | .len => (lenOf g x).map fun n => .d (.int n)
  | .abs => match x with
    | .d (.int i) => some (.d (.int (if i < 0 then -i else i)))
    | _ => none
  | .int => match x with
    | .d (.int i) => some (.d (.int i))
    | .d (.bl b) => some (.d (.int (if b then 1 else 0)))
    | _ => none
  | .bool => match x with
    | .d (.int i) => some (.d (.bl (i != 0)))
    | .d (.bl b) => some (.d (.bl b))
    | _ => none
  | .tuple => match x with
    | .d (.kt _) => none
    | x => (items g x).map fun xs => .d (.tup xs)
  | .list => (items g x).map fun xs => .tmp xs
  | .all => (listOf g x).bind fun xs => (boolsOf xs).map fun bs => .d (.bl (bs.all id))
  | .any => (listOf g x).bind fun xs => (boolsOf xs).map fun bs => .d (.bl (bs.any id))
  | .sum => (listOf g x).bind fun xs => (intsOf xs).map fun is => .d (.int is.sum)
  | _ => none
def built2 (g : G) (b : BI) (x y : XV) : Option XV :=
  match b with
  | .max => match x, y with
    | .d (.int i), .d (.int j) => some (.d (.int (if j > i then j else i)))
    | _, _ => none
  | .min => match x, y with
    | .d (.int i), .d (.int j) => some (.d (.int (if j < i then j else i)))
    | _, _ => none
  | _ => none

/-! ### what a for walks -/
inductive It where
  | vals (xs : List D) | lst (n : Nat) | enumL (n : Nat) | enumT (xs : List D)
  | zipL (n m : Nat) | zipT (xs ys : List D) | rng (lo : Int) (n : Nat) | rngC (lo c : Int) (n : Nat) | sgn (z : Tx)
/-- the i-th turn: none: not known; some none: the end -/
def turn (g : G) : It → Nat → Option (Option D)
  | .vals xs, i => some xs[i]?
  | .lst n, i => match g[n]? with
    | some (.lst xs) => some xs[i]?
    | _ => none
  | .enumL n, i => match g[n]? with
    | some (.lst xs) => some (xs[i]?.map fun d => .tup [.int i, d])
    | _ => none
  | .enumT xs, i => some (xs[i]?.map fun d => .tup [.int i, d])
  | .zipL n m, i => match g[n]?, g[m]? with
    | some (.lst xs), some (.lst ys) => some (match xs[i]?, ys[i]? with
      | some a, some b => some (.tup [a, b])
      | _, _ => none)
    | _, _ => none
  | .zipT xs ys, i => some (match xs[i]?, ys[i]? with
      | some a, some b => some (.tup [a, b])
      | _, _ => none)
  | .rng lo n, i => some (if i < n then some (.int (lo + i)) else none)
  | .rngC lo c n, i => some (if i < n then some (.int (lo + i * c)) else none)
  | .sgn z, i => some (z[i]?.map fun c => .str [c])

def asg (t : Tg) (d : D) (g : G) (L : Lc) : Option Lc :=
  match t with
  | .nm i => some (L.set i (some d))
  | .tp is => match items g (.d d) with
    | some xs => if xs.length = is.length then some ((is.zip xs).foldl (fun L p => L.set p.1 (some p.2)) L) else none
    | none => none
/-- a target's slots -/
def Tg.own : Tg → List Nat
  | .nm i => [i]
  | .tp is => is

/-- turns, at most n -/
def loopF (it : It) (t : Tg) (body : Lc → G → O) : Nat → Nat → Lc → G → O
  | 0, _, _, _ => .bad
  | n + 1, i, L, g => match turn g it i with
    | none => .bad
    | some none => .nx L g
    | some (some d) => match asg t d g L with
      | none => .bad
      | some L1 => match body L1 g with
        | .nx L2 g2 => loopF it t body n (i + 1) L2 g2
        | .ct L2 g2 => loopF it t body n (i + 1) L2 g2
        | .br L2 g2 => .nx L2 g2
        | .rt d g2 => .rt d g2
        | .ex x L2 g2 => .ex x L2 g2
        | .bad => .bad
def kyV : KY → D
  | .i n => .int n
  | .s x => .str x
/-- a walked dict is free again -/
def unfz (n : Nat) (kvs : List (KY × D)) : O → O
  | .nx L g => match g[n]? with
    | some (.fz _) => .nx L (g.set n (.dk kvs))
    | _ => .bad
  | .rt d g => match g[n]? with
    | some (.fz _) => .rt d (g.set n (.dk kvs))
    | _ => .bad
  | _ => .bad
def loopW (c : Lc → G → R Bool) (body : Lc → G → O) : Nat → Lc → G → O
  | 0, _, _ => .bad
  | n + 1, L, g => match c L g with
    | .bad => .bad
    | .ex x g1 => .ex x L g1
    | .ok false g1 => .nx L g1
    | .ok true g1 => match body L g1 with
        | .nx L2 g2 => loopW c body n L2 g2
        | .ct L2 g2 => loopW c body n L2 g2
        | .br L2 g2 => .nx L2 g2
        | .rt d g2 => .rt d g2
        | .ex x L2 g2 => .ex x L2 g2
        | .bad => .bad
/-- a comprehension's turns: what is made so far; nothing is raised in it -/
def loopC (it : It) (t : Tg) (c : Lc → G → R Bool) (e : Lc → G → R D) (L : Lc) : Nat → Nat → List D → G → R (List D)
  | 0, _, _, _ => .bad
  | n + 1, i, acc, g => match turn g it i with
    | none => .bad
    | some none => .ok acc g
    | some (some d) => match asg t d g L with
      | none => .bad
      | some L1 => match c L1 g with
        | .ok true g1 => match e L1 g1 with
          | .ok y g2 => if acc.length < line then loopC it t c e L n (i + 1) (acc ++ [y]) g2 else .bad
          | _ => .bad
        | .ok false g1 => loopC it t c e L n (i + 1) acc g1
        | _ => .bad

def fuel : Nat := 1000000000000

/-- a list that nothing else holds is laid into the heap -/
def lay (x : XV) (g : G) : D × G :=
  match x with
  | .d d => (d, g)
  | .tmp xs => (.ref g.length, g ++ [.lst xs])
def R.lay (r : R XV) : R D :=
  match r with
  | .ok x g => .ok (Py.lay x g).1 (Py.lay x g).2
  | .ex x g => .ex x g
  | .bad => .bad
def ofO {α : Type} (o : Option α) (g : G) : R α :=
  match o with
  | some a => .ok a g
  | none => .bad
/-- a test -/
def R.test (r : R XV) : R Bool := r.bind fun x g => ofO (truth g x) g
def getF (T : Tb) (g : G) (d : D) (f : Nat) : Option D :=
  match d with
  | .ref n => match g[n]? with
    | some (.ins C fs) => if (T.mt C f).isNone then fs.lookup f else none
    | _ => none
  | _ => none
/-- the class of an instance -/
def clsAt (g : G) (d : D) : Option Nat :=
  match d with
  | .ref n => match g[n]? with
    | some (.ins C _) => some C
    | _ => none
  | _ => none
def putF (f : Nat) (v : D) : List (Nat × D) → List (Nat × D)
  | [] => [(f, v)]
  | (j, x) :: r => if j = f then (j, v) :: r else (j, x) :: putF f v r
def setFld (T : Tb) (g : G) (d : D) (f : Nat) (v : D) : Option G :=
  match d with
  | .ref n => match g[n]? with
    | some (.ins C fs) => if (T.mt C f).isNone && decide (fs.length < 900) then some (g.set n (.ins C (putF f v fs))) else none
    | _ => none
  | _ => none
def setIx (g : G) (o i v : D) : Option G :=
  match o with
  | .ref n => match g[n]? with
    | some (.lst xs) => match i with
      | .int i => (ixN xs.length i).map fun j => g.set n (.lst (xs.set j v))
      | _ => none
    | some (.dk kvs) => (kyOf i).bind fun k => if kvs.length < line then some (g.set n (.dk (putK k v kvs))) else none
    | some (.dt kvs) => match i with
      | .tup ds => (keysOf ds).bind fun k => if kvs.length < line then some (g.set n (.dt (putK k v kvs))) else none
      | _ => none
    | _ => none
  | _ => none
/-- the built-in type of a receiver -/
inductive BT where | list | dict | str
  deriving DecidableEq
def btype (g : G) (x : XV) : Option BT :=
  match x with
  | .tmp _ => some .list
  | .d (.str _) => some .str
  | .d (.ref n) => match g[n]? with
    | some (.lst _) => some .list
    | some (.dk _) => some .dict
    | some (.dt _) => some .dict
    | _ => none
  | _ => none
/-- the place of the first equal one -/
def place (t : D) : Nat → List D → Option Nat
  | _, [] => none
  | i, z :: r => if eqv z t then some i else place t (i + 1) r
/-- the methods there are -/
def bmok : BT → BM → Bool
  | .list, .append | .list, .pop | .list, .extend | .list, .index | .dict, .get | .dict, .setdefault | .str, .join => true
  | _, _ => false
/-- o.m(..) of a built-in type, by values -/
def bmeth (g : G) (T : BT) (m : BM) (o : XV) (vs : List D) : Option (XV × G) :=
  match T with
  | .list => match m with
    | .append => match o, vs with
      | .d (.ref n), [v] => match g[n]? with
        | some (.lst xs) => if xs.length < line then some (.d .non, g.set n (.lst (xs ++ [v]))) else none
        | _ => none
      | _, _ => none
    | .pop => match o, vs with
      | .d (.ref n), [] => match g[n]? with
        | some (.lst xs) => xs[xs.length - 1]?.map fun y => (.d y, g.set n (.lst xs.dropLast))
        | _ => none
      | _, _ => none
    | .extend => match o, vs with
      | .d (.ref n), [.ref m] => match g[n]?, g[m]? with
        | some (.lst xs), some (.lst ys) => if xs.length + ys.length ≤ line then some (.d .non, g.set n (.lst (xs ++ ys))) else none
        | _, _ => none
      | .d (.ref n), [.tup ys] => match g[n]? with
        | some (.lst xs) => if xs.length + ys.length ≤ line then some (.d .non, g.set n (.lst (xs ++ ys))) else none
        | _ => none
      | .d (.ref n), [.kt ys] => match g[n]? with
        | some (.lst xs) => if xs.length + ys.length ≤ line then some (.d .non, g.set n (.lst (xs ++ ys))) else none
        | _ => none
      | _, _ => none
    | .index => match vs with
      | [v] => match trX g o, tr g 60 v with
        | some (.ls ts), some t => (place t 0 ts).map fun i => (.d (.int i), g)
        | _, _ => none
      | _ => none
    | _ => none
  | .dict => match m with
    | .get => match vs with
      | [k] => match keyed g o with
        | some (.inl kvs) => (kyOf k).map fun k => (.d ((look k kvs).getD .non), g)
        | some (.inr kvs) => match k with
          | .tup ds => (keysOf ds).map fun k => (.d ((look k kvs).getD .non), g)
          | _ => none
        | _ => none
      | [k, d] => match keyed g o with
        | some (.inl kvs) => (kyOf k).map fun k => (.d ((look k kvs).getD d), g)
        | some (.inr kvs) => match k with
          | .tup ds => (keysOf ds).map fun k => (.d ((look k kvs).getD d), g)
          | _ => none
        | _ => none
      | _ => none
    | .setdefault => match o, vs with
      | .d (.ref n), [k, d] => match g[n]? with
        | some (.dk kvs) => (kyOf k).bind fun k => match look k kvs with
          | some v => some (.d v, g)
          | none => if kvs.length < line then some (.d d, g.set n (.dk (putK k d kvs))) else none
        | some (.dt kvs) => match k with
          | .tup ds => (keysOf ds).bind fun k => match look k kvs with
            | some v => some (.d v, g)
            | none => if kvs.length < line then some (.d d, g.set n (.dt (putK k d kvs))) else none
          | _ => none
        | _ => none
      | _, _ => none
    | _ => none
  | .str => match m, o, vs with
    | .join, .d (.str z), [v] => (items g (.d v)).bind fun xs => (strsOf xs).bind fun ys => if decide ((ys.map List.length).sum + ys.length * z.length ≤ line) then some (.d (.str (joinT z ys)), g) else none
    | _, _, _ => none


/-- distinct keys -/
def dedup : List KY → List KY
  | [] => []
  | k :: ks => k :: (dedup ks).filter fun j => decide (j ≠ k)
def evens {α : Type} : List α → List α
  | x :: _ :: r => x :: evens r
  | r => r
def odds {α : Type} : List α → List α
  | _ :: y :: r => y :: odds r
  | _ => []
/-- the pairs of a written dict -/
def mergeL {κ : Type} [DecidableEq κ] (kvs more : List (κ × D)) : List (κ × D) := more.foldl (fun acc p => putK p.1 p.2 acc) kvs
def keyss : List D → Option (List (List KY))
  | [] => some []
  | .tup ds :: r => match keysOf ds, keyss r with
    | some k, some ks => some (k :: ks)
    | _, _ => none
  | _ => none
def dicOf (ks vs : List D) : Option Ob :=
  if ks.length = vs.length ∧ 1 ≤ ks.length ∧ ks.length ≤ 15 then
    match keysOf ks with
    | some k => some (.dk (mergeL [] (k.zip vs)))
    | none => match keyss ks with
      | some k => some (.dt (mergeL [] (k.zip vs)))
      | none => none
  else none
/-- x[::-1] -/
def revX (g : G) : XV → Option XV
  | .d (.tup xs) => some (.d (.tup xs.reverse))
  | .tmp xs => some (.tmp xs.reverse)
  | .d (.ref n) => match g[n]? with
    | some (.lst xs) => some (.tmp xs.reverse)
    | _ => none
  | _ => none
def intsKY : List KY → Bool
  | [] => true
  | .i _ :: r => intsKY r
  | _ => false
def lensetX (g : G) (x : XV) : Option Nat := (listOf g x).bind fun xs => (intsOf xs).bind fun is => if is.length ≤ 4000 then some is.eraseDups.length else none
def zipX : List D → List D → List D
  | x :: xs, y :: ys => .tup [x, y] :: zipX xs ys
  | _, _ => []
def tupOf : XV → Option (List D)
  | .d (.tup xs) => some xs
  | .d (.kt xs) => some xs
  | _ => none

/-! ### the evaluator: cf does calls of the program's own defs -/
abbrev Cf := Nat → List D → G → R D
/-- an instance's making takes a level of its own -/
def mkB : Nat := 1000000
mutual
def ev (T : Tb) (cf : Cf) : E → Lc → G → R XV
  | .v i, L, g => match L[i]? with
    | some (some d) => .ok (.d d) g
    | _ => .bad
  | .c d, _, g => .ok (.d d) g
  | .g i, _, g => ofO ((T.gl i).map .d) g
  | .bin o a b, L, g => (ev T cf a L g).bind fun x g => (ev T cf b L g).bind fun y g => ofO (binop g o x y) g
  | .neg a, L, g => (ev T cf a L g).bind fun x g => match x with
    | .d (.int i) => .ok (.d (.int (-i))) g
    | _ => .bad
  | .cmp o a b, L, g => (ev T cf a L g).bind fun x g => (ev T cf b L g).bind fun y g => ofO ((cmpop g o x y).map fun b => .d (.bl b)) g
  | .cmp2 o o' a b c, L, g => (ev T cf a L g).bind fun x g => (ev T cf b L g).bind fun y g => match cmpop g o x y with
    | some true => (ev T cf c L g).bind fun z g => ofO ((cmpop g o' y z).map fun b => .d (.bl b)) g
    | some false => .ok (.d (.bl false)) g
    | none => .bad
  | .isi a t, L, g => (ev T cf a L g).bind fun x g => ofO ((isinst T g x t).map fun b => .d (.bl b)) g
  | .and a b, L, g => (ev T cf a L g).bind fun x g => match truth g x with
    | some true => ev T cf b L g
    | some false => .ok x g
    | none => .bad
  | .or a b, L, g => (ev T cf a L g).bind fun x g => match truth g x with
    | some true => .ok x g
    | some false => ev T cf b L g
    | none => .bad
  | .not a, L, g => (ev T cf a L g).bind fun x g => ofO ((truth g x).map fun b => .d (.bl (!b))) g
  | .ite c a b, L, g => (ev T cf c L g).bind fun x g => match truth g x with
    | some true => ev T cf a L g
    | some false => ev T cf b L g
    | none => .bad
  | .tup es, L, g => (evs T cf es L g).bind fun ds g => if ds.length ≤ line then .ok (.d (.tup ds)) g else .bad
  | .lst es, L, g => (evs T cf es L g).bind fun ds g => if ds.length ≤ line then .ok (.tmp ds) g else .bad
  | .dnk, _, g => .ok (.d (.ref g.length)) (g ++ [.dk []])
  | .dnt, _, g => .ok (.d (.ref g.length)) (g ++ [.dt []])
  | .dic kvs, L, g => (evs T cf kvs L g).bind fun ds g => match dicOf (evens ds) (odds ds) with
    | some o => .ok (.d (.ref g.length)) (g ++ [o])
    | none => .bad
  | .ix a i, L, g => (ev T cf a L g).bind fun x g => (ev T cf i L g).bind fun y g => match y with
    | .d y => ofO ((index g x y).map .d) g
    | _ => .bad
  | .gix q e, L, g => match T.gd q with
    | some kvs => (ev T cf e L g).bind fun x g => match x with
      | .d (.str z) => ofO ((kvs.lookup z).map .d) g
      | _ => .bad
    | none => .bad
  | .gin n q e, L, g => match T.gd q with
    | some kvs => (ev T cf e L g).bind fun x g => match x with
      | .d (.str z) => .ok (.d (.bl ((kvs.lookup z).isSome != n))) g
      | _ => .bad
    | none => .bad
  | .gget q e d, L, g => match T.gd q with
    | some kvs => (ev T cf e L g).lay.bind fun x g => (ev T cf d L g).lay.bind fun y g => match x with
      | .str z => .ok (.d ((kvs.lookup z).getD y)) g
      | _ => .bad
    | none => .bad
  | .any, _, _ => .bad
  | .lzip a b, L, g => (ev T cf a L g).bind fun x g => (ev T cf b L g).bind fun y g => match tupOf x, tupOf y with
    | some xs, some ys => .ok (.tmp (zipX xs ys)) g
    | _, _ => .bad
  | .slL a lo, L, g => (ev T cf a L g).bind fun x g => (ev T cf lo L g).bind fun y g => match y with
    | .d (.int i) => ofO (slice g x (some i) none) g
    | _ => .bad
  | .slH a hi, L, g => (ev T cf a L g).bind fun x g => (ev T cf hi L g).bind fun y g => match y with
    | .d (.int i) => ofO (slice g x none (some i)) g
    | _ => .bad
  | .slB a lo hi, L, g => (ev T cf a L g).bind fun x g => (ev T cf lo L g).bind fun y g => match y with
    | .d (.int i) => (ev T cf hi L g).bind fun z g => match z with
      | .d (.int j) => ofO (slice g x (some i) (some j)) g
      | _ => .bad
    | _ => .bad
  | .rev a, L, g => (ev T cf a L g).bind fun x g => ofO (revX g x) g
  | .fld a f, L, g => (ev T cf a L g).bind fun x g => match x with
    | .d d => ofO ((getF T g d f).map .d) g
    | _ => .bad
  | .call f es, L, g => (evs T cf es L g).bind fun ds g => (cf f ds g).bind fun d g => .ok (.d d) g
  | .mk C es, L, g => (evs T cf es L g).bind fun ds g => match T.ini C with
    | some f => if (T.fn (f + mkB)).isNone then (cf (f + mkB) (.ref g.length :: ds) (g ++ [.ins C []])).bind fun d g' => match d with
      | .non => .ok (.d (.ref g.length)) g'
      | _ => .bad
      else .bad
    | none => .bad
  | .mth a m es, L, g => (ev T cf a L g).bind fun x g => match x with
    | .d (.ref n) => match g[n]? with
      | some (.ins C fs) => match T.mt C m, fs.lookup m with
        | some f, none => (evs T cf es L g).bind fun ds g => (cf f (.ref n :: ds) g).bind fun d g => .ok (.d d) g
        | _, _ => .bad
      | _ => .bad
    | _ => .bad
  | .bi b (.cons a .nil), L, g => (ev T cf a L g).bind fun x g => ofO (built1 g b x) g
  | .bi b (.cons a (.cons a' .nil)), L, g => (ev T cf a L g).bind fun x g => (ev T cf a' L g).bind fun y g => ofO (built2 g b x y) g
  | .bi _ _, _, _ => .bad
  | .bm m a es, L, g => (ev T cf a L g).bind fun x g => match btype g x with
    | some B => if bmok B m then (evs T cf es L g).bind fun ds g => match bmeth g B m x ds with
      | some (y, g') => .ok y g'
      | none => .bad
      else .bad
    | none => .bad
  | .lenset a, L, g => (ev T cf a L g).bind fun x g => ofO ((lensetX g x).map fun n => .d (.int n)) g
  | .comp t s c e, L, g => (evI T cf s L g).bind fun it g => (loopC it t (fun L g => (ev T cf c L g).test) (fun L g => (ev T cf e L g).lay) L fuel 0 [] g).bind fun xs g => .ok (.tmp xs) g
def evs (T : Tb) (cf : Cf) : Es → Lc → G → R (List D)
  | .nil, _, g => .ok [] g
  | .cons e es, L, g => (ev T cf e L g).lay.bind fun d g => (evs T cf es L g).bind fun ds g => .ok (d :: ds) g
def evI (T : Tb) (cf : Cf) : Src → Lc → G → R It
  | .it e, L, g => (ev T cf e L g).bind fun x g => match x with
    | .tmp xs => .ok (.vals xs) g
    | .d (.tup xs) => .ok (.vals xs) g
    | .d (.ls xs) => .ok (.vals xs) g
    | .d (.kt xs) => .ok (.vals xs) g
    | .d (.str z) => .ok (.sgn z) g
    | .d (.ref n) => match g[n]? with
      | some (.lst _) => .ok (.lst n) g
      | _ => .bad
    | _ => .bad
  | .rng (.cons a .nil), L, g => (ev T cf a L g).bind fun x g => match x with
    | .d (.int j) => if decide (-(2 ^ 62) ≤ j) && decide (j < 2 ^ 62) then .ok (.rng 0 j.toNat) g else .bad
    | _ => .bad
  | .rng (.cons a (.cons b .nil)), L, g => (ev T cf a L g).bind fun x g => (ev T cf b L g).bind fun y g => match x, y with
    | .d (.int i), .d (.int j) => if decide (-(2 ^ 62) ≤ i) && decide (i < 2 ^ 62) && decide (-(2 ^ 62) ≤ j) && decide (j < 2 ^ 62) then .ok (.rng i (j - i).toNat) g else .bad
    | _, _ => .bad
  | .rng (.cons a (.cons b (.cons c .nil))), L, g => (ev T cf a L g).bind fun x g => (ev T cf b L g).bind fun y g => (ev T cf c L g).bind fun z g => match x, y, z with
    | .d (.int i), .d (.int j), .d (.int k) => if decide (0 < k) && decide (k < 1000000) && decide (-(2 ^ 30) < i) && decide (i < 2 ^ 30) && decide (-(2 ^ 30) < j) && decide (j < 2 ^ 30) then .ok (.rngC i k ((j - i + (k - 1)) / k).toNat) g else .bad
    | _, _, _ => .bad
  | .rng _, _, _ => .bad
  | .revr (.cons a .nil), L, g => (ev T cf a L g).bind fun x g => match x with
    | .d (.int j) => if decide (-(2 ^ 62) ≤ j) && decide (j < 2 ^ 62) then .ok (.rngC (j - 1) (-1) j.toNat) g else .bad
    | _ => .bad
  | .revr _, _, _ => .bad
  | .enum e, L, g => (ev T cf e L g).bind fun x g => match x with
    | .tmp xs => .ok (.enumT xs) g
    | .d (.tup xs) => .ok (.enumT xs) g
    | .d (.kt xs) => .ok (.enumT xs) g
    | .d (.ref n) => match g[n]? with
      | some (.lst _) => .ok (.enumL n) g
      | _ => .bad
    | _ => .bad
  | .zip a b, L, g => (ev T cf a L g).bind fun x g => (ev T cf b L g).bind fun y g => match tupOf x, tupOf y with
    | some xs, some ys => .ok (.zipT xs ys) g
    | _, _ => match x, y with
      | .d (.ref n), .d (.ref m) => match g[n]?, g[m]? with
        | some (.lst _), some (.lst _) => .ok (.zipL n m) g
        | _, _ => .bad
      | _, _ => .bad
  | .zipt a b, L, g => (ev T cf a L g).bind fun x g => (ev T cf b L g).bind fun y g => match tupOf x, tupOf y with
    | some xs, some ys => .ok (.zipT xs ys) g
    | _, _ => .bad
end

def R.toO {α : Type} (r : R α) (L : Lc) (k : α → G → O) : O :=
  match r with
  | .ok a g => k a g
  | .ex x g => .ex x L g
  | .bad => .bad
def O.then (o : O) (k : Lc → G → O) : O :=
  match o with
  | .nx L g => k L g
  | o => o
mutual
def evS (T : Tb) (cf : Cf) : S → Lc → G → O
  | .set t e, L, g => (ev T cf e L g).lay.toO L fun d g => match asg t d g L with
    | some L1 => .nx L1 g
    | none => .bad
  | .par i j a b, L, g => (ev T cf a L g).lay.toO L fun x g => (ev T cf b L g).lay.toO L fun y g => .nx ((L.set i (some x)).set j (some y)) g
  | .aug i o e, L, g => match L[i]? with
    | some (some x) => (ev T cf e L g).toO L fun y g => match augop o x y with
      | some z => .nx (L.set i (some z)) g
      | none => .bad
    | _ => .bad
  | .augF a f o e, L, g => (ev T cf a L g).toO L fun x g => match x with
    | .d x => match getF T g x f with
      | some v => (ev T cf e L g).toO L fun y g1 => match augop o v y with
        | some z => if clsAt g x = clsAt g1 x then (match setFld T g1 x f z with
          | some g' => .nx L g'
          | none => .bad) else .bad
        | none => .bad
      | none => .bad
    | _ => .bad
  | .setF a f e, L, g => (ev T cf e L g).lay.toO L fun v g => (ev T cf a L g).toO L fun x g => match x with
    | .d x => match setFld T g x f v with
      | some g' => .nx L g'
      | none => .bad
    | _ => .bad
  | .setI a i e, L, g => (ev T cf e L g).lay.toO L fun v g => (ev T cf a L g).toO L fun x g => match x with
    | .d x => (ev T cf i L g).toO L fun y g => match y with
      | .d y => match setIx g x y v with
        | some g' => .nx L g'
        | none => .bad
      | _ => .bad
    | _ => .bad
  | .augI a i o e, L, g => (ev T cf a L g).toO L fun x g => (ev T cf i L g).toO L fun y g => match x, y with
    | .d (.ref n), .d (.int j) => match g[n]? with
      | some (.lst xs) => match atI xs j with
        | some v => (ev T cf e L g).toO L fun w g1 => match augop o v w with
          | some z => match setIx g1 (.ref n) (.int j) z with
            | some g' => .nx L g'
            | none => .bad
          | none => .bad
        | none => .bad
      | _ => .bad
    | _, _ => .bad
  | .del a i, L, g => (ev T cf a L g).toO L fun x g => (ev T cf i L g).toO L fun y g => match x, y with
    | .d (.ref n), .d y => match g[n]? with
      | some (.dk kvs) => match kyOf y with
        | some k => if (look k kvs).isSome then .nx L (g.set n (.dk (kvs.filter fun p => decide (p.1 ≠ k)))) else .bad
        | none => .bad
      | _ => .bad
    | _, _ => .bad
  | .ex e, L, g => (ev T cf e L g).toO L fun _ g => .nx L g
  | .ifs c a b, L, g => (ev T cf c L g).test.toO L fun t g => if t then evSs T cf a L g else evSs T cf b L g
  | .whl c b, L, g => loopW (fun L g => (ev T cf c L g).test) (fun L g => evSs T cf b L g) fuel L g
  | .forD t i b, L, g => match L[i]? with
    | some (some (.ref n)) => match g[n]? with
      | some (.dk kvs) => unfz n kvs (loopF (.vals (kvs.map fun p => kyV p.1)) t (fun L g => evSs T cf b L g) fuel 0 L (g.set n (.fz kvs)))
      | _ => .bad
    | _ => .bad
  | .for t s b, L, g => (evI T cf s L g).toO L fun it g => loopF it t (fun L g => evSs T cf b L g) fuel 0 L g
  | .ret e, L, g => (ev T cf e L g).lay.toO L fun d g => .rt d g
  | .ret0, _, g => .rt .non g
  | .raise C, L, g => .ex ⟨C, []⟩ L g
  | .any, _, _ => .bad
  | .tryi b C i D h1 h2, L, g => match evSs T cf b L g with
    | .ex e L g => match T.sub e.cls C with
      | some true => match T.sub e.cls D with
        | some t => if i < L.length then (match (if t then evSs T cf h1 (L.set i none) g else evSs T cf h2 (L.set i none) g) with
          | .nx L g => .nx (L.set i none) g
          | .br L g => .br (L.set i none) g
          | .ct L g => .ct (L.set i none) g
          | .rt d g => .rt d g
          | _ => .bad) else .bad
        | none => .bad
      | some false => .ex e L g
      | none => .bad
    | o => o
  | .try b C x h, L, g => match evSs T cf b L g with
    | .ex e L g => match T.sub e.cls C with
      | some true => match x with
        | none => (match evSs T cf h L g with
          | .ex _ _ _ => .bad
          | o => o)
        | some _ => .bad
      | some false => .ex e L g
      | none => .bad
    | o => o
  | .pass, L, g => .nx L g
  | .brk, L, g => .br L g
  | .cnt, L, g => .ct L g
def evSs (T : Tb) (cf : Cf) : Ss → Lc → G → O
  | .nil, L, g => .nx L g
  | .any, _, _ => .bad
  | .cons s ss, L, g => (evS T cf s L g).then fun L g => evSs T cf ss L g
end

def runF (T : Tb) : Nat → Cf
  | 0, _, _, _ => .bad
  | k + 1, f, ds, g => match T.fn f with
    | none => if mkB ≤ f then runF T k (f - mkB) ds g else .bad
    | some F => if ds.length = F.np then (match evSs T (runF T k) F.body (ds.map some ++ List.replicate (F.ns - F.np) none) g with
      | .nx _ g => .ok .non g
      | .rt d g => .ok d g
      | .ex x _ g => .ex x g
      | _ => .bad) else .bad
theorem run_mk {T : Tb} {k f : Nat} {ds : List D} {g : G} (h : T.fn (f + mkB) = none) : runF T k (f + mkB) ds g = runF T (k - 1) f ds g := by
  cases k with
  | zero => rfl
  | succ k =>
    rw [runF, h]
    show (if mkB ≤ f + mkB then runF T k (f + mkB - mkB) ds g else .bad) = _
    rw [if_pos (Nat.le_add_left _ _), Nat.add_sub_cancel]
    rfl
end Py
set_option linter.all false
set_option maxRecDepth 100000
/-! Pl0: plain tools for laws: loops. -/
namespace Py
/-- turns of a comprehension -/
theorem loopC_ind {it : It} {t : Tg} {c : Lc → G → R Bool} {e : Lc → G → R D} {L : Lc} {n : Nat} (P : Nat → List D → G → Prop)
    (step : ∀ i acc g, i < n → P i acc g → ∃ d L1, turn g it i = some (some d) ∧ asg t d g L = some L1 ∧ acc.length < line ∧ ((∃ y g1 g2, c L1 g = .ok true g1 ∧ e L1 g1 = .ok y g2 ∧ P (i + 1) (acc ++ [y]) g2) ∨ ∃ g1, c L1 g = .ok false g1 ∧ P (i + 1) acc g1))
    (stop : ∀ acc g, P n acc g → turn g it n = some none) :
    ∀ (m i : Nat) (acc : List D) (g : G), i ≤ n → n < m + i → P i acc g → ∃ acc' g', loopC it t c e L m i acc g = .ok acc' g' ∧ P n acc' g'
  | 0, i, acc, g, h1, h2, _ => by omega
  | m + 1, i, acc, g, h1, h2, p => by
    by_cases hi : i = n
    · subst hi
      exact ⟨acc, g, by rw [loopC, stop acc g p], p⟩
    · obtain ⟨d, L1, e1, e2, hl, h⟩ := step i acc g (by omega) p
      rcases h with ⟨y, g1, g2, e3, e4, p'⟩ | ⟨g1, e3, p'⟩
      · obtain ⟨acc', g', q, p''⟩ := loopC_ind P step stop m (i + 1) (acc ++ [y]) g2 (by omega) (by omega) p'
        exact ⟨acc', g', by simp only [loopC, e1, e2, e3, e4, if_pos hl, q], p''⟩
      · obtain ⟨acc', g', q, p''⟩ := loopC_ind P step stop m (i + 1) acc g1 (by omega) (by omega) p'
        exact ⟨acc', g', by simp only [loopC, e1, e2, e3, q], p''⟩
/-- a comprehension over values whose turns leave the heap as it is -/
theorem loopC_map {xs : List D} {i : Nat} {e : Lc → G → R D} {L : Lc} {g : G} {c : Lc → G → R Bool} (f : D → D) (hx : xs.length < line) (hc : ∀ L, c L g = .ok true g) (he : ∀ x ∈ xs, e (L.set i (some x)) g = .ok (f x) g) :
    loopC (.vals xs) (.nm i) c e L fuel 0 [] g = .ok (xs.map f) g := by
  obtain ⟨acc, g', h, p⟩ := loopC_ind (it := .vals xs) (t := .nm i) (c := c) (e := e) (L := L) (n := xs.length) (fun j acc g' => g' = g ∧ acc = (xs.take j).map f)
    (fun j acc g' hj ⟨e1, e2⟩ => by
      subst e1 e2
      refine ⟨xs[j], L.set i (some xs[j]), by simp [turn, hj], rfl, by simp; omega, .inl ⟨f xs[j], g', g', hc _, he _ (List.getElem_mem hj), rfl, ?_⟩⟩
      rw [List.take_add_one, List.getElem?_eq_getElem hj, List.map_append]
      rfl)
    (fun acc g' ⟨e1, e2⟩ => by simp [turn]) fuel 0 [] g (Nat.zero_le _) (by unfold fuel line at *; omega) ⟨rfl, by simp⟩
  obtain ⟨rfl, rfl⟩ := p
  rw [h, List.take_length]
theorem loopC_mapS {z : Tx} {i : Nat} {e : Lc → G → R D} {L : Lc} {g : G} {c : Lc → G → R Bool} (f : Char → D) (hx : z.length < line) (hc : ∀ L, c L g = .ok true g) (he : ∀ x ∈ z, e (L.set i (some (.str [x]))) g = .ok (f x) g) :
    loopC (.sgn z) (.nm i) c e L fuel 0 [] g = .ok (z.map f) g := by
  obtain ⟨acc, g', h, p⟩ := loopC_ind (it := .sgn z) (t := .nm i) (c := c) (e := e) (L := L) (n := z.length) (fun j acc g' => g' = g ∧ acc = (z.take j).map f)
    (fun j acc g' hj ⟨e1, e2⟩ => by
      subst e1 e2
      refine ⟨.str [z[j]], L.set i (some (.str [z[j]])), by simp [turn, hj], rfl, by simp; omega, .inl ⟨f z[j], g', g', hc _, he _ (List.getElem_mem hj), rfl, ?_⟩⟩
      rw [List.take_add_one, List.getElem?_eq_getElem hj, List.map_append]
      rfl)
    (fun acc g' ⟨e1, e2⟩ => by simp [turn]) fuel 0 [] g (Nat.zero_le _) (by unfold fuel line at *; omega) ⟨rfl, by simp⟩
  obtain ⟨rfl, rfl⟩ := p
  rw [h, List.take_length]
/-- turns of a for whose body goes on to the next -/
theorem loopF_ind {it : It} {t : Tg} {body : Lc → G → O} {n : Nat} (P : Nat → Lc → G → Prop)
    (step : ∀ i L g, i < n → P i L g → ∃ d L1, turn g it i = some (some d) ∧ asg t d g L = some L1 ∧ ∃ L2 g2, (body L1 g = .nx L2 g2 ∨ body L1 g = .ct L2 g2) ∧ P (i + 1) L2 g2)
    (stop : ∀ L g, P n L g → turn g it n = some none) :
    ∀ (m i : Nat) (L : Lc) (g : G), i ≤ n → n < m + i → P i L g → ∃ L' g', loopF it t body m i L g = .nx L' g' ∧ P n L' g'
  | 0, i, L, g, h1, h2, _ => by omega
  | m + 1, i, L, g, h1, h2, p => by
    by_cases hi : i = n
    · subst hi
      exact ⟨L, g, by rw [loopF, stop L g p], p⟩
    · obtain ⟨d, L1, e1, e2, L2, g2, e3, p'⟩ := step i L g (by omega) p
      obtain ⟨L', g', q, p''⟩ := loopF_ind P step stop m (i + 1) L2 g2 (by omega) (by omega) p'
      refine ⟨L', g', ?_, p''⟩
      rcases e3 with e3 | e3 <;> simp only [loopF, e1, e2, e3, q]
theorem runF_rt {T : Tb} {k f : Nat} {F : Fn} {ds : List D} {g g' : G} {d : D} (hF : T.fn f = some F) (hn : ds.length = F.np) (h : evSs T (runF T k) F.body (ds.map some ++ List.replicate (F.ns - F.np) none) g = .rt d g') : runF T (k + 1) f ds g = .ok d g' := by
  simp only [runF, hF]
  rw [if_pos hn, h]
theorem runF_nx {T : Tb} {k f : Nat} {F : Fn} {ds : List D} {L : Lc} {g g' : G} (hF : T.fn f = some F) (hn : ds.length = F.np) (h : evSs T (runF T k) F.body (ds.map some ++ List.replicate (F.ns - F.np) none) g = .nx L g') : runF T (k + 1) f ds g = .ok .non g' := by
  simp only [runF, hF]
  rw [if_pos hn, h]
theorem runF_ex {T : Tb} {k f : Nat} {F : Fn} {ds : List D} {L : Lc} {x : Xc} {g g' : G} (hF : T.fn f = some F) (hn : ds.length = F.np) (h : evSs T (runF T k) F.body (ds.map some ++ List.replicate (F.ns - F.np) none) g = .ex x L g') : runF T (k + 1) f ds g = .ex x g' := by
  simp only [runF, hF]
  rw [if_pos hn, h]
/-- the first statement, the others -/
def ss0 : Ss → S
  | .cons s _ => s
  | .nil => .pass
  | .any => .any
def ss1 : Ss → Ss
  | .cons _ b => b
  | .nil => .nil
  | .any => .any
theorem run_ss {T : Tb} {cf : Cf} {b : Ss} {L L1 : Lc} {g g1 : G} (h : evS T cf (ss0 b) L g = .nx L1 g1) (hb : b = .cons (ss0 b) (ss1 b)) : evSs T cf b L g = evSs T cf (ss1 b) L1 g1 := by
  rw [hb, evSs]
  show (evS T cf (ss0 b) L g).then _ = _
  rw [h]
  rfl
theorem run_rt {T : Tb} {cf : Cf} {b : Ss} {L : Lc} {d : D} {g g1 : G} (h : evS T cf (ss0 b) L g = .rt d g1) (hb : b = .cons (ss0 b) (ss1 b)) : evSs T cf b L g = .rt d g1 := by
  rw [hb, evSs]
  show (evS T cf (ss0 b) L g).then _ = _
  rw [h]
  rfl
/-! ### the heap but one place -/
def Keep (r : Nat) (g g' : G) : Prop := ∀ n o, n ≠ r → g[n]? = some o → g'[n]? = some o
theorem Keep.refl (r : Nat) (g : G) : Keep r g g := fun _ _ _ h => h
theorem Keep.trans {r : Nat} {g g' g'' : G} (h : Keep r g g') (h' : Keep r g' g'') : Keep r g g'' := fun n o hn e => h' n o hn (h n o hn e)
theorem set_self {g : G} {r : Nat} {o o' : Ob} (h : g[r]? = some o) : (g.set r o')[r]? = some o' := by
  rw [List.getElem?_set_self (List.getElem?_eq_some_iff.mp h).1]
theorem set_keep {g : G} {r : Nat} {o' : Ob} : Keep r g (g.set r o') := fun n o hn h => by rw [List.getElem?_set_ne (Ne.symm hn)]; exact h
theorem Keep.push {r : Nat} {g : G} {os : List Ob} : Keep r g (g ++ os) := fun n o hn h => by rw [List.getElem?_append_left (List.getElem?_eq_some_iff.mp h).1]; exact h
theorem emod_lt {v m : Int} (h : 0 < m) : 0 ≤ v % m ∧ v % m < m := ⟨Int.emod_nonneg _ (by omega), Int.emod_lt_of_pos _ h⟩
theorem ev_comp {T : Tb} {cf : Cf} {t : Tg} {s : Src} {c e : E} {L : Lc} {g g1 g' : G} {it : It} {acc : List D} (hi : evI T cf s L g = .ok it g1) (hl : loopC it t (fun L g => (ev T cf c L g).test) (fun L g => (ev T cf e L g).lay) L fuel 0 [] g1 = .ok acc g') : ev T cf (.comp t s c e) L g = .ok (.tmp acc) g' := by
  rw [ev, hi]
  show (loopC it t _ _ L fuel 0 [] g1).bind _ = _
  rw [hl]
  rfl
theorem ev_for {T : Tb} {cf : Cf} {t : Tg} {s : Src} {b : Ss} {L L' : Lc} {g g1 g' : G} {it : It} (hi : evI T cf s L g = .ok it g1) (hl : loopF it t (fun L g => evSs T cf b L g) fuel 0 L g1 = .nx L' g') : evS T cf (.for t s b) L g = .nx L' g' := by
  rw [evS, hi]
  exact hl
end Py
set_option linter.all false
set_option maxRecDepth 100000
/-! Pl1: the laws' stream, told once for any table. -/
namespace Py
def drawB : Ss := (.cons (.ifs (.and (.cmp .eq (.ix (.v 0) (.c (.int 1))) (.c (.int 0))) (.cmp .lt (.ix (.v 0) (.c (.int 2))) (.bi .len (.cons (.ix (.v 0) (.c (.int 0))) .nil)))) (.cons (.setI (.v 0) (.c (.int 1)) (.bi .abs (.cons (.bi .int (.cons (.ix (.ix (.v 0) (.c (.int 0))) (.ix (.v 0) (.c (.int 2)))) .nil)) .nil))) (.cons (.setI (.v 0) (.c (.int 2)) (.bin .add (.ix (.v 0) (.c (.int 2))) (.c (.int 1)))) .nil)) .nil) (.cons (.ifs (.cmp .eq (.ix (.v 0) (.c (.int 1))) (.c (.int 0))) (.cons (.setI (.v 0) (.c (.int 3)) (.bin .mod (.bi .int (.cons (.bin .add (.bin .mul (.ix (.v 0) (.c (.int 3))) (.c (.int 48271))) (.c (.int 11))) .nil)) (.c (.int 2147483647)))) (.cons (.ret (.bin .mod (.bi .int (.cons (.bin .fdiv (.ix (.v 0) (.c (.int 3))) (.c (.int 97))) .nil)) (.v 1))) .nil)) .nil) (.cons (.set (.nm 2) (.bin .mod (.bi .int (.cons (.ix (.v 0) (.c (.int 1))) .nil)) (.v 1))) (.cons (.setI (.v 0) (.c (.int 1)) (.bin .fdiv (.ix (.v 0) (.c (.int 1))) (.v 1))) (.cons (.ret (.v 2)) .nil)))))
def drawF : Fn := ⟨2, 3, drawB⟩
def streamB0 : Ss := (.cons (.set (.nm 1) (.bin .mod (.bi .int (.cons (.bin .add (.bin .add (.bin .mul (.v 1) (.c (.int 48271))) (.bin .mod (.bi .int (.cons (.v 2) .nil)) (.c (.int 65521)))) (.c (.int 1))) .nil)) (.c (.int 2147483647)))) .nil)
def streamL : S := .for (.nm 2) (.it (.v 0)) streamB0
def streamF : Fn := ⟨1, 3, (.cons (.set (.nm 1) (.c (.int 17))) (.cons streamL (.cons (.ret (.lst (.cons (.bi .list (.cons (.v 0) .nil)) (.cons (.c (.int 0)) (.cons (.c (.int 0)) (.cons (.v 1) .nil)))))) .nil)))⟩
/-! ### the stream -/
def Strm (ns : List Int) (l r : Nat) (g : G) : Prop := l ≠ r ∧ g[l]? = some (.lst (ns.map D.int)) ∧ ∃ a p m : Int, 0 ≤ a ∧ 0 ≤ p ∧ 0 ≤ m ∧ g[r]? = some (.lst [.ref l, .int a, .int p, .int m])
section
variable {T : Tb} {ns : List Int} {l r : Nat} {g g' : G}
theorem Strm.push (s : Strm ns l r g) (os : List Ob) : Strm ns l r (g ++ os) := by
  obtain ⟨h, hl, a, p, m, ha, hp, hm, hr⟩ := s
  exact ⟨h, Keep.push l _ h hl, a, p, m, ha, hp, hm, by rw [List.getElem?_append_left (List.getElem?_eq_some_iff.mp hr).1]; exact hr⟩
theorem Strm.lt (s : Strm ns l r g) : r < g.length := by
  obtain ⟨h, hl, a, p, m, ha, hp, hm, hr⟩ := s
  exact (List.getElem?_eq_some_iff.mp hr).1
/-- another place is written -/
theorem Strm.set (s : Strm ns l r g) {n : Nat} {o : Ob} (hl : n ≠ l) (hr : n ≠ r) : Strm ns l r (g.set n o) := by
  obtain ⟨h, h1, a, p, m, ha, hp, hm, h2⟩ := s
  exact ⟨h, by rw [List.getElem?_set_ne hl]; exact h1, a, p, m, ha, hp, hm, by rw [List.getElem?_set_ne hr]; exact h2⟩
/-- kept but for the stream -/
theorem Strm.keep (s : Strm ns l r g) (h : ∀ n o, (n = l ∨ n = r) → g[n]? = some o → g'[n]? = some o) : Strm ns l r g' := by
  obtain ⟨h0, h1, a, p, m, ha, hp, hm, h2⟩ := s
  exact ⟨h0, h _ _ (.inl rfl) h1, a, p, m, ha, hp, hm, h _ _ (.inr rfl) h2⟩
theorem draw0 {cf : Cf} {many a p m : Int} (hlr : l ≠ r) (hl : g[l]? = some (.lst (ns.map D.int))) (ha : 0 ≤ a) (hp : 0 ≤ p) (hr : g[r]? = some (.lst [.ref l, .int a, .int p, .int m])) :
    ∃ g1 a1 p1, evS T cf (ss0 drawB) [some (.ref r), some (.int many), none] g = .nx [some (.ref r), some (.int many), none] g1 ∧ Keep r g g1 ∧ 0 ≤ a1 ∧ 0 ≤ p1 ∧ g1[r]? = some (.lst [.ref l, .int a1, .int p1, .int m]) := by
  by_cases hz : a = 0
  · subst hz
    by_cases hlt : p < ns.length
    · have hx : p.toNat < ns.length := by omega
      obtain ⟨x, e2⟩ : ∃ x, ns[p.toNat] = x := ⟨_, rfl⟩
      have hpn : ¬ p < 0 := by omega
      have hr1 : (g.set r (.lst [.ref l, .int (if x < 0 then -x else x), .int p, .int m]))[r]? = _ := set_self hr
      have h0 : 0 ≤ (if x < 0 then -x else x) := by split <;> omega
      generalize ey : (if x < 0 then -x else x) = y at hr1 h0
      have hr2 : ((g.set r (.lst [.ref l, .int y, .int p, .int m])).set r (.lst [.ref l, .int y, .int (p + 1), .int m]))[r]? = _ := set_self hr1
      refine ⟨_, y, p + 1, ?_, set_keep.trans set_keep, h0, by omega, hr2⟩
      simp [drawB, ss0, evSs, evS, ev, evs, evI, Py.R.bind, ofO, isinst, truth, Py.R.test, Py.R.lay, lay, Py.R.toO, Py.O.then, asg, items, listOf, index, setIx, built1, built2, lenOf, cmpop, binop, augop, ordX, ltv, ltvs, alikeD, alikesD, D.isNon, keyed, isin, tr, trX, trL, eqv, eqvs, btype, bmok, bmeth, boolsOf, atI, ixN, small, hr, hl, hlt, e2, hp, ey, hr1]
    · refine ⟨g, 0, p, ?_, .refl r g, by omega, hp, hr⟩
      simp [drawB, ss0, evSs, evS, ev, evs, evI, Py.R.bind, ofO, isinst, truth, Py.R.test, Py.R.lay, lay, Py.R.toO, Py.O.then, asg, items, listOf, index, setIx, built1, built2, lenOf, cmpop, binop, augop, ordX, ltv, ltvs, alikeD, alikesD, D.isNon, keyed, isin, tr, trX, trL, eqv, eqvs, btype, bmok, bmeth, boolsOf, atI, ixN, small, hr, hl, hlt]
  · refine ⟨g, a, p, ?_, .refl r g, ha, hp, hr⟩
    simp [drawB, ss0, evSs, evS, ev, evs, evI, Py.R.bind, ofO, isinst, truth, Py.R.test, Py.R.lay, lay, Py.R.toO, Py.O.then, asg, items, listOf, index, setIx, built1, built2, lenOf, cmpop, binop, augop, ordX, ltv, ltvs, alikeD, alikesD, D.isNon, keyed, isin, tr, trX, trL, eqv, eqvs, btype, bmok, bmeth, boolsOf, atI, ixN, small, hr, hl, hz]
theorem draw1 {g1 : G} {cf : Cf} {many a1 p1 m : Int} (hlr : l ≠ r) (hl1 : g1[l]? = some (.lst (ns.map D.int))) (ha1 : 0 ≤ a1) (hp1 : 0 ≤ p1) (hm : 0 ≤ m) (hr1 : g1[r]? = some (.lst [.ref l, .int a1, .int p1, .int m])) (h0 : 0 < many) (hb : many < 1073741824) :
    ∃ v g', (evSs T cf (ss1 drawB) [some (.ref r), some (.int many), none] g1) = .rt (.int v) g' ∧ 0 ≤ v ∧ v < many ∧ Strm ns l r g' ∧ Keep r g1 g' := by
  by_cases hz : a1 = 0
  · subst hz
    have hr2 : (g1.set r (.lst [.ref l, .int 0, .int p1, .int ((m * 48271 + 11) % 2147483647)]))[r]? = _ := set_self hr1
    refine ⟨((m * 48271 + 11) % 2147483647 / 97) % many, g1.set r (.lst [.ref l, .int 0, .int p1, .int ((m * 48271 + 11) % 2147483647)]), ?_, (emod_lt h0).1, (emod_lt h0).2, ⟨hlr, set_keep l _ hlr hl1, 0, p1, (m * 48271 + 11) % 2147483647, by omega, hp1, (emod_lt (by decide)).1, hr2⟩, set_keep⟩
    simp [drawB, ss1, evSs, evS, ev, evs, evI, Py.R.bind, ofO, isinst, truth, Py.R.test, Py.R.lay, lay, Py.R.toO, Py.O.then, asg, items, listOf, index, setIx, built1, built2, lenOf, cmpop, binop, augop, ordX, ltv, ltvs, alikeD, alikesD, D.isNon, keyed, isin, tr, trX, trL, eqv, eqvs, btype, bmok, bmeth, boolsOf, atI, ixN, small, hr1, hr2, h0]
  · have hr2 : (g1.set r (.lst [.ref l, .int (a1 / many), .int p1, .int m]))[r]? = _ := set_self hr1
    refine ⟨a1 % many, g1.set r (.lst [.ref l, .int (a1 / many), .int p1, .int m]), ?_, (emod_lt h0).1, (emod_lt h0).2, ⟨hlr, set_keep l _ hlr hl1, a1 / many, p1, m, Int.ediv_nonneg ha1 (by omega), hp1, hm, hr2⟩, set_keep⟩
    simp [drawB, ss1, evSs, evS, ev, evs, evI, Py.R.bind, ofO, isinst, truth, Py.R.test, Py.R.lay, lay, Py.R.toO, Py.O.then, asg, items, listOf, index, setIx, built1, built2, lenOf, cmpop, binop, augop, ordX, ltv, ltvs, alikeD, alikesD, D.isNon, keyed, isin, tr, trX, trL, eqv, eqvs, btype, bmok, bmeth, boolsOf, atI, ixN, small, hr1, hr2, h0, hz, hb]
theorem draw_ {k f : Nat} {many : Int} (hF : T.fn f = some drawF) (s : Strm ns l r g) (h0 : 0 < many) (h1 : many ≤ 1000000000) : ∃ v g', runF T (k + 1) f [.ref r, .int many] g = .ok (.int v) g' ∧ 0 ≤ v ∧ v < many ∧ Strm ns l r g' ∧ Keep r g g' := by
  obtain ⟨hlr, hl, a, p, m, ha, hp, hm, hr⟩ := s
  obtain ⟨g1, a1, p1, e1, k1, ha1, hp1, hr1⟩ := draw0 (T := T) (cf := runF T k) (many := many) hlr hl ha hp hr
  obtain ⟨v, g', e2, h2, h3, s', k2⟩ := draw1 (T := T) (cf := runF T k) (many := many) hlr (k1 l _ hlr hl) ha1 hp1 hm hr1 h0 (by omega)
  refine ⟨v, g', ?_, h2, h3, s', k1.trans k2⟩
  exact runF_rt hF rfl ((run_ss e1 rfl).trans e2)
theorem stream_ {k f : Nat} (hF : T.fn f = some streamF) (hn : ns.length ≤ 63) : ∃ g, runF T (k + 1) f [.ls (ns.map D.int)] [] = .ok (.ref 1) g ∧ Strm ns 0 1 g := by
  obtain ⟨L', g', e, m, d, hm, rfl, rfl⟩ : ∃ L' g', loopF (.vals (ns.map D.int)) (.nm 2) (fun L g => evSs T (runF T k) streamB0 L g) fuel 0 [some (.ls (ns.map D.int)), some (.int 17), none] [] = .nx L' g' ∧ ∃ m d, 0 ≤ m ∧ L' = [some (.ls (ns.map D.int)), some (.int m), d] ∧ g' = [] := by
    refine loopF_ind (n := ns.length) (fun i L g => ∃ m d, 0 ≤ m ∧ L = [some (.ls (ns.map D.int)), some (.int m), d] ∧ g = []) (fun i L g hi p => ?_) (fun L g p => by simp [turn]) fuel 0 _ _ (Nat.zero_le _) (by unfold fuel; omega) ⟨17, none, by decide, rfl, rfl⟩
    obtain ⟨m, d, hm, rfl, rfl⟩ := p
    refine ⟨.int ns[i], _, by simp [turn, hi], rfl, _, [], .inl ?_, (m * 48271 + ns[i] % 65521 + 1) % 2147483647, some (.int ns[i]), (emod_lt (by decide)).1, rfl, rfl⟩
    simp [streamB0, evSs, evS, ev, evs, evI, Py.R.bind, ofO, isinst, truth, Py.R.test, Py.R.lay, lay, Py.R.toO, Py.O.then, asg, items, listOf, index, setIx, built1, built2, lenOf, cmpop, binop, augop, ordX, ltv, ltvs, alikeD, alikesD, D.isNon, keyed, isin, tr, trX, trL, eqv, eqvs, btype, bmok, bmeth, boolsOf, atI, ixN, small]
  have h1 : evS T (runF T k) streamL [some (.ls (ns.map D.int)), some (.int 17), none] [] = .nx [some (.ls (ns.map D.int)), some (.int m), d] [] := ev_for (g1 := []) (by simp [evSs, evS, ev, evs, evI, Py.R.bind, ofO, isinst, truth, Py.R.test, Py.R.lay, lay, Py.R.toO, Py.O.then, asg, items, listOf, index, setIx, built1, built2, lenOf, cmpop, binop, augop, ordX, ltv, ltvs, alikeD, alikesD, D.isNon, keyed, isin, tr, trX, trL, eqv, eqvs, btype, bmok, bmeth, boolsOf, atI, ixN, small]) e
  refine ⟨[.lst (ns.map .int), .lst [.ref 0, .int 0, .int 0, .int m]], runF_rt hF rfl ?_, by decide, rfl, 0, 0, m, by decide, by decide, hm, rfl⟩
  simp [streamF, evSs, evS, ev, evs, evI, Py.R.bind, ofO, isinst, truth, Py.R.test, Py.R.lay, lay, Py.R.toO, Py.O.then, asg, items, listOf, index, setIx, built1, built2, lenOf, cmpop, binop, augop, ordX, ltv, ltvs, alikeD, alikesD, D.isNon, keyed, isin, tr, trX, trL, eqv, eqvs, btype, bmok, bmeth, boolsOf, atI, ixN, small, h1, line]
end
/-! ### range -/
theorem rng1 {T : Tb} {cf : Cf} {a : E} {L : Lc} {g g1 : G} {j : Int} (h : ev T cf a L g = .ok (.d (.int j)) g1) (h1 : -(2 ^ 62) ≤ j) (h2 : j < 2 ^ 62) : evI T cf (.rng (.cons a .nil)) L g = .ok (.rng 0 j.toNat) g1 := by
  rw [evI, h]
  show (if decide (-(2 ^ 62) ≤ j) && decide (j < 2 ^ 62) then _ else _) = _
  rw [if_pos (by rw [decide_eq_true h1, decide_eq_true h2]; rfl)]
theorem rng1n {T : Tb} {cf : Cf} {a : E} {L : Lc} {g g1 : G} {n : Nat} (h : ev T cf a L g = .ok (.d (.int (n : Nat))) g1) (h1 : n ≤ 16777216) : evI T cf (.rng (.cons a .nil)) L g = .ok (.rng 0 n) g1 := by
  have := rng1 h (by omega) (by omega)
  rwa [Int.toNat_natCast] at this
/-! ### slices -/
theorem sIx_nat {m d n : Nat} (h : n ≤ m) : sIx m d (some (n : Int)) = n := by
  have : ¬ (n : Int) < 0 := by omega
  unfold sIx
  simp only
  rw [if_neg this, Int.toNat_natCast]
  omega
theorem cut_to {α : Type} {xs : List α} {n : Nat} (h : n ≤ xs.length) : cut xs none (some (n : Int)) = xs.take n := by
  unfold cut
  rw [sIx_nat h]
  rfl
theorem cut_from {α : Type} {xs : List α} {n : Nat} (h : n ≤ xs.length) : cut xs (some (n : Int)) none = xs.drop n := by
  unfold cut
  rw [sIx_nat h]
  show (xs.drop n).take (xs.length - n) = _
  rw [List.take_of_length_le (by simp)]
/-! ### while -/
/-- a while by a measure: it ends, or a turn of it returns -/
theorem loopW_ind {c : Lc → G → R Bool} {body : Lc → G → O} {Q : O → Prop} (P : Nat → Lc → G → Prop)
    (step : ∀ m L g, P m L g → (∃ g1, c L g = .ok false g1 ∧ Q (.nx L g1)) ∨ ∃ g1, c L g = .ok true g1 ∧ ((∃ m' L2 g2, (body L g1 = .nx L2 g2 ∨ body L g1 = .ct L2 g2) ∧ m' < m ∧ P m' L2 g2) ∨ (∃ d g2, body L g1 = .rt d g2 ∧ Q (.rt d g2)) ∨ (∃ L2 g2, body L g1 = .br L2 g2 ∧ Q (.nx L2 g2)) ∨ ∃ x L2 g2, body L g1 = .ex x L2 g2 ∧ Q (.ex x L2 g2))) :
    ∀ (n m : Nat) (L : Lc) (g : G), m < n → P m L g → Q (loopW c body n L g)
  | 0, m, L, g, h, _ => by omega
  | n + 1, m, L, g, h, p => by
    rcases step m L g p with ⟨g1, e, q⟩ | ⟨g1, e, h2⟩
    · simp only [loopW, e]; exact q
    · rcases h2 with ⟨m', L2, g2, e2, hm, p'⟩ | ⟨d, g2, e2, q⟩ | ⟨L2, g2, e2, q⟩ | ⟨x, L2, g2, e2, q⟩
      · have ih := loopW_ind P step n m' L2 g2 (by omega) p'
        rcases e2 with e2 | e2 <;> simp only [loopW, e, e2] <;> exact ih
      · simp only [loopW, e, e2]; exact q
      · simp only [loopW, e, e2]; exact q
      · simp only [loopW, e, e2]; exact q
end Py
set_option linter.all false
namespace Py
/-! ### a table's lists -/
structure TL where
  fns : List Fn
  gls : List (Option D)
  gds : List (Option (List (Tx × D)))
  inis : List (Option Nat)
  mts : List (List (Nat × Nat))
  subs : List (List Nat)
/-- the classes' facts, the table by its lists -/
def excAt (t : TL) (c : Nat) : Bool := decide (c < t.subs.length) && ((t.inis[c]?).bind id).isNone
def TL.tb (t : TL) : Tb where
  fn k := t.fns[k]?
  ini C := (t.inis[C]?).bind id
  mt C m := (t.mts[C]?).bind (List.lookup m)
  sub c d := if excAt t c && excAt t d then some (((t.subs[c]?).getD []).contains d) else none
  gl i := (t.gls[i]?).bind id
  gd i := (t.gds[i]?).bind id
end Py
set_option linter.all false
set_option maxRecDepth 100000
namespace K06
open Py
/-- parts_of: 0 node -/
def fn0 : Fn := ⟨1, 1, (.cons (.ifs (.cmp .eq (.ix (.v 0) (.c (.int 0))) (.c (.str ['t', 'u', 'p', 'l', 'e']))) (.cons (.ret (.ix (.v 0) (.c (.int 2)))) .nil) .nil) (.cons (.ret (.tup .nil)) .nil))⟩
/-- head_of: 0 node -/
def fn1 : Fn := ⟨1, 1, (.cons (.ifs (.cmp .eq (.ix (.v 0) (.c (.int 0))) (.c (.str ['t', 'u', 'p', 'l', 'e']))) (.cons (.ret (.tup (.cons (.c (.str ['t', 'u', 'p', 'l', 'e'])) (.cons (.ix (.v 0) (.c (.int 1))) (.cons (.bi .len (.cons (.ix (.v 0) (.c (.int 2))) .nil)) .nil))))) .nil) .nil) (.cons (.ret (.v 0)) .nil))⟩
def fn2_c0 : E := .comp (.nm 2) (.it (.v 0)) (.c (.bl true)) (.bm .setdefault (.v 1) (.cons (.v 2) (.cons (.bi .len (.cons (.v 1) .nil)) .nil)))
/-- numbered: 0 keys 1 table 2 key -/
def fn2 : Fn := ⟨1, 3, (.cons (.set (.nm 1) .dnt) (.cons (.ret fn2_c0) .nil))⟩
def fn3_c0 : E := .comp (.nm 6) (.it (.call 0 (.cons (.v 5) .nil))) (.c (.bl true)) (.ix (.v 1) (.v 6))
def fn3_b1 : Ss := (.cons (.ex (.bm .append (.v 3) (.cons (.bin .add (.tup (.cons (.ix (.v 1) (.v 4)) .nil)) (.bi .tuple (.cons fn3_c0 .nil))) .nil))) .nil)
def fn3_l2 : S := .for (.tp [4, 5]) (.enum (.v 0)) fn3_b1
def fn3_b3 : Ss := (.cons (.set (.nm 2) (.lenset (.v 1))) (.cons (.ifs (.cmp .gt (.v 2) (.g 0)) (.cons (.raise 1) .nil) .nil) (.cons (.set (.nm 3) (.lst .nil)) (.cons fn3_l2 (.cons (.set (.nm 1) (.call 2 (.cons (.v 3) .nil))) .nil)))))
def fn3_w4 : S := .whl (.cmp .gt (.lenset (.v 1)) (.v 2)) fn3_b3
def fn3_c5 : E := .comp (.nm 5) (.it (.v 0)) (.c (.bl true)) (.call 1 (.cons (.v 5) .nil))
/-- classes: 0 graph 1 found 2 count 3 keys 4 at 5 node 6 part -/
def fn3 : Fn := ⟨1, 7, (.cons (.set (.nm 1) (.call 2 (.cons fn3_c5 .nil))) (.cons (.set (.nm 2) (.c (.int 0))) (.cons fn3_w4 (.cons (.ret (.v 1)) .nil))))⟩
def fn4_c0 : E := .comp (.nm 8) (.it (.ix (.v 7) (.c (.int 2)))) (.c (.bl true)) (.ix (.v 2) (.ix (.v 1) (.v 8)))
def fn4_b1 : Ss := (.cons (.set (.nm 7) (.ix (.v 0) (.v 6))) (.cons (.ifs (.cmp .eq (.ix (.v 7) (.c (.int 0))) (.c (.str ['t', 'u', 'p', 'l', 'e']))) (.cons (.set (.nm 7) (.tup (.cons (.c (.str ['t', 'u', 'p', 'l', 'e'])) (.cons (.ix (.v 7) (.c (.int 1))) (.cons (.bi .tuple (.cons fn4_c0 .nil)) .nil))))) .nil) .nil) (.cons (.ex (.bm .append (.v 5) (.cons (.v 7) .nil))) .nil)))
def fn4_l2 : S := .for (.nm 6) (.it (.v 3)) fn4_b1
def fn4_b3 : Ss := (.cons (.set (.nm 6) (.bm .pop (.v 4) .nil)) (.cons (.ifs (.cmp .notin (.ix (.v 1) (.v 6)) (.v 2)) (.cons (.setI (.v 2) (.ix (.v 1) (.v 6)) (.bi .len (.cons (.v 3) .nil))) (.cons (.ex (.bm .append (.v 3) (.cons (.v 6) .nil))) (.cons (.ex (.bm .extend (.v 4) (.cons (.rev (.call 0 (.cons (.ix (.v 0) (.v 6)) .nil))) .nil))) .nil))) .nil) .nil))
def fn4_w4 : S := .whl (.v 4) fn4_b3
/-- least: 0 graph 1 kinds 2 order 3 firsts 4 waiting 5 found 6 at 7 node 8 part -/
def fn4 : Fn := ⟨1, 9, (.cons (.set (.nm 1) (.call 3 (.cons (.v 0) .nil))) (.cons (.set (.nm 2) .dnk) (.cons (.set (.nm 3) (.lst .nil)) (.cons (.set (.nm 4) (.lst (.cons (.c (.int 0)) .nil))) (.cons fn4_w4 (.cons (.set (.nm 5) (.lst .nil)) (.cons fn4_l2 (.cons (.ret (.bi .tuple (.cons (.v 5) .nil))) .nil))))))))⟩
/-- checked: 0 graph 1 found -/
def fn5 : Fn := ⟨1, 2, (.cons (.set (.nm 1) (.call 4 (.cons (.v 0) .nil))) (.cons (.ifs (.cmp .gt (.bi .len (.cons (.v 1) .nil)) (.g 0)) (.cons (.raise 1) .nil) .nil) (.cons (.ret (.v 1)) .nil)))⟩
def fn6_b0 : Ss := (.cons (.set (.nm 10) (.tup (.cons (.v 9) (.cons (.bin .add (.v 7) (.c (.int 1))) .nil)))) (.cons (.ifs (.cmp .notin (.v 10) (.v 2)) (.cons (.setI (.v 2) (.v 10) (.bi .len (.cons (.v 3) .nil))) (.cons (.ex (.bm .append (.v 3) (.cons (.v 10) .nil))) .nil)) .nil) (.cons (.ex (.bm .append (.v 8) (.cons (.ix (.v 2) (.v 10)) .nil))) .nil)))
def fn6_l1 : S := .for (.nm 9) (.it (.ix (.ix (.v 0) (.v 6)) (.c (.int 2)))) fn6_b0
def fn6_b2 : Ss := (.cons (.set (.tp [6, 7]) (.ix (.v 3) (.v 5))) (.cons (.aug 5 .add (.c (.int 1))) (.cons (.ifs (.and (.cmp .eq (.ix (.ix (.v 0) (.v 6)) (.c (.int 0))) (.c (.str ['t', 'u', 'p', 'l', 'e']))) (.cmp .eq (.v 7) (.v 1))) (.cons (.ex (.bm .append (.v 4) (.cons (.tup (.cons (.c (.str ['a', 't', 'o', 'm'])) (.cons (.c (.str ['c', 'u', 't'])) .nil))) .nil))) .nil) (.cons (.ifs (.cmp .eq (.ix (.ix (.v 0) (.v 6)) (.c (.int 0))) (.c (.str ['t', 'u', 'p', 'l', 'e']))) (.cons (.set (.nm 8) (.lst .nil)) (.cons fn6_l1 (.cons (.ex (.bm .append (.v 4) (.cons (.tup (.cons (.c (.str ['t', 'u', 'p', 'l', 'e'])) (.cons (.ix (.ix (.v 0) (.v 6)) (.c (.int 1))) (.cons (.bi .tuple (.cons (.v 8) .nil)) .nil)))) .nil))) .nil))) (.cons (.ex (.bm .append (.v 4) (.cons (.ix (.v 0) (.v 6)) .nil))) .nil)) .nil)) .nil)))
def fn6_w3 : S := .whl (.cmp .lt (.v 5) (.bi .len (.cons (.v 3) .nil))) fn6_b2
/-- cut: 0 graph 1 depth 2 order 3 rows 4 found 5 at 6 node 7 level 8 numbers 9 part 10 key -/
def fn6 : Fn := ⟨2, 11, (.cons (.set (.nm 2) (.dic (.cons (.tup (.cons (.c (.int 0)) (.cons (.c (.int 0)) .nil))) (.cons (.c (.int 0)) .nil)))) (.cons (.set (.nm 3) (.lst (.cons (.tup (.cons (.c (.int 0)) (.cons (.c (.int 0)) .nil))) .nil))) (.cons (.set (.nm 4) (.lst .nil)) (.cons (.set (.nm 5) (.c (.int 0))) (.cons fn6_w3 (.cons (.ret (.call 5 (.cons (.bi .tuple (.cons (.v 4) .nil)) .nil))) .nil))))))⟩
def fn7_b0 : Ss := (.cons (.set (.nm 1) (.bin .mod (.bi .int (.cons (.bin .add (.bin .add (.bin .mul (.v 1) (.c (.int 48271))) (.bin .mod (.bi .int (.cons (.v 2) .nil)) (.c (.int 65521)))) (.c (.int 1))) .nil)) (.c (.int 2147483647)))) .nil)
def fn7_l1 : S := .for (.nm 2) (.it (.v 0)) fn7_b0
/-- _law_stream: 0 script 1 mixed 2 cell -/
def fn7 : Fn := ⟨1, 3, (.cons (.set (.nm 1) (.c (.int 17))) (.cons fn7_l1 (.cons (.ret (.lst (.cons (.bi .list (.cons (.v 0) .nil)) (.cons (.c (.int 0)) (.cons (.c (.int 0)) (.cons (.v 1) .nil)))))) .nil)))⟩
/-- _law_draw: 0 stream 1 many 2 value -/
def fn8 : Fn := ⟨2, 3, (.cons (.ifs (.and (.cmp .eq (.ix (.v 0) (.c (.int 1))) (.c (.int 0))) (.cmp .lt (.ix (.v 0) (.c (.int 2))) (.bi .len (.cons (.ix (.v 0) (.c (.int 0))) .nil)))) (.cons (.setI (.v 0) (.c (.int 1)) (.bi .abs (.cons (.bi .int (.cons (.ix (.ix (.v 0) (.c (.int 0))) (.ix (.v 0) (.c (.int 2)))) .nil)) .nil))) (.cons (.setI (.v 0) (.c (.int 2)) (.bin .add (.ix (.v 0) (.c (.int 2))) (.c (.int 1)))) .nil)) .nil) (.cons (.ifs (.cmp .eq (.ix (.v 0) (.c (.int 1))) (.c (.int 0))) (.cons (.setI (.v 0) (.c (.int 3)) (.bin .mod (.bi .int (.cons (.bin .add (.bin .mul (.ix (.v 0) (.c (.int 3))) (.c (.int 48271))) (.c (.int 11))) .nil)) (.c (.int 2147483647)))) (.cons (.ret (.bin .mod (.bi .int (.cons (.bin .fdiv (.ix (.v 0) (.c (.int 3))) (.c (.int 97))) .nil)) (.v 1))) .nil)) .nil) (.cons (.set (.nm 2) (.bin .mod (.bi .int (.cons (.ix (.v 0) (.c (.int 1))) .nil)) (.v 1))) (.cons (.setI (.v 0) (.c (.int 1)) (.bin .fdiv (.ix (.v 0) (.c (.int 1))) (.v 1))) (.cons (.ret (.v 2)) .nil)))))⟩
def fn9_c0 : E := .comp (.nm 1) (.it (.v 0)) (.c (.bl true)) (.call 9 (.cons (.v 1) .nil))
/-- _law_is_pythons: 0 value 1 part -/
def fn9 : Fn := ⟨1, 2, (.cons (.ifs (.or (.isi (.v 0) .tuple) (.isi (.v 0) .list)) (.cons (.ret (.bi .all (.cons fn9_c0 .nil))) .nil) .nil) (.cons (.ret (.or (.cmp .is (.v 0) (.c (.non))) (.or (.isi (.v 0) .str) (.isi (.v 0) .int)))) .nil))⟩
/-- _law_given_back: 0 value -/
def fn10 : Fn := ⟨1, 1, (.cons (.ret (.ite (.call 9 (.cons (.v 0) .nil)) (.v 0) (.c (.str ['o', 'd', 'd'])))) .nil)⟩
/-- _law_far: 0 stream -/
def fn11 : Fn := ⟨1, 1, (.cons (.ifs (.cmp .gt (.call 8 (.cons (.v 0) (.cons (.c (.int 4)) .nil))) (.c (.int 0))) (.cons (.ret (.call 8 (.cons (.v 0) (.cons (.c (.int 3)) .nil)))) .nil) .nil) (.cons (.ret (.ix (.lst (.cons (.c (.int 10)) (.cons (.c (.int 12)) (.cons (.bin .pow (.c (.int 10)) (.c (.int 9))) (.cons (.call 8 (.cons (.v 0) (.cons (.bin .pow (.c (.int 10)) (.c (.int 9))) .nil))) .nil))))) (.call 8 (.cons (.v 0) (.cons (.c (.int 4)) .nil))))) .nil))⟩
def fn12_b0 : Ss := (.cons (.set (.nm 1) (.bin .add (.v 1) (.ix (.c (.str ['a', 'b', 'z', '0', '1', '9'])) (.call 8 (.cons (.v 0) (.cons (.c (.int 6)) .nil)))))) .nil)
def fn12_l1 : S := .for (.nm 2) (.rng (.cons (.call 8 (.cons (.v 0) (.cons (.c (.int 3)) .nil))) .nil)) fn12_b0
/-- _law_atom: 0 stream 1 atom 2 k -/
def fn12 : Fn := ⟨1, 3, (.cons (.ifs (.cmp .gt (.call 8 (.cons (.v 0) (.cons (.c (.int 3)) .nil))) (.c (.int 0))) (.cons (.ret (.ix (.lst (.cons (.c (.str ['a'])) (.cons (.c (.str ['b'])) (.cons (.c (.str ['n', 'i', 'l'])) (.cons (.c (.str ['x', '1'])) (.cons (.c (.str ['a', 'b', 'c', 'd', 'e', 'f', 'g', 'h', 'i', 'j', 'k', 'l'])) .nil)))))) (.call 8 (.cons (.v 0) (.cons (.c (.int 5)) .nil))))) .nil) .nil) (.cons (.set (.nm 1) (.ix (.c (.str ['a', 'b', 'z'])) (.call 8 (.cons (.v 0) (.cons (.c (.int 3)) .nil))))) (.cons fn12_l1 (.cons (.ret (.v 1)) .nil))))⟩
def fn13_c0 : E := .comp (.nm 4) (.rng (.cons (.ix (.lst (.cons (.c (.int 1)) (.cons (.c (.int 2)) (.cons (.c (.int 2)) (.cons (.c (.int 3)) (.cons (.c (.int 6)) .nil)))))) (.call 8 (.cons (.v 0) (.cons (.c (.int 5)) .nil)))) .nil)) (.c (.bl true)) (.call 8 (.cons (.v 0) (.cons (.v 1) .nil)))
/-- _law_node: 0 stream 1 many 2 pick 3 parts 4 k -/
def fn13 : Fn := ⟨2, 5, (.cons (.set (.nm 2) (.call 8 (.cons (.v 0) (.cons (.c (.int 9)) .nil)))) (.cons (.ifs (.cmp .eq (.v 2) (.c (.int 0))) (.cons (.ret (.tup (.cons (.c (.str ['v', 'a', 'r'])) (.cons (.call 11 (.cons (.v 0) .nil)) .nil)))) .nil) .nil) (.cons (.ifs (.cmp .eq (.v 2) (.c (.int 1))) (.cons (.ret (.tup (.cons (.c (.str ['i', 'n', 't'])) (.cons (.ix (.lst (.cons (.c (.int 0)) (.cons (.c (.int 1)) (.cons (.neg (.c (.int 1))) (.cons (.c (.int 7)) (.cons (.neg (.c (.int 12))) (.cons (.bin .pow (.c (.int 10)) (.c (.int 9))) (.cons (.neg (.bin .pow (.c (.int 10)) (.c (.int 9)))) .nil)))))))) (.call 8 (.cons (.v 0) (.cons (.c (.int 7)) .nil)))) .nil)))) .nil) .nil) (.cons (.ifs (.cmp .eq (.v 2) (.c (.int 2))) (.cons (.ret (.tup (.cons (.c (.str ['a', 't', 'o', 'm'])) (.cons (.call 12 (.cons (.v 0) .nil)) .nil)))) .nil) .nil) (.cons (.ifs (.cmp .eq (.v 2) (.c (.int 3))) (.cons (.ret (.tup (.cons (.c (.str ['n', 'a', 'm', 'e'])) (.cons (.call 12 (.cons (.v 0) .nil)) (.cons (.call 11 (.cons (.v 0) .nil)) .nil))))) .nil) .nil) (.cons (.set (.nm 3) fn13_c0) (.cons (.ret (.tup (.cons (.c (.str ['t', 'u', 'p', 'l', 'e'])) (.cons (.ix (.lst (.cons (.c (.str ['f'])) (.cons (.c (.str ['f'])) (.cons (.c (.str ['f', 'a'])) (.cons (.c (.str ['c', 'o', 'n', 's'])) (.cons (.c (.str ['c', 'e', 'l', 'l'])) .nil)))))) (.call 8 (.cons (.v 0) (.cons (.c (.int 5)) .nil)))) (.cons (.bi .tuple (.cons (.v 3) .nil)) .nil))))) .nil)))))))⟩
def fn14_c0 : E := .comp (.nm 3) (.rng (.cons (.v 2) .nil)) (.c (.bl true)) (.call 13 (.cons (.v 0) (.cons (.v 2) .nil)))
/-- _law_graph: 0 stream 1 most 2 many 3 k -/
def fn14 : Fn := ⟨2, 4, (.cons (.set (.nm 2) (.bin .add (.c (.int 1)) (.call 8 (.cons (.v 0) (.cons (.v 1) .nil))))) (.cons (.ret (.bi .tuple (.cons fn14_c0 .nil))) .nil))⟩
/-- _law_parts: 0 node -/
def fn15 : Fn := ⟨1, 1, (.cons (.ifs (.cmp .eq (.ix (.v 0) (.c (.int 0))) (.c (.str ['t', 'u', 'p', 'l', 'e']))) (.cons (.ret (.bi .list (.cons (.ix (.v 0) (.c (.int 2))) .nil))) .nil) .nil) (.cons (.ret (.lst .nil)) .nil))⟩
def fn16_c0 : E := .comp (.nm 8) (.it (.ix (.v 6) (.c (.int 2)))) (.c (.bl true)) (.ix (.v 1) (.v 8))
def fn16_b1 : Ss := (.cons (.set (.nm 7) (.v 6)) (.cons (.ifs (.cmp .eq (.ix (.v 6) (.c (.int 0))) (.c (.str ['t', 'u', 'p', 'l', 'e']))) (.cons (.set (.nm 7) (.bin .add (.slH (.v 6) (.c (.int 2))) (.bi .tuple (.cons fn16_c0 .nil)))) .nil) .nil) (.cons (.ifs (.cmp .notin (.v 7) (.v 4)) (.cons (.setI (.v 4) (.v 7) (.bi .len (.cons (.v 4) .nil))) .nil) .nil) (.cons (.ex (.bm .append (.v 5) (.cons (.ix (.v 4) (.v 7)) .nil))) .nil))))
def fn16_l2 : S := .for (.nm 6) (.it (.v 0)) fn16_b1
def fn16_b3 : Ss := (.cons (.set (.nm 2) (.v 3)) (.cons (.set (.nm 4) .dnt) (.cons (.set (.nm 5) (.lst .nil)) (.cons fn16_l2 (.cons (.set (.nm 1) (.v 5)) (.cons (.set (.nm 3) (.bi .len (.cons (.v 4) .nil))) .nil))))))
def fn16_w4 : S := .whl (.cmp .gt (.v 3) (.v 2)) fn16_b3
/-- _law_kinds: 0 graph 1 kinds 2 before 3 count 4 table 5 found 6 node 7 key 8 part -/
def fn16 : Fn := ⟨1, 9, (.cons (.set (.nm 1) (.bin .mul (.lst (.cons (.c (.int 0)) .nil)) (.bi .len (.cons (.v 0) .nil)))) (.cons (.set (.nm 2) (.c (.int 0))) (.cons (.set (.nm 3) (.c (.int 1))) (.cons fn16_w4 (.cons (.ret (.v 1)) .nil)))))⟩
def fn17_b0 : Ss := (.cons (.ex (.call 17 (.cons (.v 0) (.cons (.v 1) (.cons (.v 4) (.cons (.v 3) .nil)))))) .nil)
def fn17_l1 : S := .for (.nm 4) (.it (.call 15 (.cons (.ix (.v 0) (.v 2)) .nil))) fn17_b0
/-- _law_met: 0 graph 1 kinds 2 at 3 found 4 part -/
def fn17 : Fn := ⟨4, 5, (.cons (.ifs (.cmp .isin (.ix (.v 1) (.v 2)) (.v 3)) (.cons (.ret (.c (.non))) .nil) .nil) (.cons (.setI (.v 3) (.ix (.v 1) (.v 2)) (.tup (.cons (.bi .len (.cons (.v 3) .nil)) (.cons (.v 2) .nil)))) (.cons fn17_l1 (.cons (.ret (.c (.non))) .nil))))⟩
def fn18_c0 : E := .comp (.nm 6) (.it (.ix (.v 5) (.c (.int 2)))) (.c (.bl true)) (.ix (.ix (.v 2) (.ix (.v 1) (.v 6))) (.c (.int 0)))
def fn18_b1 : Ss := (.cons (.set (.nm 5) (.ix (.v 0) (.ix (.ix (.v 2) (.v 4)) (.c (.int 1))))) (.cons (.ifs (.cmp .eq (.ix (.v 5) (.c (.int 0))) (.c (.str ['t', 'u', 'p', 'l', 'e']))) (.cons (.set (.nm 5) (.bin .add (.slH (.v 5) (.c (.int 2))) (.tup (.cons (.bi .tuple (.cons fn18_c0 .nil)) .nil)))) .nil) .nil) (.cons (.ex (.bm .append (.v 3) (.cons (.v 5) .nil))) .nil)))
def fn18_l2 : S := .forD (.nm 4) 2 fn18_b1
/-- _law_least: 0 graph 1 kinds 2 found 3 rows 4 kind 5 node 6 part -/
def fn18 : Fn := ⟨1, 7, (.cons (.set (.nm 1) (.call 16 (.cons (.v 0) .nil))) (.cons (.set (.nm 2) .dnk) (.cons (.ex (.call 17 (.cons (.v 0) (.cons (.v 1) (.cons (.c (.int 0)) (.cons (.v 2) .nil)))))) (.cons (.set (.nm 3) (.lst .nil)) (.cons fn18_l2 (.cons (.ret (.bi .tuple (.cons (.v 3) .nil))) .nil))))))⟩
def fn19_c0 : E := .comp (.nm 6) (.it (.ix (.v 5) (.c (.int 2)))) (.c (.bl true)) (.bin .add (.v 6) (.bin .mul (.v 3) (.bin .add (.v 4) (.c (.int 1)))))
def fn19_b1 : Ss := (.cons (.ifs (.and (.cmp .eq (.ix (.v 5) (.c (.int 0))) (.c (.str ['t', 'u', 'p', 'l', 'e']))) (.cmp .eq (.v 4) (.v 1))) (.cons (.set (.nm 5) (.tup (.cons (.c (.str ['a', 't', 'o', 'm'])) (.cons (.c (.str ['c', 'u', 't'])) .nil)))) .nil) (.cons (.ifs (.cmp .eq (.ix (.v 5) (.c (.int 0))) (.c (.str ['t', 'u', 'p', 'l', 'e']))) (.cons (.set (.nm 5) (.bin .add (.slH (.v 5) (.c (.int 2))) (.tup (.cons (.bi .tuple (.cons fn19_c0 .nil)) .nil)))) .nil) .nil) .nil)) (.cons (.ex (.bm .append (.v 2) (.cons (.v 5) .nil))) .nil))
def fn19_l2 : S := .for (.nm 5) (.it (.v 0)) fn19_b1
def fn19_b3 : Ss := (.cons fn19_l2 .nil)
def fn19_l4 : S := .for (.nm 4) (.rng (.cons (.bin .add (.v 1) (.c (.int 1))) .nil)) fn19_b3
/-- _law_cut: 0 graph 1 depth 2 rows 3 many 4 level 5 node 6 part -/
def fn19 : Fn := ⟨2, 7, (.cons (.set (.nm 2) (.lst .nil)) (.cons (.set (.nm 3) (.bi .len (.cons (.v 0) .nil))) (.cons fn19_l4 (.cons (.ret (.call 18 (.cons (.bi .tuple (.cons (.v 2) .nil)) .nil))) .nil))))⟩
/-- _law_given: 0 told -/
def fn20 : Fn := ⟨1, 1, (.cons (.ifs (.or (.cmp .is (.v 0) (.c (.non))) (.and (.isi (.v 0) .tuple) (.cmp .isin (.slH (.v 0) (.c (.int 1))) (.tup (.cons (.tup (.cons (.c (.str ['r', 'e', 'f', 'u', 's', 'e', 'd'])) .nil)) (.cons (.tup (.cons (.c (.str ['l', 'a', 'r', 'g', 'e'])) .nil)) (.cons (.tup (.cons (.c (.str ['w', 'i', 'd', 'e'])) .nil)) .nil))))))) (.cons (.ret (.lst (.cons (.c (.str ['g', 'i', 'v', 'e', 'n'])) .nil))) .nil) .nil) (.cons (.ret (.v 0)) .nil))⟩
/-- _law_told: 0 graph 1 depth 2 e -/
def fn21 : Fn := ⟨2, 3, (.cons (.tryi (.cons (.ret (.call 20 (.cons (.call 10 (.cons (.call 6 (.cons (.v 0) (.cons (.v 1) .nil))) .nil)) .nil))) .nil) 1 2 0 (.cons (.ret (.tup (.cons (.c (.str ['r', 'e', 'f', 'u', 's', 'e', 'd'])) (.cons (.c (.str ['m', 'a', 'n', 'y'])) .nil)))) .nil) .nil) (.cons (.ret (.tup (.cons (.c (.str ['r', 'e', 'f', 'u', 's', 'e', 'd'])) (.cons (.c (.str ['w', 'r', 'o', 'n', 'g'])) .nil)))) .nil))⟩
def fn22_c0 : E := .comp (.nm 5) (.rng (.cons (.c (.int 6)) .nil)) (.c (.bl true)) (.bin .mod (.bi .int (.cons (.bin .add (.bin .add (.bin .mul (.v 3) (.bin .add (.v 5) (.c (.int 2)))) (.bin .mul (.c (.int 3)) (.v 5))) (.c (.int 1))) .nil)) (.v 2))
def fn22_b1 : Ss := (.cons (.set (.nm 4) fn22_c0) (.cons (.ex (.bm .append (.v 1) (.cons (.tup (.cons (.c (.str ['t', 'u', 'p', 'l', 'e'])) (.cons (.c (.str ['f'])) (.cons (.bi .tuple (.cons (.v 4) .nil)) .nil)))) .nil))) .nil))
def fn22_l2 : S := .for (.nm 3) (.rng (.cons (.v 2) .nil)) fn22_b1
/-- _law_wide: 0 stream 1 rows 2 many 3 k 4 parts 5 j -/
def fn22 : Fn := ⟨1, 6, (.cons (.set (.nm 1) (.lst .nil)) (.cons (.set (.nm 2) (.bin .add (.c (.int 90)) (.call 8 (.cons (.v 0) (.cons (.c (.int 40)) .nil))))) (.cons fn22_l2 (.cons (.setI (.v 1) (.c (.int 1)) (.tup (.cons (.c (.str ['a', 't', 'o', 'm'])) (.cons (.c (.str ['a'])) .nil)))) (.cons (.setI (.v 1) (.c (.int 2)) (.tup (.cons (.c (.str ['i', 'n', 't'])) (.cons (.c (.int 5)) .nil)))) (.cons (.ret (.bi .tuple (.cons (.v 1) .nil))) .nil))))))⟩
/-- law: 0 script 1 stream 2 graph 3 depth 4 due 5 actual -/
def fn23 : Fn := ⟨1, 6, (.cons (.set (.nm 1) (.call 7 (.cons (.v 0) .nil))) (.cons (.set (.nm 2) (.call 14 (.cons (.v 1) (.cons (.ix (.lst (.cons (.c (.int 7)) (.cons (.c (.int 7)) (.cons (.c (.int 7)) (.cons (.c (.int 20)) .nil))))) (.call 8 (.cons (.v 1) (.cons (.c (.int 4)) .nil)))) .nil)))) (.cons (.set (.nm 3) (.call 8 (.cons (.v 1) (.cons (.c (.int 7)) .nil)))) (.cons (.ifs (.cmp .eq (.call 8 (.cons (.v 1) (.cons (.c (.int 32)) .nil))) (.c (.int 0))) (.cons (.set (.nm 2) (.call 22 (.cons (.v 1) .nil))) (.cons (.set (.nm 3) (.bin .add (.c (.int 3)) (.call 8 (.cons (.v 1) (.cons (.c (.int 4)) .nil))))) .nil)) .nil) (.cons (.set (.nm 4) (.call 19 (.cons (.v 2) (.cons (.v 3) .nil)))) (.cons (.ifs (.cmp .gt (.bi .len (.cons (.v 4) .nil)) (.c (.int 400))) (.cons (.set (.nm 4) (.tup (.cons (.c (.str ['r', 'e', 'f', 'u', 's', 'e', 'd'])) (.cons (.c (.str ['m', 'a', 'n', 'y'])) .nil)))) .nil) .nil) (.cons (.set (.nm 5) (.call 21 (.cons (.v 2) (.cons (.v 3) .nil)))) (.cons (.ret (.cmp .eq (.v 5) (.v 4))) .nil))))))))⟩
def fns : List Fn := [fn0, fn1, fn2, fn3, fn4, fn5, fn6, fn7, fn8, fn9, fn10, fn11, fn12, fn13, fn14, fn15, fn16, fn17, fn18, fn19, fn20, fn21, fn22, fn23]
def gds : List (Option (List (Tx × D))) := [none]
/- globals: 0 MOST_NODES -/
def gls : List (Option D) := [some (.int 400)]
/- attributes:  -/
/- classes: 0 LeateverError 1 TooMany -/
def inis : List (Option Nat) := [none, none]
def mts : List (List (Nat × Nat)) := [[], []]
def subs : List (List Nat) := [[0], [1, 0]]
def TT : TL := ⟨fns, gls, gds, inis, mts, subs⟩
abbrev T : Tb := TT.tb
end K06
set_option linter.all false
set_option maxRecDepth 100000
set_option maxHeartbeats 1000000
/-! PlG: graphs: the program's numbered, classes, least, told once for any table. -/
namespace Py.Gr
/-- the heap as it was, below N -/
def Old (N : Nat) (g g' : G) : Prop := ∀ (n : Nat), n < N → g'[n]? = g[n]?
theorem Old.refl (N : Nat) (g : G) : Old N g g := fun _ _ => rfl
theorem Old.trans {N : Nat} {g g' g'' : G} (h : Old N g g') (h' : Old N g' g'') : Old N g g'' := fun n hn => (h' n hn).trans (h n hn)
theorem Old.push {N : Nat} {g : G} {os : List Ob} (h : N ≤ g.length) : Old N g (g ++ os) := fun n hn => by rw [List.getElem?_append_left (by omega)]
theorem Old.set {N : Nat} {g : G} {m : Nat} {o : Ob} (h : N ≤ m) : Old N g (g.set m o) := fun n hn => by rw [List.getElem?_set_ne (by omega)]
theorem Old.le {N M : Nat} {g g' : G} (h : Old N g g') (hM : M ≤ N) : Old M g g' := fun n hn => h n (by omega)
theorem Old.strm {N : Nat} {ns : List Int} {l r : Nat} {g g' : G} (h : Old N g g') (s : Strm ns l r g) (h1 : l < N) (h2 : r < N) : Strm ns l r g' := s.keep fun n o hn e => by
  rw [h n (by rcases hn with rfl | rfl <;> assumption)]
  exact e
theorem set_same {g : G} {n : Nat} {o : Ob} (h : g[n]? = some o) : g.set n o = g := by
  apply List.ext_getElem?
  intro m
  by_cases e : n = m
  · subst e
    rw [List.getElem?_set_self (List.getElem?_eq_some_iff.mp h).1, h]
  · rw [List.getElem?_set_ne e]
/-- a node -/
inductive Nd where
  | var (n : Int) | int (i : Int) | atom (a : Tx) | name (a : Tx) (n : Int) | tup (a : Tx) (ps : List Nat)
  deriving DecidableEq, Inhabited
def ndPs (ps : List Nat) : List D := ps.map fun p => .int (p : Nat)
def Nd.d : Nd → D
  | .var n => .tup [.str ['v', 'a', 'r'], .int n]
  | .int n => .tup [.str ['i', 'n', 't'], .int n]
  | .atom a => .tup [.str ['a', 't', 'o', 'm'], .str a]
  | .name a n => .tup [.str ['n', 'a', 'm', 'e'], .str a, .int n]
  | .tup a ps => .tup [.str ['t', 'u', 'p', 'l', 'e'], .str a, .tup (ndPs ps)]
def Nd.ok (m : Nat) : Nd → Prop
  | .tup _ ps => ps.length ≤ 100 ∧ ∀ p ∈ ps, p < m
  | _ => True
def Nd.ps : Nd → List Nat
  | .tup _ ps => ps
  | _ => []
theorem Nd.ok_ps {m : Nat} {x : Nd} (h : x.ok m) : x.ps.length ≤ 100 ∧ ∀ p ∈ x.ps, p < m := by
  cases x with
  | tup a ps => exact h
  | _ => exact ⟨by simp [Nd.ps], by simp [Nd.ps]⟩
/-! ### keys -/
abbrev KeyL := List KY
def kyD : KY → D
  | .i n => .int n
  | .s x => .str x
def kd (k : KeyL) : D := .tup (k.map kyD)
theorem keysOf_kd (k : KeyL) : keysOf (k.map kyD) = some k := by
  induction k with
  | nil => rfl
  | cons x r ih =>
    have : kyOf (kyD x) = some x := by cases x <;> rfl
    simp [keysOf, this, ih]
def addK (t : List KeyL) (k : KeyL) : List KeyL := if k ∈ t then t else t ++ [k]
def tabK (ks : List KeyL) : List KeyL := ks.foldl addK []
/-- the numbers of keys, as they are met -/
def num (ks : List KeyL) : List Nat := ks.map fun k => (tabK ks).idxOf k
theorem tabK_snoc (ks : List KeyL) (k : KeyL) : tabK (ks ++ [k]) = addK (tabK ks) k := by
  unfold tabK
  rw [List.foldl_append]
  rfl
theorem addK_idx {t : List KeyL} {k j : KeyL} (h : j ∈ t) : (addK t k).idxOf j = t.idxOf j := by
  unfold addK
  split
  · rfl
  · rw [List.idxOf_append, if_pos h]
theorem mem_addK {t : List KeyL} {k j : KeyL} : j ∈ addK t k ↔ j ∈ t ∨ j = k := by
  unfold addK
  split
  · rename_i h
    constructor
    · exact .inl
    · rintro (q | rfl)
      · exact q
      · exact h
  · simp
theorem mem_tabK {ks : List KeyL} {j : KeyL} : j ∈ tabK ks ↔ j ∈ ks := by
  have gen : ∀ (ks t : List KeyL), j ∈ ks.foldl addK t ↔ j ∈ t ∨ j ∈ ks := by
    intro ks
    induction ks with
    | nil => intro t; simp
    | cons k ks ih =>
      intro t
      rw [List.foldl_cons, ih, mem_addK]
      simp [or_assoc]
  have := gen ks []
  simpa [tabK] using this
theorem num_snoc (ks : List KeyL) (k : KeyL) : num (ks ++ [k]) = num ks ++ [(addK (tabK ks) k).idxOf k] := by
  unfold num
  rw [tabK_snoc, List.map_append]
  congr 1
  refine List.map_congr_left fun j hj => ?_
  exact addK_idx (mem_tabK.mpr hj)
theorem num_len (ks : List KeyL) : (num ks).length = ks.length := by simp [num]
theorem tabK_len : ∀ ks : List KeyL, (tabK ks).length ≤ ks.length := by
  have gen : ∀ (ks t : List KeyL), (ks.foldl addK t).length ≤ t.length + ks.length := by
    intro ks
    induction ks with
    | nil => intro t; simp
    | cons k ks ih =>
      intro t
      refine Nat.le_trans (ih _) ?_
      have : (addK t k).length ≤ t.length + 1 := by
        unfold addK
        split
        · omega
        · simp
      simp only [List.length_cons]
      omega
  intro ks
  have := gen ks []
  simpa [tabK] using this
/-- the table in the heap -/
def tbD (t : List KeyL) : List (KeyL × D) := t.zipIdx.map fun p => (p.1, .int (p.2 : Nat))
theorem tbD_look (t : List KeyL) (k : KeyL) : look k (tbD t) = if k ∈ t then some (.int (t.idxOf k : Nat)) else none := by
  have gen : ∀ (t : List KeyL) (n : Nat), look k ((t.zipIdx n).map fun p => (p.1, D.int (p.2 : Nat))) = if k ∈ t then some (.int ((t.idxOf k + n : Nat) : Int)) else none := by
    intro t
    induction t with
    | nil => intro n; rfl
    | cons j t ih =>
      intro n
      rw [List.zipIdx_cons, List.map_cons, look, List.idxOf_cons]
      by_cases h : j = k
      · subst h
        simp
      · rw [if_neg h, ih]
        have h2 : ¬ k = j := fun q => h q.symm
        have h3 : (j == k) = false := by simpa using h
        by_cases hm : k ∈ t
        · simp [hm, h3]
          omega
        · simp [hm, h2]
  exact gen t 0
theorem tbD_put {t : List KeyL} {k : KeyL} (h : k ∉ t) : putK k (.int (t.length : Nat)) (tbD t) = tbD (t ++ [k]) := by
  have hn : (tbD t).any (fun p => decide (p.1 = k)) = false := by
    rw [List.any_eq_false]
    intro p hp
    obtain ⟨q, hq, rfl⟩ := List.mem_map.mp hp
    have : q.1 ∈ t := by
      have := List.mem_zipIdx' hq
      obtain ⟨h1, h2⟩ := this
      rw [h2]
      exact List.getElem_mem _
    simp
    intro e
    rw [e] at this
    exact h this
  unfold putK
  rw [hn]
  simp [tbD, List.zipIdx_append]
theorem tbD_len (t : List KeyL) : (tbD t).length = t.length := by simp [tbD]
/-! ### numbered -/
def numberedC : E := .comp (.nm 2) (.it (.v 0)) (.c (.bl true)) (.bm .setdefault (.v 1) (.cons (.v 2) (.cons (.bi .len (.cons (.v 1) .nil)) .nil)))
def numberedF : Fn := ⟨1, 3, (.cons (.set (.nm 1) .dnt) (.cons (.ret numberedC) .nil))⟩
def natsD (l : List Nat) : List D := l.map fun n => .int (n : Nat)
theorem set_end (g : G) (x y : Ob) : (g ++ [x]).set g.length y = g ++ [y] := by
  rw [List.set_append_right _ _ (Nat.le_refl _)]
  simp
theorem end3 {g : G} {x y z : Ob} : (g ++ [x] ++ [y] ++ [z])[(g ++ [x]).length + 1]? = some z := by
  rw [List.getElem?_append_right (by simp)]
  simp
theorem numbered {T : Tb} {nb k : Nat} {g : G} {a : Nat} {ks : List KeyL} (hF : T.fn nb = some numberedF) (ha : g[a]? = some (.lst (ks.map kd))) (hl : ks.length ≤ 1000) :
    runF T (k + 1) nb [.ref a] g = .ok (.ref (g.length + 1)) (g ++ [.dt (tbD (tabK ks))] ++ [.lst (natsD (num ks))]) := by
  have hal := (List.getElem?_eq_some_iff.mp ha).1
  obtain ⟨acc, g', e, rfl, rfl⟩ : ∃ acc g', loopC (.lst a) (.nm 2) (fun L g => (ev T (runF T k) (.c (.bl true)) L g).test) (fun L g => (ev T (runF T k) (.bm .setdefault (.v 1) (.cons (.v 2) (.cons (.bi .len (.cons (.v 1) .nil)) .nil))) L g).lay) [some (.ref a), some (.ref g.length), none] fuel 0 [] (g ++ [.dt []]) = .ok acc g' ∧ acc = natsD (num (ks.take ks.length)) ∧ g' = g ++ [.dt (tbD (tabK (ks.take ks.length)))] := by
    refine loopC_ind (n := ks.length) (fun i acc g' => acc = natsD (num (ks.take i)) ∧ g' = g ++ [.dt (tbD (tabK (ks.take i)))]) (fun i acc g' hi ⟨e1, e2⟩ => ?_) (fun acc g' ⟨_, e2⟩ => ?_) fuel 0 [] (g ++ [.dt []]) (Nat.zero_le _) (by unfold fuel; omega) ⟨rfl, rfl⟩
    · subst e1 e2
      have tk : ks.take (i + 1) = ks.take i ++ [ks[i]] := by rw [List.take_add_one, List.getElem?_eq_getElem hi]; rfl
      have h1 : (g ++ [Ob.dt (tbD (tabK (ks.take i)))])[a]? = some (.lst (ks.map kd)) := by rw [List.getElem?_append_left hal]; exact ha
      have h2 : (g ++ [Ob.dt (tbD (tabK (ks.take i)))])[g.length]? = some (.dt (tbD (tabK (ks.take i)))) := by simp
      have hlt : (tabK (ks.take i)).length ≤ i := Nat.le_trans (tabK_len _) (by simp; omega)
      have hll : (tbD (tabK (ks.take i))).length < 16777216 := by rw [tbD_len]; omega
      have hll2 : (tbD (tabK (ks.take i))).length ≤ 16777216 := by omega
      refine ⟨kd ks[i], _, ?_, rfl, ?_, .inl ⟨.int (((addK (tabK (ks.take i)) ks[i]).idxOf ks[i] : Nat) : Int), g ++ [.dt (tbD (tabK (ks.take i)))], g ++ [.dt (tbD (tabK (ks.take (i + 1))))], by simp [evSs, evS, ev, evs, evI, Py.R.bind, ofO, isinst, truth, Py.R.test, Py.R.lay, lay, Py.R.toO, Py.O.then, asg, items, listOf, index, setIx, built1, built2, lenOf, cmpop, binop, augop, ordX, ltv, ltvs, alikeD, alikesD, D.isNon, keyed, isin, tr, trX, trL, eqv, eqvs, btype, bmok, bmeth, boolsOf, atI, ixN, small], ?_, ?_, rfl⟩⟩
      · simp [turn, h1, hi]
      · simp [natsD, num_len, line]
        omega
      · have k1 := keysOf_kd ks[i]
        have l1 := tbD_look (tabK (ks.take i)) ks[i]
        by_cases hm : ks[i] ∈ tabK (ks.take i)
        · rw [if_pos hm] at l1
          have ad : addK (tabK (ks.take i)) ks[i] = tabK (ks.take i) := by unfold addK; rw [if_pos hm]
          rw [tk, tabK_snoc, ad]
          simp [ev, evs, Py.R.bind, Py.R.lay, lay, ofO, asg, h2, built1, lenOf, keyed, hll, hll2, line, btype, bmok, bmeth, kd, k1, l1]
        · rw [if_neg hm] at l1
          have ad : addK (tabK (ks.take i)) ks[i] = tabK (ks.take i) ++ [ks[i]] := by unfold addK; rw [if_neg hm]
          have pt := tbD_put hm
          have ix : (tabK (ks.take i) ++ [ks[i]]).idxOf ks[i] = (tabK (ks.take i)).length := by rw [List.idxOf_append, if_neg hm]; simp
          rw [tk, tabK_snoc, ad, ix]
          have hlt2 : (tabK (ks.take i)).length < 16777216 := by omega
          simp [ev, evs, Py.R.bind, Py.R.lay, lay, ofO, asg, h2, built1, lenOf, keyed, hll, hll2, line, btype, bmok, bmeth, kd, k1, l1, pt, tbD_len, hlt2]
      · rw [tk, num_snoc]
        simp [natsD]
    · have h1 : g'[a]? = some (.lst (ks.map kd)) := by rw [e2, List.getElem?_append_left hal]; exact ha
      simp [turn, h1]
  rw [List.take_length] at e
  have e2 : ev T (runF T k) numberedC [some (.ref a), some (.ref g.length), none] (g ++ [.dt []]) = .ok (.tmp (natsD (num ks))) (g ++ [.dt (tbD (tabK ks))]) := by
    refine ev_comp (t := .nm 2) (s := .it (.v 0)) (c := .c (.bl true)) (e := .bm .setdefault (.v 1) (.cons (.v 2) (.cons (.bi .len (.cons (.v 1) .nil)) .nil))) (it := .lst a) (g1 := g ++ [.dt []]) ?_ e
    have h1 : (g ++ [Ob.dt []])[a]? = some (.lst (ks.map kd)) := by rw [List.getElem?_append_left hal]; exact ha
    simp [evI, ev, Py.R.bind, h1]
  refine runF_rt hF rfl ?_
  simp [numberedF, evSs, evS, ev, e2, Py.R.bind, Py.R.toO, Py.R.lay, Py.O.then, ofO, asg, lay]
/-! ### heads -/
def partsF : Fn := ⟨1, 1, (.cons (.ifs (.cmp .eq (.ix (.v 0) (.c (.int 0))) (.c (.str ['t', 'u', 'p', 'l', 'e']))) (.cons (.ret (.ix (.v 0) (.c (.int 2)))) .nil) .nil) (.cons (.ret (.tup .nil)) .nil))⟩
def headF : Fn := ⟨1, 1, (.cons (.ifs (.cmp .eq (.ix (.v 0) (.c (.int 0))) (.c (.str ['t', 'u', 'p', 'l', 'e']))) (.cons (.ret (.tup (.cons (.c (.str ['t', 'u', 'p', 'l', 'e'])) (.cons (.ix (.v 0) (.c (.int 1))) (.cons (.bi .len (.cons (.ix (.v 0) (.c (.int 2))) .nil)) .nil))))) .nil) .nil) (.cons (.ret (.v 0)) .nil))⟩
def Nd.hk : Nd → KeyL
  | .var n => [.s ['v', 'a', 'r'], .i n]
  | .int n => [.s ['i', 'n', 't'], .i n]
  | .atom a => [.s ['a', 't', 'o', 'm'], .s a]
  | .name a n => [.s ['n', 'a', 'm', 'e'], .s a, .i n]
  | .tup a ps => [.s ['t', 'u', 'p', 'l', 'e'], .s a, .i (ps.length : Nat)]
section
variable {T : Tb} {k : Nat} {g : G}
theorem parts_ {pt : Nat} (hF : T.fn pt = some partsF) (x : Nd) : runF T (k + 1) pt [x.d] g = .ok (.tup (ndPs x.ps)) g := by
  refine runF_rt hF rfl ?_
  cases x <;> simp [partsF, evSs, evS, ev, evs, evI, Py.R.bind, ofO, isinst, truth, Py.R.test, Py.R.lay, lay, Py.R.toO, Py.O.then, asg, items, listOf, index, setIx, built1, built2, lenOf, cmpop, binop, augop, ordX, ltv, ltvs, alikeD, alikesD, D.isNon, keyed, isin, tr, trX, trL, eqv, eqvs, btype, bmok, bmeth, boolsOf, atI, ixN, small, Nd.d, Nd.ps, ndPs, line]
theorem head_ {hd : Nat} (hF : T.fn hd = some headF) (x : Nd) (hx : x.ps.length ≤ 100) : runF T (k + 1) hd [x.d] g = .ok (kd x.hk) g := by
  refine runF_rt hF rfl ?_
  cases x with
  | tup a ps =>
    have h : ps.length ≤ line := by simp [Nd.ps] at hx; unfold line; omega
    simp [headF, evSs, evS, ev, evs, evI, Py.R.bind, ofO, isinst, truth, Py.R.test, Py.R.lay, lay, Py.R.toO, Py.O.then, asg, items, listOf, index, setIx, built1, built2, lenOf, cmpop, binop, augop, ordX, ltv, ltvs, alikeD, alikesD, D.isNon, keyed, isin, tr, trX, trL, eqv, eqvs, btype, bmok, bmeth, boolsOf, atI, ixN, small, Nd.d, Nd.hk, kd, kyD, ndPs, line]
  | _ => simp [headF, evSs, evS, ev, evs, evI, Py.R.bind, ofO, isinst, truth, Py.R.test, Py.R.lay, lay, Py.R.toO, Py.O.then, asg, items, listOf, index, setIx, built1, built2, lenOf, cmpop, binop, augop, ordX, ltv, ltvs, alikeD, alikesD, D.isNon, keyed, isin, tr, trX, trL, eqv, eqvs, btype, bmok, bmeth, boolsOf, atI, ixN, small, Nd.d, Nd.hk, kd, kyD, line]
end
def grD (A : List Nd) : D := .tup (A.map Nd.d)
structure Gok (A : List Nd) : Prop where
  len : A.length ≤ 910
  nd : ∀ x ∈ A, x.ok A.length
theorem at_gr {g : G} {A : List Nd} {i : Nat} {x : Nd} (h : A[i]? = some x) : index g (.d (grD A)) (.int (i : Nat)) = some x.d := by
  have hl := (List.getElem?_eq_some_iff.mp h).1
  have h2 : A[i] = x := (List.getElem?_eq_some_iff.mp h).2
  simp [index, grD, atI, ixN, hl, h2]
theorem at_ints {g : G} {n i : Nat} {l : List Nat} {v : Nat} (hg : g[n]? = some (.lst (natsD l))) (h : l[i]? = some v) : index g (.d (.ref n)) (.int (i : Nat)) = some (.int (v : Nat)) := by
  have hl := (List.getElem?_eq_some_iff.mp h).1
  have h2 : l[i] = v := (List.getElem?_eq_some_iff.mp h).2
  simp [index, hg, atI, ixN, natsD, hl, h2]
theorem intsOf_ints (l : List Nat) : intsOf (natsD l) = some (l.map fun n => ((n : Nat) : Int)) := by
  induction l with
  | nil => rfl
  | cons n l ih =>
    have e : natsD (n :: l) = .int (n : Nat) :: natsD l := rfl
    rw [e]
    simp only [intsOf, ih, List.map_cons, Option.map_some]
def dst (l : List Nat) : Nat := (l.map fun n => ((n : Nat) : Int)).eraseDups.length
theorem dst_le (l : List Nat) : dst l ≤ l.length := by
  unfold dst
  have gen : ∀ (n : Nat) (l : List Int), l.length ≤ n → l.eraseDups.length ≤ l.length := by
    intro n
    induction n with
    | zero => intro l h; have : l = [] := List.length_eq_zero_iff.mp (by omega); subst this; exact Nat.le_refl _
    | succ n ih =>
      intro l h
      cases l with
      | nil => exact Nat.le_refl _
      | cons x l =>
        rw [List.eraseDups_cons]
        simp only [List.length_cons] at h ⊢
        have h1 := List.length_filter_le (fun b => !b == x) l
        have h2 := ih (l.filter fun b => !b == x) (by omega)
        omega
  have := gen _ _ (Nat.le_refl (l.map fun n => ((n : Nat) : Int)).length)
  simpa using this
theorem lenset_ {T : Tb} {cf : Cf} {g : G} {L : Lc} {i n : Nat} {l : List Nat} (hL : L[i]? = some (some (.ref n))) (hg : g[n]? = some (.lst (natsD l))) (hl : l.length ≤ 4000) : ev T cf (.lenset (.v i)) L g = .ok (.d (.int (dst l : Nat))) g := by
  have h1 : lensetX g (.d (.ref n)) = some (dst l) := by
    simp only [lensetX, listOf, hg, Option.bind_some, intsOf_ints]
    rw [if_pos (by simpa using hl)]
    rfl
  simp [ev, hL, Py.R.bind, h1, ofO]
/-! ### classes -/
/-- a node's key, by its parts' classes -/
def ck (F : List Nat) (c : Nat) (x : Nd) : KeyL := .i (c : Nat) :: x.ps.map fun p => .i ((F[p]?.getD 0 : Nat) : Int)
def cks (F : List Nat) (A : List Nd) : List KeyL := (A.zipIdx).map fun p => ck F (F[p.2]?.getD 0) p.1
/-- the classes: n turns at most -/
def clsG (A : List Nd) : Nat → Nat → List Nat → List Nat
  | 0, _, F => F
  | n + 1, c, F => if c < dst F then clsG A n (dst F) (num (cks F A)) else F
/-- are there too many classes on the way -/
def clsX (A : List Nd) : Nat → Nat → List Nat → Bool
  | 0, _, _ => false
  | n + 1, c, F => if c < dst F then (if 400 < dst F then true else clsX A n (dst F) (num (cks F A))) else false
def tooM (A : List Nd) : Bool := clsX A (A.length + 1) 0 (num (A.map Nd.hk))
def cls (A : List Nd) : List Nat := clsG A (A.length + 1) 0 (num (A.map Nd.hk))
def clsE (pt : Nat) : E := .comp (.nm 6) (.it (.call pt (.cons (.v 5) .nil))) (.c (.bl true)) (.ix (.v 1) (.v 6))
def clsB1 (pt : Nat) : Ss := (.cons (.ex (.bm .append (.v 3) (.cons (.bin .add (.tup (.cons (.ix (.v 1) (.v 4)) .nil)) (.bi .tuple (.cons (clsE pt) .nil))) .nil))) .nil)
def clsL (pt : Nat) : S := .for (.tp [4, 5]) (.enum (.v 0)) (clsB1 pt)
def clsB (pt nb gM tm : Nat) : Ss := (.cons (.set (.nm 2) (.lenset (.v 1))) (.cons (.ifs (.cmp .gt (.v 2) (.g gM)) (.cons (.raise tm) .nil) .nil) (.cons (.set (.nm 3) (.lst .nil)) (.cons (clsL pt) (.cons (.set (.nm 1) (.call nb (.cons (.v 3) .nil))) .nil)))))
def clsW (pt nb gM tm : Nat) : S := .whl (.cmp .gt (.lenset (.v 1)) (.v 2)) (clsB pt nb gM tm)
def clsH (hd : Nat) : E := .comp (.nm 5) (.it (.v 0)) (.c (.bl true)) (.call hd (.cons (.v 5) .nil))
def classesF (pt hd nb gM tm : Nat) : Fn := ⟨1, 7, (.cons (.set (.nm 1) (.call nb (.cons (clsH hd) .nil))) (.cons (.set (.nm 2) (.c (.int 0))) (.cons (clsW pt nb gM tm) (.cons (.ret (.v 1)) .nil))))⟩
section
variable {T : Tb} {k : Nat} {g : G} {pt hd nb gM tm : Nat}
/-- one key -/
theorem cls_key {A : List Nd} {F : List Nat} {f q i : Nat} {x : Nd} {ks : List KeyL} {l2 : Option D} {l6 : Option D} (hP : T.fn pt = some partsF) (hf : g[f]? = some (.lst (natsD F))) (hq : g[q]? = some (.lst (ks.map kd))) (hfq : f ≠ q) (hx : A[i]? = some x) (hok : x.ok A.length) (hF : F.length = A.length) (hl : ks.length ≤ 1000) (hA : A.length ≤ 910) :
    evSs T (runF T (k + 1)) (clsB1 pt) [some (grD A), some (.ref f), l2, some (.ref q), some (.int (i : Nat)), some x.d, l6] g = .nx [some (grD A), some (.ref f), l2, some (.ref q), some (.int (i : Nat)), some x.d, l6] (g.set q (.lst ((ks ++ [ck F (F[i]?.getD 0) x]).map kd))) := by
  have hi := (List.getElem?_eq_some_iff.mp hx).1
  have hiF : F[i]? = some F[i] := List.getElem?_eq_getElem (by omega)
  obtain ⟨hp1, hp2⟩ := x.ok_ps hok
  have e1 := parts_ (k := k) (g := g) hP x
  have e2 : ev T (runF T (k + 1)) (clsE pt) [some (grD A), some (.ref f), l2, some (.ref q), some (.int (i : Nat)), some x.d, l6] g = .ok (.tmp ((ndPs x.ps).map fun d => match d with | .int p => .int ((F[p.toNat]?.getD 0 : Nat) : Int) | _ => .non)) g := by
    refine ev_comp (t := .nm 6) (s := .it (.call pt (.cons (.v 5) .nil))) (c := .c (.bl true)) (e := .ix (.v 1) (.v 6)) (it := .vals (ndPs x.ps)) (g1 := g) ?_ ?_
    · simp [evI, ev, evs, e1, Py.R.bind, Py.R.lay, lay, ofO]
    · refine loopC_map _ (by simp [ndPs, line]; omega) (fun L => by simp [ev, Py.R.test, truth, ofO, Py.R.bind]) fun d hd => ?_
      obtain ⟨p, hp, rfl⟩ := List.mem_map.mp hd
      have hpF : p < F.length := by have := hp2 p hp; omega
      have h1 : F[p]? = some F[p] := List.getElem?_eq_getElem hpF
      have h2 := at_ints hf h1
      simp [ev, h2, h1, Py.R.bind, Py.R.lay, lay, ofO]
  have e3 : index g (.d (.ref f)) (.int (i : Nat)) = some (.int (F[i] : Nat)) := at_ints hf hiF
  have e4 : kd (ck F (F[i]?.getD 0) x) = .tup (.int (F[i] : Nat) :: (ndPs x.ps).map fun d => match d with | .int p => .int ((F[p.toNat]?.getD 0 : Nat) : Int) | _ => .non) := by
    simp [kd, ck, kyD, ndPs, hiF]
  have ln : 1 ≤ line := by decide
  have ln2 : ((ndPs x.ps).map fun d => match d with | .int p => D.int ((F[p.toNat]?.getD 0 : Nat) : Int) | _ => .non).length + 1 ≤ line := by simp [ndPs, line]; omega
  have ln3 : ks.length < line := by unfold line; omega
  rw [List.map_append, List.map_singleton, e4]
  generalize ((ndPs x.ps).map fun d => match d with | .int p => D.int ((F[p.toNat]?.getD 0 : Nat) : Int) | _ => .non) = PS at e2 ln2 ⊢
  simp [clsB1, evSs, evS, ev, evs, e2, e3, hq, ln, ln2, ln3, Py.R.bind, Py.R.toO, Py.R.lay, Py.O.then, ofO, asg, lay, built1, items, binop, btype, bmok, bmeth, Nat.add_comm]
theorem cks_len (F : List Nat) (A : List Nd) : (cks F A).length = A.length := by simp [cks]
theorem cks_at {F : List Nat} {A : List Nd} {i : Nat} {x : Nd} (h : A[i]? = some x) : (cks F A)[i]? = some (ck F (F[i]?.getD 0) x) := by
  unfold cks
  rw [List.getElem?_map, List.getElem?_zipIdx, h]
  simp
theorem asg2 {g : G} {L : Lc} {i j : Nat} {a b : D} : asg (.tp [i, j]) (.tup [a, b]) g L = some ((L.set i (some a)).set j (some b)) := rfl
theorem cls_round {A : List Nd} {F : List Nat} {f q : Nat} {l2 l4 l5 l6 : Option D} (hP : T.fn pt = some partsF) (hf : g[f]? = some (.lst (natsD F))) (hq : g[q]? = some (.lst [])) (hfq : f ≠ q) (hA : Gok A) (hF : F.length = A.length) :
    ∃ m4 m5 m6, evS T (runF T (k + 1)) (clsL pt) [some (grD A), some (.ref f), l2, some (.ref q), l4, l5, l6] g = .nx [some (grD A), some (.ref f), l2, some (.ref q), m4, m5, m6] (g.set q (.lst ((cks F A).map kd))) := by
  have hlen := hA.len
  obtain ⟨L', g', e, ⟨m4, m5, m6, rfl⟩, eg⟩ : ∃ L' g', loopF (.enumT (A.map Nd.d)) (.tp [4, 5]) (fun L g => evSs T (runF T (k + 1)) (clsB1 pt) L g) fuel 0 [some (grD A), some (.ref f), l2, some (.ref q), l4, l5, l6] g = .nx L' g' ∧ ((∃ m4 m5 m6, L' = [some (grD A), some (.ref f), l2, some (.ref q), m4, m5, m6]) ∧ g' = g.set q (.lst (((cks F A).take A.length).map kd))) := by
    refine loopF_ind (n := A.length) (fun i L g' => (∃ m4 m5 m6, L = [some (grD A), some (.ref f), l2, some (.ref q), m4, m5, m6]) ∧ g' = g.set q (.lst (((cks F A).take i).map kd))) (fun i L g' hi ⟨⟨m4, m5, m6, eL⟩, eg⟩ => ?_) (fun L g p => by simp [turn]) fuel 0 _ g (Nat.zero_le _) (by unfold fuel; omega) ⟨⟨l4, l5, l6, rfl⟩, (set_same hq).symm⟩
    subst eL
    have hx : A[i]? = some A[i] := List.getElem?_eq_getElem hi
    have tk : (cks F A).take (i + 1) = (cks F A).take i ++ [ck F (F[i]?.getD 0) A[i]] := by rw [List.take_add_one, cks_at hx]; rfl
    have h1 : g'[f]? = some (.lst (natsD F)) := by rw [eg, List.getElem?_set_ne (Ne.symm hfq)]; exact hf
    have h2 : g'[q]? = some (.lst (((cks F A).take i).map kd)) := by rw [eg]; exact set_self hq
    have key := cls_key (k := k) (l2 := l2) (l6 := m6) hP h1 h2 hfq hx (hA.nd _ (List.getElem_mem hi)) hF (by simp; omega) hlen
    refine ⟨.tup [.int (i : Nat), A[i].d], _, by simp [turn, hi], asg2, _, _, .inl key, ⟨_, _, _, rfl⟩, ?_⟩
    rw [eg, List.set_set, tk]
  rw [show A.length = (cks F A).length from (cks_len F A).symm, List.take_length] at eg
  subst eg
  exact ⟨m4, m5, m6, ev_for (t := .tp [4, 5]) (s := .enum (.v 0)) (b := clsB1 pt) (it := .enumT (A.map Nd.d)) (g1 := g) (by simp [evI, ev, Py.R.bind, grD]) e⟩
/-- the loop of classes -/
theorem cls_loop {A : List Nd} {R : List Nat} {N : Nat} {l3 l4 l5 l6 : Option D} (hP : T.fn pt = some partsF) (hN : T.fn nb = some numberedF) (hM : T.gl gM = some (.int 400)) (hA : Gok A)
    {F : List Nat} {f c : Nat} (hf : g[f]? = some (.lst (natsD F))) (hfN : N ≤ f) (hF : F.length = A.length) (hc : c ≤ A.length) {n : Nat} (hn : A.length + 1 - c ≤ n) (hR : clsG A n c F = R) {X : Bool} (hX : clsX A n c F = X) :
    ∃ g', Old N g g' ∧ if X then ∃ L', evS T (runF T (k + 1)) (clsW pt nb gM tm) [some (grD A), some (.ref f), some (.int (c : Nat)), l3, l4, l5, l6] g = .ex ⟨tm, []⟩ L' g' else ∃ r, N ≤ r ∧ g'[r]? = some (.lst (natsD R)) ∧ R.length = A.length ∧ ∃ m2 m3 m4 m5 m6, evS T (runF T (k + 1)) (clsW pt nb gM tm) [some (grD A), some (.ref f), some (.int (c : Nat)), l3, l4, l5, l6] g = .nx [some (grD A), some (.ref r), m2, m3, m4, m5, m6] g' := by
  have hlen := hA.len
  have key := loopW_ind (c := fun L g => (ev T (runF T (k + 1)) (.cmp .gt (.lenset (.v 1)) (.v 2)) L g).test) (body := fun L g => evSs T (runF T (k + 1)) (clsB pt nb gM tm) L g)
    (Q := fun o => ∃ g', Old N g g' ∧ if X then ∃ L', o = .ex ⟨tm, []⟩ L' g' else ∃ r, N ≤ r ∧ g'[r]? = some (.lst (natsD R)) ∧ R.length = A.length ∧ ∃ m2 m3 m4 m5 m6, o = .nx [some (grD A), some (.ref r), m2, m3, m4, m5, m6] g')
    (fun m L g' => ∃ F f c l3 l4 l5 l6, L = [some (grD A), some (.ref f), some (.int (c : Nat)), l3, l4, l5, l6] ∧ g'[f]? = some (.lst (natsD F)) ∧ N ≤ f ∧ F.length = A.length ∧ c ≤ A.length ∧ (∃ n, A.length + 1 - c ≤ n ∧ clsG A n c F = R ∧ clsX A n c F = X) ∧ Old N g g' ∧ m = A.length - c)
    (fun m L g' ⟨F, f, c, l3, l4, l5, l6, eL, hf, hfN, hF, hc, ⟨n, hn, hR, hX⟩, ho, hm⟩ => ?_) fuel (A.length - c) _ g (by unfold fuel; omega) ⟨F, f, c, l3, l4, l5, l6, rfl, hf, hfN, hF, hc, ⟨n, hn, hR, hX⟩, .refl N g, rfl⟩
  · simpa only [clsW, evS] using key
  subst eL hm
  have hd := dst_le F
  have ls := lenset_ (T := T) (cf := runF T (k + 1)) (L := [some (grD A), some (.ref f), some (.int (c : Nat)), l3, l4, l5, l6]) (i := 1) rfl hf (by omega)
  have hfl := (List.getElem?_eq_some_iff.mp hf).1
  obtain ⟨n, rfl⟩ : ∃ n', n = n' + 1 := ⟨n - 1, by omega⟩
  rw [clsG] at hR
  rw [clsX] at hX
  by_cases hlt : c < dst F
  · rw [if_pos hlt] at hR hX
    right
    have t1 : cmpop g' .gt (.d (.int (dst F : Nat))) (.d (.int (c : Nat))) = some true := by simp [cmpop]; omega
    have cnd : (ev T (runF T (k + 1)) (.cmp .gt (.lenset (.v 1)) (.v 2)) [some (grD A), some (.ref f), some (.int (c : Nat)), l3, l4, l5, l6] g').test = .ok true g' := by rw [ev, ls]; simp [ev, t1, Py.R.bind, ofO, Py.R.test, truth]
    by_cases h400 : 400 < dst F
    · rw [if_pos h400] at hX
      subst hX
      have t2 : ∀ g : G, cmpop g .gt (.d (.int (dst F : Nat))) (.d (.int 400)) = some true := fun g => by simp [cmpop]; omega
      refine ⟨g', cnd, .inr (.inr (.inr ⟨⟨tm, []⟩, [some (grD A), some (.ref f), some (.int (dst F : Nat)), l3, l4, l5, l6], g', ?_, g', ho, by rw [if_pos rfl]; exact ⟨_, rfl⟩⟩))⟩
      rw [clsB, evSs, evS, ls]
      simp [evSs, evS, ev, evs, hM, t2, Py.R.bind, Py.R.toO, Py.R.lay, Py.R.test, truth, Py.O.then, ofO, asg, lay]
    rw [if_neg h400] at hX
    have t2 : ∀ g : G, cmpop g .gt (.d (.int (dst F : Nat))) (.d (.int 400)) = some false := fun g => by simp [cmpop]; omega
    refine ⟨g', cnd, .inl ?_⟩
    have h1 : (g' ++ [Ob.lst []])[f]? = some (.lst (natsD F)) := by rw [List.getElem?_append_left hfl]; exact hf
    have h2 : (g' ++ [Ob.lst []])[g'.length]? = some (.lst []) := by simp
    obtain ⟨m4, m5, m6, e3⟩ := cls_round (k := k) (pt := pt) (l2 := some (.int (dst F : Nat))) (l4 := l4) (l5 := l5) (l6 := l6) hP h1 h2 (Nat.ne_of_lt hfl) hA hF
    rw [set_end] at e3
    have h3 : (g' ++ [Ob.lst ((cks F A).map kd)])[g'.length]? = some (.lst ((cks F A).map kd)) := by simp
    have e4 := numbered (k := k) hN h3 (by rw [cks_len]; omega)
    have hl2 : (g' ++ [Ob.lst ((cks F A).map kd)]).length = g'.length + 1 := by simp
    have hb : N ≤ g'.length := by omega
    refine ⟨A.length - dst F, [some (grD A), some (.ref ((g' ++ [Ob.lst ((cks F A).map kd)]).length + 1)), some (.int (dst F : Nat)), some (.ref g'.length), m4, m5, m6], g' ++ [Ob.lst ((cks F A).map kd)] ++ [.dt (tbD (tabK (cks F A)))] ++ [.lst (natsD (num (cks F A)))], .inl ?_, by omega, num (cks F A), _, dst F, _, m4, m5, m6, rfl, ?_, by omega, by rw [num_len, cks_len], by omega, ⟨n, by omega, hR, hX⟩, ?_, rfl⟩
    · rw [clsB, evSs, evS, ls]
      simp [evSs, evS, ev, evs, e3, e4, hM, t2, Py.R.bind, Py.R.toO, Py.R.lay, Py.R.test, truth, Py.O.then, ofO, asg, lay]
    · exact end3
    · exact ((ho.trans (Old.push hb)).trans (Old.push (by simp; omega))).trans (Old.push (by simp; omega))
  · rw [if_neg hlt] at hR hX
    subst hR hX
    left
    have t1 : cmpop g' .gt (.d (.int (dst F : Nat))) (.d (.int (c : Nat))) = some false := by simp [cmpop]; omega
    exact ⟨g', by rw [ev, ls]; simp [ev, t1, Py.R.bind, ofO, Py.R.test, truth], g', ho, by rw [if_neg (by decide)]; exact ⟨f, hfN, hf, hF, _, _, _, _, _, rfl⟩⟩
theorem classes_x {A : List Nd} {cl : Nat} (hC : T.fn cl = some (classesF pt hd nb gM tm)) (hP : T.fn pt = some partsF) (hH : T.fn hd = some headF) (hN : T.fn nb = some numberedF) (hM : T.gl gM = some (.int 400)) (hA : Gok A) :
    ∃ g', Old g.length g g' ∧ if tooM A then runF T (k + 2) cl [grD A] g = .ex ⟨tm, []⟩ g' else ∃ r, runF T (k + 2) cl [grD A] g = .ok (.ref r) g' ∧ g.length ≤ r ∧ g'[r]? = some (.lst (natsD (cls A))) ∧ (cls A).length = A.length := by
  have hlen := hA.len
  have e1 : ev T (runF T (k + 1)) (clsH hd) [some (grD A), none, none, none, none, none, none] g = .ok (.tmp ((A.map Nd.hk).map kd)) g := by
    refine ev_comp (t := .nm 5) (s := .it (.v 0)) (c := .c (.bl true)) (e := .call hd (.cons (.v 5) .nil)) (it := .vals (A.map Nd.d)) (g1 := g) (by simp [evI, ev, Py.R.bind, grD]) ?_
    obtain ⟨acc, g', e, rfl, rfl⟩ : ∃ acc g', loopC (.vals (A.map Nd.d)) (.nm 5) (fun L g => (ev T (runF T (k + 1)) (.c (.bl true)) L g).test) (fun L g => (ev T (runF T (k + 1)) (.call hd (.cons (.v 5) .nil)) L g).lay) [some (grD A), none, none, none, none, none, none] fuel 0 [] g = .ok acc g' ∧ acc = ((A.take A.length).map Nd.hk).map kd ∧ g' = g := by
      refine loopC_ind (n := A.length) (fun i acc g' => acc = ((A.take i).map Nd.hk).map kd ∧ g' = g) (fun i acc g' hi ⟨e1, e2⟩ => ?_) (fun acc g' _ => by simp [turn]) fuel 0 [] g (Nat.zero_le _) (by unfold fuel; omega) ⟨rfl, rfl⟩
      subst e1 e2
      have h1 := head_ (k := k) (g := g') hH A[i] (A[i].ok_ps (hA.nd _ (List.getElem_mem hi))).1
      refine ⟨A[i].d, _, by simp [turn, hi], rfl, by simp [line]; omega, .inl ⟨kd A[i].hk, g', g', by simp [evSs, evS, ev, evs, evI, Py.R.bind, ofO, isinst, truth, Py.R.test, Py.R.lay, lay, Py.R.toO, Py.O.then, asg, items, listOf, index, setIx, built1, built2, lenOf, cmpop, binop, augop, ordX, ltv, ltvs, alikeD, alikesD, D.isNon, keyed, isin, tr, trX, trL, eqv, eqvs, btype, bmok, bmeth, boolsOf, atI, ixN, small], by simp [ev, evs, h1, Py.R.bind, Py.R.lay, lay, ofO], ?_, rfl⟩⟩
      rw [List.take_add_one, List.getElem?_eq_getElem hi, List.map_append, List.map_append]
      rfl
    rw [List.take_length] at e
    exact e
  have h2 : (g ++ [Ob.lst ((A.map Nd.hk).map kd)])[g.length]? = some (.lst ((A.map Nd.hk).map kd)) := by simp
  have e2 := numbered (k := k) hN h2 (by simp; omega)
  have h3 : (g ++ [Ob.lst ((A.map Nd.hk).map kd)] ++ [.dt (tbD (tabK (A.map Nd.hk)))] ++ [.lst (natsD (num (A.map Nd.hk)))])[(g ++ [Ob.lst ((A.map Nd.hk).map kd)]).length + 1]? = some (.lst (natsD (num (A.map Nd.hk)))) := end3
  obtain ⟨g', ho, h⟩ := cls_loop (k := k) (pt := pt) (nb := nb) (gM := gM) (tm := tm) (R := cls A) (X := tooM A) (N := g.length) (l3 := none) (l4 := none) (l5 := none) (l6 := none) (c := 0) hP hN hM hA h3 (by simp; omega) (by rw [num_len]; simp) (Nat.zero_le _) (n := A.length + 1) (by omega) rfl rfl
  refine ⟨g', ((((Old.push (Nat.le_refl _)).trans (Old.push (by simp))).trans (Old.push (by simp))).trans ho), ?_⟩
  by_cases hX : tooM A = true
  · rw [if_pos hX] at h ⊢
    obtain ⟨L', e3⟩ := h
    refine runF_ex (L := L') hC rfl ?_
    simp at e1 e2 e3
    simp [classesF, evSs, evS, ev, evs, e1, e2, e3, Py.R.bind, Py.R.toO, Py.R.lay, Py.O.then, ofO, asg, lay]
  · rw [if_neg hX] at h ⊢
    obtain ⟨r, hr, hg, hl, m2, m3, m4, m5, m6, e3⟩ := h
    refine ⟨r, runF_rt hC rfl ?_, hr, hg, hl⟩
    simp at e1 e2 e3
    simp [classesF, evSs, evS, ev, evs, e1, e2, e3, Py.R.bind, Py.R.toO, Py.R.lay, Py.O.then, ofO, asg, lay]
theorem clsX_small {A : List Nd} (h4 : A.length ≤ 400) : ∀ (n c : Nat) (F : List Nat), F.length = A.length → clsX A n c F = false
  | 0, _, _, _ => rfl
  | n + 1, c, F, hF => by
    have hd := dst_le F
    rw [clsX]
    split
    · rw [if_neg (by omega)]
      exact clsX_small h4 n _ _ (by rw [num_len, cks_len])
    · rfl
theorem tooM_small {A : List Nd} (h4 : A.length ≤ 400) : tooM A = false := clsX_small h4 _ _ _ (by rw [num_len]; simp)
theorem classes_ {A : List Nd} {cl : Nat} (hC : T.fn cl = some (classesF pt hd nb gM tm)) (hP : T.fn pt = some partsF) (hH : T.fn hd = some headF) (hN : T.fn nb = some numberedF) (hM : T.gl gM = some (.int 400)) (hA : Gok A) (hX : tooM A = false) :
    ∃ g' r, runF T (k + 2) cl [grD A] g = .ok (.ref r) g' ∧ Old g.length g g' ∧ g.length ≤ r ∧ g'[r]? = some (.lst (natsD (cls A))) ∧ (cls A).length = A.length := by
  obtain ⟨g', ho, h⟩ := classes_x (T := T) (k := k) (g := g) hC hP hH hN hM hA
  rw [if_neg (by simp [hX])] at h
  obtain ⟨r, h1, h2, h3, h4⟩ := h
  exact ⟨g', r, h1, ho, h2, h3, h4⟩
end
/-! ### least -/
/-- the first nodes of the classes, as they are met: the stack, those that were found -/
def firstsG (A : List Nd) (K : List Nat) : Nat → List Nat → List Nat → List Nat
  | 0, _, f => f
  | _ + 1, [], f => f
  | n + 1, a :: S, f => if K[a]?.getD 0 ∈ f.map (fun b => K[b]?.getD 0) then firstsG A K n S f else firstsG A K n ((A[a]?.getD (.var 0)).ps ++ S) (f ++ [a])
def firsts (A : List Nd) : List Nat := firstsG A (cls A) 100000 [0] []
def Nd.re (f : Nat → Nat) : Nd → Nd
  | .tup a ps => .tup a (ps.map f)
  | x => x
def leastL (A : List Nd) : List Nd := (firsts A).map fun a => (A[a]?.getD (.var 0)).re fun p => ((firsts A).map fun b => (cls A)[b]?.getD 0).idxOf ((cls A)[p]?.getD 0)
def lsC : E := .comp (.nm 8) (.it (.ix (.v 7) (.c (.int 2)))) (.c (.bl true)) (.ix (.v 2) (.ix (.v 1) (.v 8)))
def lsB1 : Ss := (.cons (.set (.nm 7) (.ix (.v 0) (.v 6))) (.cons (.ifs (.cmp .eq (.ix (.v 7) (.c (.int 0))) (.c (.str ['t', 'u', 'p', 'l', 'e']))) (.cons (.set (.nm 7) (.tup (.cons (.c (.str ['t', 'u', 'p', 'l', 'e'])) (.cons (.ix (.v 7) (.c (.int 1))) (.cons (.bi .tuple (.cons lsC .nil)) .nil))))) .nil) .nil) (.cons (.ex (.bm .append (.v 5) (.cons (.v 7) .nil))) .nil)))
def lsL : S := .for (.nm 6) (.it (.v 3)) lsB1
def lsB3 (pt : Nat) : Ss := (.cons (.set (.nm 6) (.bm .pop (.v 4) .nil)) (.cons (.ifs (.cmp .notin (.ix (.v 1) (.v 6)) (.v 2)) (.cons (.setI (.v 2) (.ix (.v 1) (.v 6)) (.bi .len (.cons (.v 3) .nil))) (.cons (.ex (.bm .append (.v 3) (.cons (.v 6) .nil))) (.cons (.ex (.bm .extend (.v 4) (.cons (.rev (.call pt (.cons (.ix (.v 0) (.v 6)) .nil))) .nil))) .nil))) .nil) .nil))
def lsW (pt : Nat) : S := .whl (.v 4) (lsB3 pt)
def leastF (pt cl : Nat) : Fn := ⟨1, 9, (.cons (.set (.nm 1) (.call cl (.cons (.v 0) .nil))) (.cons (.set (.nm 2) .dnk) (.cons (.set (.nm 3) (.lst .nil)) (.cons (.set (.nm 4) (.lst (.cons (.c (.int 0)) .nil))) (.cons (lsW pt) (.cons (.set (.nm 5) (.lst .nil)) (.cons lsL (.cons (.ret (.bi .tuple (.cons (.v 5) .nil))) .nil))))))))⟩
/-- the dict of numbers -/
def ordD (ks : List Nat) : List (KY × D) := ks.zipIdx.map fun p => (.i (p.1 : Nat), .int (p.2 : Nat))
theorem ord_look (ks : List Nat) (n : Nat) : look (KY.i (n : Nat)) (ordD ks) = if n ∈ ks then some (.int (ks.idxOf n : Nat)) else none := by
  have gen : ∀ (t : List Nat) (m : Nat), look (KY.i (n : Nat)) ((t.zipIdx m).map fun p => (KY.i (p.1 : Nat), D.int (p.2 : Nat))) = if n ∈ t then some (.int ((t.idxOf n + m : Nat) : Int)) else none := by
    intro t
    induction t with
    | nil => intro m; rfl
    | cons j t ih =>
      intro m
      rw [List.zipIdx_cons, List.map_cons, look, List.idxOf_cons]
      by_cases h : j = n
      · subst h
        simp
      · have h1 : ¬ KY.i ((j : Nat) : Int) = KY.i ((n : Nat) : Int) := fun q => h (by simp at q; omega)
        rw [if_neg h1, ih]
        have h2 : ¬ n = j := fun q => h q.symm
        have h3 : (j == n) = false := by simpa using h
        by_cases hm : n ∈ t
        · simp [hm, h3]
          omega
        · simp [hm, h2]
  exact gen ks 0
theorem ord_put {ks : List Nat} {n : Nat} (h : n ∉ ks) : putK (KY.i (n : Nat)) (.int (ks.length : Nat)) (ordD ks) = ordD (ks ++ [n]) := by
  have hn : (ordD ks).any (fun p => decide (p.1 = KY.i (n : Nat))) = false := by
    rw [List.any_eq_false]
    intro p hp
    obtain ⟨q, hq, rfl⟩ := List.mem_map.mp hp
    have : q.1 ∈ ks := by
      obtain ⟨h1, h2⟩ := List.mem_zipIdx' hq
      rw [h2]
      exact List.getElem_mem _
    simp
    intro e
    have : q.1 = n := by omega
    rw [← this] at h
    exact h ‹_›
  unfold putK
  rw [hn]
  simp [ordD, List.zipIdx_append]
theorem ord_len (ks : List Nat) : (ordD ks).length = ks.length := by simp [ordD]
section
variable {T : Tb} {k : Nat} {g : G} {pt : Nat}
/-- where the loop's things lie -/
structure LsAt (g : G) (K : List Nat) (kr o fi w : Nat) (f S : List Nat) : Prop where
  k_ : g[kr]? = some (.lst (natsD K))
  o_ : g[o]? = some (.dk (ordD (f.map fun b => K[b]?.getD 0)))
  f_ : g[fi]? = some (.lst (natsD f))
  w_ : g[w]? = some (.lst (natsD S.reverse))
structure Ap (kr o fi w : Nat) : Prop where
  a1 : kr ≠ o
  a2 : kr ≠ fi
  a3 : kr ≠ w
  a4 : o ≠ fi
  a5 : o ≠ w
  a6 : fi ≠ w
theorem ls_pop {A : List Nd} {K f S : List Nat} {kr o fi w a : Nat} {l5 l6 l7 l8 : Option D} (h : LsAt g K kr o fi w f (a :: S)) (p : Ap kr o fi w) :
    evS T (runF T (k + 1)) (ss0 (lsB3 pt)) [some (grD A), some (.ref kr), some (.ref o), some (.ref fi), some (.ref w), l5, l6, l7, l8] g = .nx [some (grD A), some (.ref kr), some (.ref o), some (.ref fi), some (.ref w), l5, some (.int (a : Nat)), l7, l8] (g.set w (.lst (natsD S.reverse))) ∧
      LsAt (g.set w (.lst (natsD S.reverse))) K kr o fi w f S := by
  have hw := h.w_
  have e1 : natsD (a :: S).reverse = natsD S.reverse ++ [.int (a : Nat)] := by simp [natsD]
  have e2 : (natsD (a :: S).reverse)[(natsD (a :: S).reverse).length - 1]? = some (.int (a : Nat)) := by rw [e1]; simp
  have e3 : (natsD (a :: S).reverse).dropLast = natsD S.reverse := by rw [e1]; simp
  refine ⟨?_, ⟨by rw [List.getElem?_set_ne (Ne.symm p.a3)]; exact h.k_, by rw [List.getElem?_set_ne (Ne.symm p.a5)]; exact h.o_, by rw [List.getElem?_set_ne (Ne.symm p.a6)]; exact h.f_, set_self hw⟩⟩
  generalize natsD (a :: S).reverse = xs at hw e2 e3
  simp [lsB3, ss0, evS, ev, evs, hw, e2, e3, Py.R.bind, Py.R.toO, Py.R.lay, Py.O.then, ofO, asg, lay, btype, bmok, bmeth]
theorem ls_turn {A : List Nd} {K f S : List Nat} {kr o fi w a : Nat} {l5 l6 l7 l8 : Option D} {x : Nd} (hP : T.fn pt = some partsF) (h : LsAt g K kr o fi w f (a :: S)) (p : Ap kr o fi w) (hx : A[a]? = some x) (hK : a < K.length) (hp : x.ps.length ≤ 100) (hf : f.length ≤ 1000) (hS : S.length ≤ 100000) :
    ∃ g', evSs T (runF T (k + 1)) (lsB3 pt) [some (grD A), some (.ref kr), some (.ref o), some (.ref fi), some (.ref w), l5, l6, l7, l8] g = .nx [some (grD A), some (.ref kr), some (.ref o), some (.ref fi), some (.ref w), l5, some (.int (a : Nat)), l7, l8] g' ∧ (∀ N, N ≤ o → N ≤ fi → N ≤ w → Old N g g') ∧
      if K[a]?.getD 0 ∈ f.map (fun b => K[b]?.getD 0) then LsAt g' K kr o fi w f S else LsAt g' K kr o fi w (f ++ [a]) (x.ps ++ S) := by
  obtain ⟨e0, h1⟩ := ls_pop (T := T) (k := k) (pt := pt) (A := A) (l5 := l5) (l6 := l6) (l7 := l7) (l8 := l8) h p
  have o1 : ∀ N, N ≤ w → Old N g (g.set w (.lst (natsD S.reverse))) := fun N hN => Old.set hN
  rw [run_ss e0 rfl]
  generalize g.set w (.lst (natsD S.reverse)) = g1 at h1 o1
  have hk : K[a]? = some K[a] := List.getElem?_eq_getElem hK
  have kd' : K[a]?.getD 0 = K[a] := by rw [hk]; rfl
  try rw [kd']
  have i1 : index g1 (.d (.ref kr)) (.int (a : Nat)) = some (.int (K[a] : Nat)) := at_ints h1.k_ hk
  have lk := ord_look (f.map fun b => K[b]?.getD 0) K[a]
  have is1 : isin g1 (.int (K[a] : Nat)) (.d (.ref o)) = some (decide (K[a] ∈ f.map fun b => K[b]?.getD 0)) := by
    simp only [isin, keyed, h1.o_, kyOf, Option.map_some, lk]
    split <;> simp_all
  by_cases hm : K[a] ∈ f.map fun b => K[b]?.getD 0
  · refine ⟨g1, ?_, fun N _ _ h3 => o1 N h3, by rw [if_pos hm]; exact h1⟩
    simp only [hm, decide_true] at is1
    simp [lsB3, ss1, evSs, evS, ev, i1, is1, cmpop, Py.R.bind, truth, Py.R.test, Py.R.toO, Py.O.then, ofO]
  · simp only [if_neg hm]
    simp only [hm, decide_false] at is1
    have pu := ord_put hm
    rw [List.length_map] at pu
    have hol : (ordD (f.map fun b => K[b]?.getD 0)).length < 16777216 := by rw [ord_len, List.length_map]; omega
    have q1 : setIx g1 (.ref o) (.int (K[a] : Nat)) (.int (f.length : Nat)) = some (g1.set o (.dk (ordD (f.map (fun b => K[b]?.getD 0) ++ [K[a]])))) := by
      simp [setIx, h1.o_, kyOf, hol, line, pu]
    have b1 : built1 g1 .len (.d (.ref fi)) = some (.d (.int (f.length : Nat))) := by simp [built1, lenOf, h1.f_, natsD]
    have h2 : (g1.set o (.dk (ordD (f.map (fun b => K[b]?.getD 0) ++ [K[a]]))))[fi]? = some (.lst (natsD f)) := by rw [List.getElem?_set_ne p.a4]; exact h1.f_
    generalize eg2 : g1.set o (.dk (ordD (f.map (fun b => K[b]?.getD 0) ++ [K[a]]))) = g2 at q1 h2
    have h3 : (g2.set fi (.lst (natsD (f ++ [a]))))[w]? = some (.lst (natsD S.reverse)) := by
      rw [List.getElem?_set_ne p.a6, ← eg2, List.getElem?_set_ne p.a5]; exact h1.w_
    generalize eg3 : g2.set fi (.lst (natsD (f ++ [a]))) = g3 at h3
    have fe : natsD f ++ [.int (a : Nat)] = natsD (f ++ [a]) := by simp [natsD]
    have we : natsD S.reverse ++ (ndPs x.ps).reverse = natsD (x.ps ++ S).reverse := by simp [natsD, ndPs, List.map_reverse]
    have fl : (natsD f).length < 16777216 := by simp [natsD]; omega
    have wl : (natsD S.reverse).length + (ndPs x.ps).reverse.length ≤ 16777216 := by simp [natsD, ndPs]; omega
    have x1 : index g3 (.d (grD A)) (.int (a : Nat)) = some x.d := at_gr hx
    have x2 := parts_ (k := k) (g := g3) hP x
    have x3 : revX g3 (.d (.tup (ndPs x.ps))) = some (.d (.tup (ndPs x.ps).reverse)) := rfl
    refine ⟨g3.set w (.lst (natsD (x.ps ++ S).reverse)), ?_, fun N n1 n2 n3 => ?_, ?_⟩
    · generalize (ndPs x.ps).reverse = RS at x3 wl we
      generalize natsD S.reverse = WS at h3 wl we
      generalize natsD f = FS at h2 fl fe
      simp [lsB3, ss1, evSs, evS, ev, evs, i1, is1, b1, q1, cmpop, h2, fl, fe, eg3, x1, x2, x3, h3, wl, we, Py.R.bind, truth, Py.R.test, Py.R.toO, Py.R.lay, Py.O.then, ofO, lay, btype, bmok, bmeth, line]
    · rw [← eg3, ← eg2]
      exact (((o1 N n3).trans (Old.set n1)).trans (Old.set n2)).trans (Old.set n3)
    · have hk2 : g3[kr]? = some (.lst (natsD K)) := by rw [← eg3, List.getElem?_set_ne (Ne.symm p.a2), ← eg2, List.getElem?_set_ne (Ne.symm p.a1)]; exact h1.k_
      have ho2 : g3[o]? = some (.dk (ordD (f.map (fun b => K[b]?.getD 0) ++ [K[a]]))) := by rw [← eg3, List.getElem?_set_ne (Ne.symm p.a4), ← eg2]; exact set_self h1.o_
      have hf2 : g3[fi]? = some (.lst (natsD (f ++ [a]))) := by rw [← eg3]; exact set_self h2
      refine ⟨by rw [List.getElem?_set_ne (Ne.symm p.a3)]; exact hk2, ?_, by rw [List.getElem?_set_ne (Ne.symm p.a6)]; exact hf2, set_self h3⟩
      rw [List.getElem?_set_ne (Ne.symm p.a5), ho2, List.map_append]
      simp [hk]
theorem nodup_le : ∀ (N : Nat) (l : List Nat), l.Nodup → (∀ x ∈ l, x < N) → l.length ≤ N
  | 0, [], _, _ => Nat.le_refl _
  | 0, x :: l, _, h => absurd (h x List.mem_cons_self) (Nat.not_lt_zero _)
  | N + 1, l, h, hb => by
    have ih := nodup_le N (l.erase N) (h.erase N) fun x hx => by
      have h1 := (List.Nodup.mem_erase_iff h).mp hx
      have h2 := hb x h1.2
      have h3 := h1.1
      omega
    by_cases hm : N ∈ l
    · have := List.length_erase_of_mem hm
      omega
    · rw [List.erase_of_not_mem hm] at ih
      omega
/-- what the loop keeps -/
structure LsOk (A : List Nd) (K f S : List Nat) : Prop where
  nd : (f.map fun b => K[b]?.getD 0).Nodup
  f_ : ∀ a ∈ f, a < A.length
  s_ : ∀ a ∈ S, a < A.length
  cl : ∀ a ∈ f, ∀ p ∈ (A[a]?.getD (.var 0)).ps, K[p]?.getD 0 ∈ f.map (fun b => K[b]?.getD 0) ∨ p ∈ S
theorem LsOk.len {A : List Nd} {K f S : List Nat} (h : LsOk A K f S) : f.length ≤ A.length := by
  refine nodup_le _ _ ?_ h.f_
  have := h.nd
  rw [List.nodup_iff_pairwise_ne, List.pairwise_map] at this
  rw [List.nodup_iff_pairwise_ne]
  exact this.imp fun q e => q (by rw [e])
theorem LsOk.skip {A : List Nd} {K f S : List Nat} {a : Nat} (h : LsOk A K f (a :: S)) (hm : K[a]?.getD 0 ∈ f.map fun b => K[b]?.getD 0) : LsOk A K f S :=
  ⟨h.nd, h.f_, fun b hb => h.s_ b (List.mem_cons_of_mem _ hb), fun b hb p hp => by
    rcases h.cl b hb p hp with q | q
    · exact .inl q
    · rcases List.mem_cons.mp q with rfl | q
      · exact .inl hm
      · exact .inr q⟩
theorem LsOk.take {A : List Nd} {K f S : List Nat} {a : Nat} {x : Nd} (h : LsOk A K f (a :: S)) (hm : K[a]?.getD 0 ∉ f.map fun b => K[b]?.getD 0) (hx : A[a]? = some x) (hp : ∀ p ∈ x.ps, p < A.length) : LsOk A K (f ++ [a]) (x.ps ++ S) := by
  refine ⟨?_, fun b hb => ?_, fun b hb => ?_, fun b hb p hp' => ?_⟩
  · rw [List.map_append]
    refine List.nodup_append.mpr ⟨h.nd, by simp, fun y hy z hz e => ?_⟩
    have : z = K[a]?.getD 0 := by simpa using hz
    subst this e
    exact hm hy
  · rcases List.mem_append.mp hb with q | q
    · exact h.f_ b q
    · have : b = a := by simpa using q
      subst this
      exact h.s_ b List.mem_cons_self
  · rcases List.mem_append.mp hb with q | q
    · exact hp b q
    · exact h.s_ b (List.mem_cons_of_mem _ q)
  · rw [List.map_append]
    rcases List.mem_append.mp hb with q | q
    · rcases h.cl b q p hp' with c | c
      · exact .inl (List.mem_append_left _ c)
      · rcases List.mem_cons.mp c with rfl | c
        · exact .inl (List.mem_append_right _ (by simp))
        · exact .inr (List.mem_append_right _ c)
    · have : b = a := by simpa using q
      subst this
      rw [hx] at hp'
      exact .inr (List.mem_append_left _ hp')
theorem ls_loop {A : List Nd} {K R : List Nat} {kr o fi w N : Nat} {l5 l6 l7 l8 : Option D} (hP : T.fn pt = some partsF) (hA : Gok A) (hK : K.length = A.length) (p : Ap kr o fi w) (n1 : N ≤ o) (n2 : N ≤ fi) (n3 : N ≤ w)
    {f S : List Nat} (h : LsAt g K kr o fi w f S) (ok : LsOk A K f S) {n : Nat} (hn : (A.length - f.length) * 101 + S.length < n) (hS : (A.length - f.length) * 101 + S.length ≤ 95000) (hR : firstsG A K n S f = R) :
    ∃ g', Old N g g' ∧ LsAt g' K kr o fi w R [] ∧ LsOk A K R [] ∧ ∃ m6, evS T (runF T (k + 1)) (lsW pt) [some (grD A), some (.ref kr), some (.ref o), some (.ref fi), some (.ref w), l5, l6, l7, l8] g = .nx [some (grD A), some (.ref kr), some (.ref o), some (.ref fi), some (.ref w), l5, m6, l7, l8] g' := by
  have hlen := hA.len
  have key := loopW_ind (c := fun L g => (ev T (runF T (k + 1)) (.v 4) L g).test) (body := fun L g => evSs T (runF T (k + 1)) (lsB3 pt) L g)
    (Q := fun o' => ∃ g', Old N g g' ∧ LsAt g' K kr o fi w R [] ∧ LsOk A K R [] ∧ ∃ m6, o' = .nx [some (grD A), some (.ref kr), some (.ref o), some (.ref fi), some (.ref w), l5, m6, l7, l8] g')
    (fun m L g' => ∃ f S l6, L = [some (grD A), some (.ref kr), some (.ref o), some (.ref fi), some (.ref w), l5, l6, l7, l8] ∧ LsAt g' K kr o fi w f S ∧ LsOk A K f S ∧ Old N g g' ∧ (∃ n, m < n ∧ firstsG A K n S f = R) ∧ m = (A.length - f.length) * 101 + S.length ∧ m ≤ 95000)
    (fun m L g' ⟨f, S, l6, eL, h, ok, ho, ⟨n, hn, hR⟩, hm, hm2⟩ => ?_) fuel ((A.length - f.length) * 101 + S.length) _ g (by unfold fuel; omega) ⟨f, S, l6, rfl, h, ok, .refl N g, ⟨n, hn, hR⟩, rfl, hS⟩
  · simpa only [lsW, evS] using key
  subst eL
  obtain ⟨n, rfl⟩ : ∃ n', n = n' + 1 := ⟨n - 1, by omega⟩
  have hfl := ok.len
  cases S with
  | nil =>
    left
    rw [firstsG] at hR
    subst hR
    have hw := h.w_
    refine ⟨g', ?_, g', ho, h, ok, _, rfl⟩
    simp [ev, hw, natsD, Py.R.test, truth, ofO, Py.R.bind]
  | cons a S =>
    right
    have ha := ok.s_ a List.mem_cons_self
    have hx : A[a]? = some A[a] := List.getElem?_eq_getElem ha
    obtain ⟨p1, p2⟩ := A[a].ok_ps (hA.nd _ (List.getElem_mem ha))
    simp only [List.length_cons] at hm
    have hw := h.w_
    have hne : (natsD (a :: S).reverse).isEmpty = false := by simp [natsD]
    obtain ⟨g2, e, o2, h2⟩ := ls_turn (T := T) (k := k) (l5 := l5) (l6 := l6) (l7 := l7) (l8 := l8) hP h p hx (by omega) p1 (by omega) (by omega)
    refine ⟨g', ?_, .inl ?_⟩
    · generalize natsD (a :: S).reverse = xs at hw hne
      simp [ev, hw, hne, Py.R.test, truth, ofO, Py.R.bind]
    rw [firstsG] at hR
    by_cases hc : K[a]?.getD 0 ∈ f.map (fun b => K[b]?.getD 0)
    · rw [if_pos hc] at h2 hR
      exact ⟨(A.length - f.length) * 101 + S.length, _, g2, .inl e, by omega, f, S, _, rfl, h2, ok.skip hc, ho.trans (o2 N n1 n2 n3), ⟨n, by omega, hR⟩, rfl, by omega⟩
    · rw [if_neg hc] at h2 hR
      have ok2 := ok.take hc hx p2
      have l2 := ok2.len
      simp only [List.length_append, List.length_singleton] at l2
      rw [hx] at hR
      have ml : (A.length - (f ++ [a]).length) * 101 + (A[a].ps ++ S).length < m := by
        simp only [List.length_append, List.length_singleton]
        omega
      exact ⟨(A.length - (f ++ [a]).length) * 101 + (A[a].ps ++ S).length, _, g2, .inl e, ml, f ++ [a], _, _, rfl, h2, ok2, ho.trans (o2 N n1 n2 n3), ⟨n, by omega, hR⟩, rfl, by omega⟩
theorem ls_out {A : List Nd} {K f : List Nat} {kr o fi w fo a : Nat} {l8 : Option D} {x : Nd} {out : List Nd} {l7 : Option D} (hk : g[kr]? = some (.lst (natsD K))) (ho : g[o]? = some (.dk (ordD (f.map fun b => K[b]?.getD 0)))) (hfo : g[fo]? = some (.lst (out.map Nd.d))) (hx : A[a]? = some x) (hp : x.ok A.length) (hK : K.length = A.length)
    (hc : ∀ p ∈ x.ps, K[p]?.getD 0 ∈ f.map fun b => K[b]?.getD 0) (hl : out.length ≤ 1000) :
    ∃ m7 m8, evSs T (runF T (k + 1)) lsB1 [some (grD A), some (.ref kr), some (.ref o), some (.ref fi), some (.ref w), some (.ref fo), some (.int (a : Nat)), l7, l8] g = .nx [some (grD A), some (.ref kr), some (.ref o), some (.ref fi), some (.ref w), some (.ref fo), some (.int (a : Nat)), m7, m8] (g.set fo (.lst ((out ++ [x.re fun p => (f.map fun b => K[b]?.getD 0).idxOf (K[p]?.getD 0)]).map Nd.d))) := by
  have x1 : index g (.d (grD A)) (.int (a : Nat)) = some x.d := at_gr hx
  have ol : (out.map Nd.d).length < 16777216 := by simp; omega
  have fin : ∀ y : Nd, out.map Nd.d ++ [y.d] = (out ++ [y]).map Nd.d := fun y => by simp
  by_cases ht : ∃ w ps, x = .tup w ps
  · obtain ⟨wd, ps, rfl⟩ := ht
    obtain ⟨hp1, hp2⟩ := hp
    simp only [Nd.ps] at hc
    have x2 : index g (.d (Nd.tup wd ps).d) (.int 0) = some (.str ['t', 'u', 'p', 'l', 'e']) := by simp [Nd.d, index, atI, ixN]
    have x3 : index g (.d (Nd.tup wd ps).d) (.int 1) = some (.str wd) := by simp [Nd.d, index, atI, ixN]
    have x4 : index g (.d (Nd.tup wd ps).d) (.int 2) = some (.tup (ndPs ps)) := by simp [Nd.d, index, atI, ixN]
    have e1 : ev T (runF T (k + 1)) lsC [some (grD A), some (.ref kr), some (.ref o), some (.ref fi), some (.ref w), some (.ref fo), some (.int (a : Nat)), some (Nd.tup wd ps).d, l8] g = .ok (.tmp ((ndPs ps).map fun d => match d with | .int p => .int (((f.map fun b => K[b]?.getD 0).idxOf (K[p.toNat]?.getD 0) : Nat) : Int) | _ => .non)) g := by
      refine ev_comp (t := .nm 8) (s := .it (.ix (.v 7) (.c (.int 2)))) (c := .c (.bl true)) (e := .ix (.v 2) (.ix (.v 1) (.v 8))) (it := .vals (ndPs ps)) (g1 := g) (by simp [evI, ev, x4, Py.R.bind, ofO]) ?_
      refine loopC_map _ (by simp [ndPs, line]; omega) (fun L => by simp [ev, Py.R.test, truth, ofO, Py.R.bind]) fun d hd => ?_
      obtain ⟨p, hp, rfl⟩ := List.mem_map.mp hd
      have hpK : p < K.length := by have := hp2 p hp; omega
      have h1 : K[p]? = some K[p] := List.getElem?_eq_getElem hpK
      have h2 := at_ints hk h1
      have h3 := hc p hp
      have lk := ord_look (f.map fun b => K[b]?.getD 0) K[p]
      rw [h1] at h3
      simp only [Option.getD_some] at h3
      rw [if_pos h3] at lk
      have h4 : index g (.d (.ref o)) (.int (K[p] : Nat)) = some (.int ((f.map fun b => K[b]?.getD 0).idxOf K[p] : Nat)) := by simp [index, ho, kyOf, lk]
      simp [ev, h2, h4, h1, Py.R.bind, Py.R.lay, lay, ofO]
    have e2 : (Nd.re (fun p => (f.map fun b => K[b]?.getD 0).idxOf (K[p]?.getD 0)) (Nd.tup wd ps)).d = .tup [.str ['t', 'u', 'p', 'l', 'e'], .str wd, .tup ((ndPs ps).map fun d => match d with | .int p => .int (((f.map fun b => K[b]?.getD 0).idxOf (K[p.toNat]?.getD 0) : Nat) : Int) | _ => .non)] := by
      simp [Nd.re, Nd.d, ndPs]
    have f2 := fin ((Nd.tup wd ps).re fun p => (f.map fun b => K[b]?.getD 0).idxOf (K[p]?.getD 0))
    rw [← f2, e2]
    generalize (Nd.tup wd ps).d = xd at x1 x2 x3 e1
    generalize ((ndPs ps).map fun d => match d with | .int p => D.int (((f.map fun b => K[b]?.getD 0).idxOf (K[p.toNat]?.getD 0) : Nat) : Int) | _ => .non) = PS at e1 ⊢
    generalize out.map Nd.d = OUT at hfo ol ⊢
    refine ⟨some (.tup [.str ['t', 'u', 'p', 'l', 'e'], .str wd, .tup PS]), l8, ?_⟩
    simp [lsB1, evSs, evS, ev, evs, x1, x2, x3, e1, hfo, ol, cmpop, trX, tr, eqv, Py.R.bind, truth, Py.R.test, Py.R.toO, Py.R.lay, Py.O.then, ofO, asg, lay, built1, items, btype, bmok, bmeth, line]
  · obtain ⟨z, x2, hz⟩ : ∃ z : Tx, index g (.d x.d) (.int 0) = some (.str z) ∧ z ≠ ['t', 'u', 'p', 'l', 'e'] := by
      cases x with
      | tup w ps => exact absurd ⟨w, ps, rfl⟩ ht
      | _ => exact ⟨_, rfl, by simp⟩
    have e2 : x.re (fun p => (f.map fun b => K[b]?.getD 0).idxOf (K[p]?.getD 0)) = x := by
      cases x with
      | tup w ps => exact absurd ⟨w, ps, rfl⟩ ht
      | _ => rfl
    rw [e2, ← fin x]
    generalize x.d = xd at x1 x2
    generalize out.map Nd.d = OUT at hfo ol ⊢
    refine ⟨some xd, l8, ?_⟩
    simp [lsB1, evSs, evS, ev, evs, x1, x2, hz, hfo, ol, cmpop, trX, tr, eqv, Py.R.bind, truth, Py.R.test, Py.R.toO, Py.R.lay, Py.O.then, ofO, asg, lay, built1, items, btype, bmok, bmeth, line]
theorem least_y {A : List Nd} {ls cl hd nb gM tm : Nat} (hL : T.fn ls = some (leastF pt cl)) (hC : T.fn cl = some (classesF pt hd nb gM tm)) (hP : T.fn pt = some partsF) (hH : T.fn hd = some headF) (hN : T.fn nb = some numberedF) (hM : T.gl gM = some (.int 400)) (hA : Gok A) (h0 : 0 < A.length) (hX : tooM A = false) :
    ∃ g', runF T (k + 3) ls [grD A] g = .ok (grD (leastL A)) g' ∧ Old g.length g g' ∧ (firsts A).length ≤ A.length ∧ ∀ a ∈ firsts A, a < A.length := by
  have hlen := hA.len
  obtain ⟨g1, kr, e1, o1, hkr, hk, hKl⟩ := classes_ (k := k) (g := g) hC hP hH hN hM hA hX
  have hkl := (List.getElem?_eq_some_iff.mp hk).1
  have hk2 : (g1 ++ [Ob.dk []] ++ [.lst []] ++ [.lst [.int 0]])[kr]? = some (.lst (natsD (cls A))) := by
    rw [List.append_assoc, List.append_assoc, List.getElem?_append_left hkl]; exact hk
  have at0 : LsAt (g1 ++ [Ob.dk []] ++ [.lst []] ++ [.lst [.int 0]]) (cls A) kr g1.length (g1.length + 1) (g1.length + 2) [] [0] := ⟨hk2, by simp [ordD], by simp [natsD], by simp [natsD]⟩
  have ap : Ap kr g1.length (g1.length + 1) (g1.length + 2) := ⟨by omega, by omega, by omega, by omega, by omega, by omega⟩
  have hg1 : g.length ≤ g1.length := by omega
  obtain ⟨g2, o2, at2, ok2, m6, e2⟩ := ls_loop (T := T) (k := k + 1) (pt := pt) (N := g.length) (l5 := none) (l6 := none) (l7 := none) (l8 := none) hP hA hKl ap hg1 (by omega) (by omega) at0 ⟨by simp, by simp, fun a ha => by simp at ha; omega, by simp⟩ (n := 100000) (by simp; omega) (by simp; omega) (R := firsts A) rfl
  have hfl := ok2.len
  have hkl2 := (List.getElem?_eq_some_iff.mp at2.k_).1
  have hol2 := (List.getElem?_eq_some_iff.mp at2.o_).1
  have hfl2 := (List.getElem?_eq_some_iff.mp at2.f_).1
  obtain ⟨L', g3, e3, ⟨m6', m7, m8, rfl⟩, eg3⟩ : ∃ L' g3, loopF (.lst (g1.length + 1)) (.nm 6) (fun L g => evSs T (runF T (k + 2)) lsB1 L g) fuel 0 [some (grD A), some (.ref kr), some (.ref g1.length), some (.ref (g1.length + 1)), some (.ref (g1.length + 2)), some (.ref g2.length), m6, none, none] (g2 ++ [.lst []]) = .nx L' g3 ∧
      ((∃ m6 m7 m8, L' = [some (grD A), some (.ref kr), some (.ref g1.length), some (.ref (g1.length + 1)), some (.ref (g1.length + 2)), some (.ref g2.length), m6, m7, m8]) ∧ g3 = g2 ++ [.lst (((leastL A).take (firsts A).length).map Nd.d)]) := by
    refine loopF_ind (n := (firsts A).length) (fun i L g' => (∃ m6 m7 m8, L = [some (grD A), some (.ref kr), some (.ref g1.length), some (.ref (g1.length + 1)), some (.ref (g1.length + 2)), some (.ref g2.length), m6, m7, m8]) ∧ g' = g2 ++ [.lst (((leastL A).take i).map Nd.d)]) (fun i L g' hi ⟨⟨m6, m7, m8, eL⟩, eg⟩ => ?_) (fun L g' ⟨_, eg⟩ => ?_) fuel 0 _ _ (Nat.zero_le _) (by unfold fuel; omega) ⟨⟨m6, none, none, rfl⟩, rfl⟩
    · subst eL eg
      have hfi : (g2 ++ [Ob.lst (((leastL A).take i).map Nd.d)])[g1.length + 1]? = some (.lst (natsD (firsts A))) := by rw [List.getElem?_append_left hfl2]; exact at2.f_
      have ha := ok2.f_ _ (List.getElem_mem hi)
      have hx : A[(firsts A)[i]]? = some A[(firsts A)[i]] := List.getElem?_eq_getElem ha
      have hc : ∀ p ∈ A[(firsts A)[i]].ps, (cls A)[p]?.getD 0 ∈ (firsts A).map fun b => (cls A)[b]?.getD 0 := fun p hp => by
        rcases ok2.cl _ (List.getElem_mem hi) p (by rw [hx]; exact hp) with q | q
        · exact q
        · cases q
      have lt : ((leastL A).take i).length ≤ 1000 := by simp; omega
      obtain ⟨m7', m8', e⟩ := ls_out (T := T) (k := k + 1) (fi := g1.length + 1) (w := g1.length + 2) (l8 := m8) (l7 := m7) (g := g2 ++ [Ob.lst (((leastL A).take i).map Nd.d)]) (by rw [List.getElem?_append_left hkl2]; exact at2.k_) (by rw [List.getElem?_append_left hol2]; exact at2.o_) (fo := g2.length) (by simp) hx (hA.nd _ (List.getElem_mem ha)) hKl hc lt
      rw [set_end] at e
      refine ⟨.int ((firsts A)[i] : Nat), _, by rw [turn, hfi]; simp [natsD, hi], rfl, _, _, .inl e, ⟨_, _, _, rfl⟩, ?_⟩
      have li : (leastL A)[i]? = some (A[(firsts A)[i]].re fun p => ((firsts A).map fun b => (cls A)[b]?.getD 0).idxOf ((cls A)[p]?.getD 0)) := by
        simp [leastL, hi, hx]
      rw [List.take_add_one, li]
      rfl
    · have hfi : g'[g1.length + 1]? = some (.lst (natsD (firsts A))) := by rw [eg, List.getElem?_append_left hfl2]; exact at2.f_
      simp [turn, hfi, natsD]
  have ll : (leastL A).length = (firsts A).length := by simp [leastL]
  rw [← ll, List.take_length] at eg3
  subst eg3
  have e4 : evS T (runF T (k + 2)) lsL [some (grD A), some (.ref kr), some (.ref g1.length), some (.ref (g1.length + 1)), some (.ref (g1.length + 2)), some (.ref g2.length), m6, none, none] (g2 ++ [.lst []]) = .nx [some (grD A), some (.ref kr), some (.ref g1.length), some (.ref (g1.length + 1)), some (.ref (g1.length + 2)), some (.ref g2.length), m6', m7, m8] (g2 ++ [.lst ((leastL A).map Nd.d)]) := by
    refine ev_for (t := .nm 6) (s := .it (.v 3)) (b := lsB1) (it := .lst (g1.length + 1)) (g1 := g2 ++ [.lst []]) ?_ e3
    have hfi : (g2 ++ [Ob.lst []])[g1.length + 1]? = some (.lst (natsD (firsts A))) := by rw [List.getElem?_append_left hfl2]; exact at2.f_
    simp [evI, ev, Py.R.bind, hfi]
  have hN2 : g.length ≤ g2.length := by omega
  refine ⟨g2 ++ [.lst ((leastL A).map Nd.d)], runF_rt hL rfl ?_, ((((o1.trans (Old.push hg1)).trans (Old.push (by simp; omega))).trans (Old.push (by simp; omega))).trans o2).trans (Old.push hN2), hfl, ok2.f_⟩
  simp at e2
  have ln : 1 ≤ line := by decide
  simp [leastF, evSs, evS, ev, evs, e1, e2, e4, ln, Py.R.bind, Py.R.toO, Py.R.lay, Py.O.then, ofO, asg, lay, built1, items]
  rfl
theorem least_ {A : List Nd} {ls cl hd nb gM tm : Nat} (hL : T.fn ls = some (leastF pt cl)) (hC : T.fn cl = some (classesF pt hd nb gM tm)) (hP : T.fn pt = some partsF) (hH : T.fn hd = some headF) (hN : T.fn nb = some numberedF) (hM : T.gl gM = some (.int 400)) (hA : Gok A) (h0 : 0 < A.length) (h4 : A.length ≤ 400) :
    ∃ g', runF T (k + 3) ls [grD A] g = .ok (grD (leastL A)) g' ∧ Old g.length g g' ∧ (firsts A).length ≤ A.length ∧ ∀ a ∈ firsts A, a < A.length :=
  least_y hL hC hP hH hN hM hA h0 (tooM_small h4)
theorem least_ex {A : List Nd} {ls cl hd nb gM tm : Nat} (hL : T.fn ls = some (leastF pt cl)) (hC : T.fn cl = some (classesF pt hd nb gM tm)) (hP : T.fn pt = some partsF) (hH : T.fn hd = some headF) (hN : T.fn nb = some numberedF) (hM : T.gl gM = some (.int 400)) (hA : Gok A) (hX : tooM A = true) :
    ∃ g', runF T (k + 3) ls [grD A] g = .ex ⟨tm, []⟩ g' ∧ Old g.length g g' := by
  obtain ⟨g', ho, h⟩ := classes_x (T := T) (k := k) (g := g) hC hP hH hN hM hA
  rw [if_pos hX] at h
  refine ⟨g', runF_ex (L := [some (grD A), none, none, none, none, none, none, none, none]) hL rfl ?_, ho⟩
  simp [leastF, evSs, evS, ev, evs, h, Py.R.bind, Py.R.toO, Py.R.lay, Py.O.then, ofO, asg, lay]
end
end Py.Gr
set_option linter.all false
set_option maxRecDepth 100000
set_option maxHeartbeats 1000000
/-! PlM: least graphs, in plain words: the classes are the coarsest relation that heads and parts bear. -/
namespace Py.Gr
open Py
/-- a relation of nodes that heads and parts bear -/
def Bis (A : List Nd) (R : Nat → Nat → Prop) : Prop := ∀ (i j : Nat) (x y : Nd), R i j → A[i]? = some x → A[j]? = some y → x.hk = y.hk ∧ ∀ (k p q : Nat), x.ps[k]? = some p → y.ps[k]? = some q → R p q
theorem hk_len {x y : Nd} (h : x.hk = y.hk) : x.ps.length = y.ps.length := by
  cases x <;> cases y <;> simp [Nd.hk] at h <;> simp [Nd.ps]
  omega
theorem num_at {ks : List KeyL} {i : Nat} {k : KeyL} (h : ks[i]? = some k) : (num ks)[i]? = some ((tabK ks).idxOf k) := by
  simp [num, h]
theorem idxOf_inj {t : List KeyL} {a b : KeyL} (ha : a ∈ t) (h : t.idxOf a = t.idxOf b) (hb : b ∈ t) : a = b := by
  have h1 := List.getElem_idxOf (List.idxOf_lt_length_iff.mpr ha)
  have h2 := List.getElem_idxOf (List.idxOf_lt_length_iff.mpr hb)
  rw [← h1, ← h2]
  congr 1
/-- two numbers are one just where two keys are one -/
theorem num_eq {ks : List KeyL} {i j : Nat} {a b : KeyL} (hi : ks[i]? = some a) (hj : ks[j]? = some b) : (num ks)[i]? = (num ks)[j]? ↔ a = b := by
  rw [num_at hi, num_at hj]
  constructor
  · intro h
    exact idxOf_inj (mem_tabK.mpr (List.mem_of_getElem? hi)) (Option.some.inj h) (mem_tabK.mpr (List.mem_of_getElem? hj))
  · rintro rfl
    rfl
/-- the same number -/
def Sm (F : List Nat) (i j : Nat) : Prop := i < F.length ∧ j < F.length ∧ F[i]? = F[j]?
theorem Sm.lt {F : List Nat} {i j : Nat} (h : Sm F i j) : F[i]?.getD 0 = F[j]?.getD 0 := by rw [h.2.2]
/-- the keys of one round say: the same class, the parts in the same classes -/
theorem ck_eq {F : List Nat} {c d : Nat} {x y : Nd} (h : ck F c x = ck F d y) : c = d ∧ x.ps.length = y.ps.length ∧ ∀ (k p q : Nat), x.ps[k]? = some p → y.ps[k]? = some q → F[p]?.getD 0 = F[q]?.getD 0 := by
  unfold ck at h
  rw [List.cons.injEq] at h
  obtain ⟨h1, h2⟩ := h
  have hl : x.ps.length = y.ps.length := by simpa using congrArg List.length h2
  refine ⟨by simp at h1; omega, hl, fun k p q hp hq => ?_⟩
  have := congrArg (fun l : List KY => l[k]?) h2
  simp [hp, hq] at this
  omega
theorem ck_of {F : List Nat} {c : Nat} {x y : Nd} (hl : x.ps.length = y.ps.length) (h : ∀ (k p q : Nat), x.ps[k]? = some p → y.ps[k]? = some q → F[p]?.getD 0 = F[q]?.getD 0) : ck F c x = ck F c y := by
  unfold ck
  congr 1
  apply List.ext_getElem?
  intro k
  rw [List.getElem?_map, List.getElem?_map]
  cases hp : x.ps[k]? with
  | none =>
    have : y.ps[k]? = none := by
      rw [List.getElem?_eq_none_iff] at hp ⊢
      omega
    rw [this]
  | some p =>
    cases hq : y.ps[k]? with
    | none =>
      rw [List.getElem?_eq_none_iff] at hq
      have := (List.getElem?_eq_some_iff.mp hp).1
      omega
    | some q => simp [h k p q hp hq]
/-- a relation that heads and parts bear goes into every round -/
theorem Bis.num0 {A : List Nd} {R : Nat → Nat → Prop} (b : Bis A R) {i j : Nat} {x y : Nd} (h : R i j) (hx : A[i]? = some x) (hy : A[j]? = some y) : (num (A.map Nd.hk))[i]? = (num (A.map Nd.hk))[j]? := by
  refine (num_eq (ks := A.map Nd.hk) (a := x.hk) (b := y.hk) (by simp [hx]) (by simp [hy])).mpr (b i j x y h hx hy).1
theorem Bis.next {A : List Nd} {R : Nat → Nat → Prop} {F : List Nat} (b : Bis A R) (hF : F.length = A.length) (hA : ∀ x ∈ A, x.ok A.length) (ih : ∀ (i j : Nat), i < A.length → j < A.length → R i j → F[i]? = F[j]?) {i j : Nat} {x y : Nd} (h : R i j) (hx : A[i]? = some x) (hy : A[j]? = some y) :
    (num (cks F A))[i]? = (num (cks F A))[j]? := by
  obtain ⟨h1, h2⟩ := b i j x y h hx hy
  have hi := (List.getElem?_eq_some_iff.mp hx).1
  have hj := (List.getElem?_eq_some_iff.mp hy).1
  refine (num_eq (cks_at hx) (cks_at hy)).mpr ?_
  rw [ih i j hi hj h]
  refine ck_of (hk_len h1) fun k p q hp hq => ?_
  have p1 := (x.ok_ps (hA x (List.mem_of_getElem? hx))).2 p (List.mem_of_getElem? hp)
  have q1 := (y.ok_ps (hA y (List.mem_of_getElem? hy))).2 q (List.mem_of_getElem? hq)
  rw [ih p q p1 q1 (h2 k p q hp hq)]
/-! ### counting -/
theorem perm_of_sub {α : Type} [DecidableEq α] : ∀ (t l : List α), t.Nodup → (∀ x ∈ t, x ∈ l) → l.length ≤ t.length → l.Perm t
  | [], l, _, _, h => by
    have : l = [] := List.length_eq_zero_iff.mp (by simpa using h)
    rw [this]
  | a :: t, l, hn, hs, h => by
    have ha := hs a List.mem_cons_self
    have hn' := List.nodup_cons.mp hn
    have h1 := List.perm_cons_erase ha
    have h2 := perm_of_sub t (l.erase a) hn'.2 (fun x hx => (List.mem_erase_of_ne (by rintro rfl; exact hn'.1 hx)).mpr (hs x (List.mem_cons_of_mem _ hx))) (by
      rw [List.length_erase_of_mem ha]
      simp only [List.length_cons] at h
      omega)
    exact h1.trans (h2.cons a)
theorem nodup_ed : ∀ (n : Nat) (l : List Int), l.length ≤ n → l.eraseDups.Nodup
  | _, [], _ => by simp
  | 0, _ :: _, h => by simp at h
  | n + 1, x :: l, h => by
    rw [List.eraseDups_cons]
    refine List.nodup_cons.mpr ⟨fun hm => ?_, nodup_ed n _ ?_⟩
    · rw [List.mem_eraseDups] at hm
      simp at hm
    · have := List.length_filter_le (fun b => !b == x) l
      simp only [List.length_cons] at h
      omega
/-- a finer numbering with no more numbers is the same -/
theorem same_of_count {F K : List Nat} (hl : F.length = K.length) (hr : ∀ (i j : Nat), i < F.length → j < F.length → F[i]? = F[j]? → K[i]? = K[j]?) (hc : dst F ≤ dst K) {i j : Nat} (hi : i < F.length) (hj : j < F.length) (h : K[i]? = K[j]?) : F[i]? = F[j]? := by
  -- the number of K beside a number of F
  let g : Int → Int := fun v => ((K[(F.map fun n => ((n : Nat) : Int)).idxOf v]?.getD 0 : Nat) : Int)
  have gv : ∀ (i : Nat) (hi : i < F.length), g ((F[i] : Nat) : Int) = ((K[i]'(by omega) : Nat) : Int) := by
    intro i hi
    have hm : ((F[i] : Nat) : Int) ∈ F.map fun n => ((n : Nat) : Int) := List.mem_map.mpr ⟨F[i], List.getElem_mem hi, rfl⟩
    have hlt := List.idxOf_lt_length_iff.mpr hm
    have hlt2 : (F.map fun n => ((n : Nat) : Int)).idxOf ((F[i] : Nat) : Int) < F.length := by simpa using hlt
    have h1 := List.getElem_idxOf hlt
    have h2 : F[(F.map fun n => ((n : Nat) : Int)).idxOf ((F[i] : Nat) : Int)]? = F[i]? := by
      rw [List.getElem?_eq_getElem hlt2, List.getElem?_eq_getElem hi]
      rw [List.getElem_map] at h1
      congr 1
      omega
    have h3 := hr _ _ hlt2 hi h2
    show ((K[(F.map fun n => ((n : Nat) : Int)).idxOf ((F[i] : Nat) : Int)]?.getD 0 : Nat) : Int) = _
    rw [h3, List.getElem?_eq_getElem (by omega)]
    rfl
  have hd := nodup_ed _ (K.map fun n => ((n : Nat) : Int)) (Nat.le_refl _)
  have sub : ∀ x ∈ (K.map fun n => ((n : Nat) : Int)).eraseDups, x ∈ (F.map fun n => ((n : Nat) : Int)).eraseDups.map g := by
    intro x hx
    rw [List.mem_eraseDups] at hx
    obtain ⟨v, hv, rfl⟩ := List.mem_map.mp hx
    obtain ⟨k, hk, rfl⟩ := List.getElem_of_mem hv
    refine List.mem_map.mpr ⟨((F[k]'(by omega) : Nat) : Int), ?_, gv k (by omega)⟩
    rw [List.mem_eraseDups]
    exact List.mem_map.mpr ⟨_, List.getElem_mem _, rfl⟩
  have pm := perm_of_sub _ _ hd sub (by rw [List.length_map]; exact hc)
  have nd : ((F.map fun n => ((n : Nat) : Int)).eraseDups.map g).Nodup := pm.nodup_iff.mpr hd
  have inj : ∀ a ∈ (F.map fun n => ((n : Nat) : Int)).eraseDups, ∀ b ∈ (F.map fun n => ((n : Nat) : Int)).eraseDups, g a = g b → a = b := by
    intro a ha b hb e
    obtain ⟨m, hm, rfl⟩ := List.getElem_of_mem ha
    obtain ⟨n, hn, rfl⟩ := List.getElem_of_mem hb
    have := List.pairwise_iff_getElem.mp (List.nodup_iff_pairwise_ne.mp nd)
    by_cases c : m = n
    · subst c; rfl
    · exfalso
      rcases Nat.lt_or_gt_of_ne c with c | c
      · exact this m n (by simpa using hm) (by simpa using hn) c (by rw [List.getElem_map, List.getElem_map]; exact e)
      · exact this n m (by simpa using hn) (by simpa using hm) c (by rw [List.getElem_map, List.getElem_map]; exact e.symm)
  rw [List.getElem?_eq_getElem (by omega), List.getElem?_eq_getElem (by omega)] at h
  have h' : K[i]'(by omega) = K[j]'(by omega) := Option.some.inj h
  have q := inj ((F[i] : Nat) : Int) (by rw [List.mem_eraseDups]; exact List.mem_map.mpr ⟨_, List.getElem_mem hi, rfl⟩) ((F[j] : Nat) : Int) (by rw [List.mem_eraseDups]; exact List.mem_map.mpr ⟨_, List.getElem_mem hj, rfl⟩) (by rw [gv i hi, gv j hj, h'])
  rw [List.getElem?_eq_getElem hi, List.getElem?_eq_getElem hj]
  congr 1
  omega
/-! ### the classes -/
theorem getD_eq {F : List Nat} {i j : Nat} (hi : i < F.length) (hj : j < F.length) : F[i]?.getD 0 = F[j]?.getD 0 ↔ F[i]? = F[j]? := by
  rw [List.getElem?_eq_getElem hi, List.getElem?_eq_getElem hj]
  simp
/-- what a round makes finer -/
theorem next_fine {A : List Nd} {K : List Nat} (hK : K.length = A.length) {i j : Nat} (hi : i < A.length) (hj : j < A.length) (h : (num (cks K A))[i]? = (num (cks K A))[j]?) :
    K[i]? = K[j]? ∧ (A[i].ps.length = A[j].ps.length ∧ ∀ (k p q : Nat), A[i].ps[k]? = some p → A[j].ps[k]? = some q → K[p]?.getD 0 = K[q]?.getD 0) := by
  have hx : A[i]? = some A[i] := List.getElem?_eq_getElem hi
  have hy : A[j]? = some A[j] := List.getElem?_eq_getElem hj
  have e := (num_eq (cks_at (F := K) hx) (cks_at hy)).mp h
  obtain ⟨e1, e2⟩ := ck_eq e
  exact ⟨(getD_eq (by omega) (by omega)).mp e1, e2⟩
theorem clsG_bis {A : List Nd} (hA : ∀ x ∈ A, x.ok A.length) : ∀ (n c : Nat) (F : List Nat), F.length = A.length → A.length + 1 - c ≤ n → c ≤ A.length →
    (∀ (i j : Nat) (hi : i < A.length) (hj : j < A.length), F[i]? = F[j]? → A[i].hk = A[j].hk) → (c = 0 ∨ ∃ K, K.length = A.length ∧ F = num (cks K A) ∧ c = dst K) →
    (clsG A n c F).length = A.length ∧ Bis A (Sm (clsG A n c F))
  | 0, _, _, _, hn, hc, _, _ => absurd hn (Nat.not_le.mpr (Nat.sub_pos_of_lt (Nat.lt_succ_of_le hc)))
  | n + 1, c, F, hF, hn, hc, hh, hp => by
    rw [clsG]
    by_cases hlt : c < dst F
    · rw [if_pos hlt]
      have hd := dst_le F
      refine clsG_bis hA n (dst F) (num (cks F A)) (by rw [num_len, cks_len]) (by omega) (by omega) (fun i j hi hj h => hh i j hi hj (next_fine hF hi hj h).1) (.inr ⟨F, hF, rfl, rfl⟩)
    · rw [if_neg hlt]
      refine ⟨hF, fun i j x y h hx hy => ?_⟩
      have hi := (List.getElem?_eq_some_iff.mp hx).1
      have hj := (List.getElem?_eq_some_iff.mp hy).1
      have ex : A[i] = x := (List.getElem?_eq_some_iff.mp hx).2
      have ey : A[j] = y := (List.getElem?_eq_some_iff.mp hy).2
      refine ⟨by rw [← ex, ← ey]; exact hh i j hi hj h.2.2, fun k p q hp' hq' => ?_⟩
      have p1 := (x.ok_ps (hA x (List.mem_of_getElem? hx))).2 p (List.mem_of_getElem? hp')
      have q1 := (y.ok_ps (hA y (List.mem_of_getElem? hy))).2 q (List.mem_of_getElem? hq')
      rcases hp with rfl | ⟨K, hK, rfl, rfl⟩
      · exfalso
        have h0 : dst F = 0 := by omega
        have hm : ((F[i]'(by omega) : Nat) : Int) ∈ (F.map fun n => ((n : Nat) : Int)).eraseDups := by
          rw [List.mem_eraseDups]
          exact List.mem_map.mpr ⟨_, List.getElem_mem _, rfl⟩
        unfold dst at h0
        rw [List.length_eq_zero_iff.mp h0] at hm
        cases hm
      · have nf := next_fine hK hi hj h.2.2
        rw [ex, ey] at nf
        have e := nf.2.2 k p q hp' hq'
        have e2 := (getD_eq (F := K) (by omega) (by omega)).mp e
        refine ⟨by omega, by omega, same_of_count (K := K) (by omega) (fun a b ha hb hab => (next_fine hK (by omega) (by omega) hab).1) (by omega) (by omega) (by omega) e2⟩
theorem clsG_max {A : List Nd} {R : Nat → Nat → Prop} (hA : ∀ x ∈ A, x.ok A.length) (b : Bis A R) : ∀ (n c : Nat) (F : List Nat), F.length = A.length → (∀ (i j : Nat), i < A.length → j < A.length → R i j → F[i]? = F[j]?) → ∀ (i j : Nat), i < A.length → j < A.length → R i j → (clsG A n c F)[i]? = (clsG A n c F)[j]?
  | 0, c, F, _, h => h
  | n + 1, c, F, hF, h => by
    rw [clsG]
    split
    · exact clsG_max hA b n (dst F) (num (cks F A)) (by rw [num_len, cks_len]) fun i j hi hj hr => b.next hF hA h hr (List.getElem?_eq_getElem hi) (List.getElem?_eq_getElem hj)
    · exact h
/-- the classes are borne by heads and parts -/
theorem cls_bis {A : List Nd} (hA : ∀ x ∈ A, x.ok A.length) : (cls A).length = A.length ∧ Bis A (Sm (cls A)) := by
  refine clsG_bis hA (A.length + 1) 0 (num (A.map Nd.hk)) (by rw [num_len]; simp) (by omega) (Nat.zero_le _) (fun i j hi hj h => ?_) (.inl rfl)
  exact (num_eq (ks := A.map Nd.hk) (by simp [hi]) (by simp [hj])).mp h
/-- every such relation lies in the classes -/
theorem cls_max {A : List Nd} {R : Nat → Nat → Prop} (hA : ∀ x ∈ A, x.ok A.length) (b : Bis A R) {i j : Nat} (hi : i < A.length) (hj : j < A.length) (h : R i j) : (cls A)[i]? = (cls A)[j]? :=
  clsG_max hA b (A.length + 1) 0 (num (A.map Nd.hk)) (by rw [num_len]; simp) (fun i j hi hj hr => b.num0 hr (List.getElem?_eq_getElem hi) (List.getElem?_eq_getElem hj)) i j hi hj h
end Py.Gr
set_option linter.all false
set_option maxRecDepth 100000
set_option maxHeartbeats 1000000
/-! PlN: the law's own classes: from one class on, until no more come. -/
namespace Py.Gr
open Py
theorem sub_len {α : Type} [DecidableEq α] : ∀ (t l : List α), t.Nodup → (∀ x ∈ t, x ∈ l) → t.length ≤ l.length
  | [], l, _, _ => Nat.zero_le _
  | a :: t, l, hn, hs => by
    have ha := hs a List.mem_cons_self
    have hn' := List.nodup_cons.mp hn
    have := sub_len t (l.erase a) hn'.2 fun x hx => (List.mem_erase_of_ne (by rintro rfl; exact hn'.1 hx)).mpr (hs x (List.mem_cons_of_mem _ hx))
    rw [List.length_erase_of_mem ha] at this
    have hp := List.length_pos_of_mem ha
    simp only [List.length_cons]
    omega
theorem tabK_nodup (ks : List KeyL) : (tabK ks).Nodup := by
  have gen : ∀ (ks t : List KeyL), t.Nodup → (ks.foldl addK t).Nodup := by
    intro ks
    induction ks with
    | nil => intro t h; exact h
    | cons k ks ih =>
      intro t h
      refine ih _ ?_
      unfold addK
      split
      · exact h
      · rename_i hm
        refine List.nodup_append.mpr ⟨h, by simp, fun x hx y hy e => ?_⟩
        have : y = k := by simpa using hy
        subst this e
        exact hm hx
  exact gen ks [] List.nodup_nil
/-- there are as many numbers as keys in the table -/
theorem dst_num (ks : List KeyL) : dst (num ks) = (tabK ks).length := by
  let g : KeyL → Int := fun k => (((tabK ks).idxOf k : Nat) : Int)
  have inj : ∀ a ∈ tabK ks, ∀ b ∈ tabK ks, g a = g b → a = b := fun a ha b hb e => idxOf_inj ha (Int.ofNat.inj e) hb
  have nd : ((tabK ks).map g).Nodup := by
    rw [List.nodup_iff_pairwise_ne, List.pairwise_map]
    exact (List.nodup_iff_pairwise_ne.mp (tabK_nodup ks)).imp_of_mem fun ha hb hne e => hne (inj _ ha _ hb e)
  have hd := nodup_ed _ ((num ks).map fun n => ((n : Nat) : Int)) (Nat.le_refl _)
  have mem : ∀ v, v ∈ ((num ks).map fun n => ((n : Nat) : Int)).eraseDups ↔ v ∈ (tabK ks).map g := by
    intro v
    rw [List.mem_eraseDups]
    simp only [num, List.map_map, List.mem_map, Function.comp]
    constructor
    · rintro ⟨k, hk, rfl⟩
      exact ⟨k, mem_tabK.mpr hk, rfl⟩
    · rintro ⟨k, hk, rfl⟩
      exact ⟨k, mem_tabK.mp hk, rfl⟩
  have h1 := sub_len _ _ nd fun v hv => (mem v).mpr hv
  have h2 := sub_len _ _ hd fun v hv => (mem v).mp hv
  rw [List.length_map] at h1 h2
  unfold dst
  omega
/-- the law's key of a node -/
def lk (F : List Nat) : Nd → KeyL
  | .tup a ps => .s ['t', 'u', 'p', 'l', 'e'] :: .s a :: ps.map fun p => .i ((F[p]?.getD 0 : Nat) : Int)
  | x => x.hk
theorem lk_hk {F : List Nat} {x y : Nd} (h : lk F x = lk F y) : x.hk = y.hk ∧ ∀ (k p q : Nat), x.ps[k]? = some p → y.ps[k]? = some q → F[p]?.getD 0 = F[q]?.getD 0 := by
  cases x <;> cases y <;> simp [lk, Nd.hk] at h ⊢ <;> try (first | exact h | (exact ⟨h, by simp [Nd.ps]⟩))
  all_goals try simp [Nd.ps]
  all_goals try exact h
  obtain ⟨h1, h2⟩ := h
  have hl := congrArg List.length h2
  simp only [List.length_map] at hl
  refine ⟨⟨h1, by omega⟩, fun k p q hp hq => ?_⟩
  have := congrArg (fun l : List KY => l[k]?) h2
  simp [hp, hq] at this
  omega
theorem lk_of {F : List Nat} {x y : Nd} (h : x.hk = y.hk) (h2 : ∀ (k p q : Nat), x.ps[k]? = some p → y.ps[k]? = some q → F[p]?.getD 0 = F[q]?.getD 0) : lk F x = lk F y := by
  have hl := hk_len h
  cases x <;> cases y <;> simp [Nd.hk] at h <;> try (simp [lk, Nd.hk]; done)
  all_goals try (simp [lk, Nd.hk]; exact h)
  obtain ⟨rfl, h1⟩ := h
  simp only [lk, List.cons.injEq, true_and]
  apply List.ext_getElem?
  intro k
  simp only [Nd.ps] at h2 hl
  rw [List.getElem?_map, List.getElem?_map]
  rename_i ps qs
  cases hp : ps[k]? with
  | none =>
    have : qs[k]? = none := by
      rw [List.getElem?_eq_none_iff] at hp ⊢
      omega
    rw [this]
  | some p =>
    cases hq : qs[k]? with
    | none =>
      rw [List.getElem?_eq_none_iff] at hq
      have := (List.getElem?_eq_some_iff.mp hp).1
      omega
    | some q => simp [h2 k p q hp hq]
/-- the law's classes -/
def lkG (A : List Nd) : Nat → Nat → Nat → List Nat → List Nat
  | 0, _, _, F => F
  | n + 1, b, c, F => if b < c then lkG A n c (tabK (A.map (lk F))).length (num (A.map (lk F))) else F
def lcls (A : List Nd) : List Nat := lkG A (A.length + 2) 0 1 (List.replicate A.length 0)
theorem lk_at {A : List Nd} {F : List Nat} {i : Nat} (hi : i < A.length) : (A.map (lk F))[i]? = some (lk F A[i]) := by simp [hi]
theorem lk_step {A : List Nd} {F : List Nat} {i j : Nat} (hi : i < A.length) (hj : j < A.length) : (num (A.map (lk F)))[i]? = (num (A.map (lk F)))[j]? ↔ lk F A[i] = lk F A[j] := num_eq (lk_at hi) (lk_at hj)
theorem dst_zero (n : Nat) : dst (List.replicate (n + 1) 0) = 1 := by
  unfold dst
  rw [List.replicate_succ, List.map_cons, List.eraseDups_cons]
  have : (List.map (fun n => ((n : Nat) : Int)) (List.replicate n 0)).filter (fun b => !b == ((0 : Nat) : Int)) = [] := by
    rw [List.filter_eq_nil_iff]
    intro x hx
    obtain ⟨y, hy, rfl⟩ := List.mem_map.mp hx
    have := (List.mem_replicate.mp hy).2
    subst this
    simp
  rw [this]
  rfl
theorem lkG_bis {A : List Nd} (hA : ∀ x ∈ A, x.ok A.length) : ∀ (n b c : Nat) (F K : List Nat), F.length = A.length → K.length = A.length → b = dst K → c = dst F → A.length + 1 - b ≤ n → b ≤ A.length →
    F = num (A.map (lk K)) → (∀ (i j : Nat), i < A.length → j < A.length → F[i]? = F[j]? → K[i]? = K[j]?) →
    (lkG A n b c F).length = A.length ∧ Bis A (Sm (lkG A n b c F))
  | 0, b, c, F, K, _, _, _, _, hn, hb, _, _ => absurd hn (Nat.not_le.mpr (Nat.sub_pos_of_lt (Nat.lt_succ_of_le hb)))
  | n + 1, b, c, F, K, hF, hK, eb, ec, hn, hb, eF, hr => by
    rw [lkG]
    by_cases hlt : b < c
    · rw [if_pos hlt]
      have hd := dst_le F
      refine lkG_bis hA n c _ (num (A.map (lk F))) F (by rw [num_len]; simp) hF ec (dst_num _).symm (by omega) (by omega) rfl fun i j hi hj h => ?_
      have h1 := lk_hk ((lk_step hi hj).mp h)
      rw [eF]
      refine (lk_step hi hj).mpr (lk_of h1.1 fun k p q hp hq => ?_)
      have p1 := (A[i].ok_ps (hA _ (List.getElem_mem hi))).2 p (List.mem_of_getElem? hp)
      have q1 := (A[j].ok_ps (hA _ (List.getElem_mem hj))).2 q (List.mem_of_getElem? hq)
      exact (getD_eq (by omega) (by omega)).mpr (hr p q p1 q1 ((getD_eq (by omega) (by omega)).mp (h1.2 k p q hp hq)))
    · rw [if_neg hlt]
      refine ⟨hF, fun i j x y h hx hy => ?_⟩
      have hi := (List.getElem?_eq_some_iff.mp hx).1
      have hj := (List.getElem?_eq_some_iff.mp hy).1
      have ex : A[i] = x := (List.getElem?_eq_some_iff.mp hx).2
      have ey : A[j] = y := (List.getElem?_eq_some_iff.mp hy).2
      have e := h.2.2
      rw [eF] at e
      have h1 := lk_hk ((lk_step hi hj).mp e)
      rw [ex, ey] at h1
      refine ⟨h1.1, fun k p q hp hq => ?_⟩
      have p1 := (x.ok_ps (hA x (List.mem_of_getElem? hx))).2 p (List.mem_of_getElem? hp)
      have q1 := (y.ok_ps (hA y (List.mem_of_getElem? hy))).2 q (List.mem_of_getElem? hq)
      exact ⟨by omega, by omega, same_of_count (K := K) (by omega) (fun i j a b => hr i j (by omega) (by omega)) (by omega) (by omega) (by omega) ((getD_eq (by omega) (by omega)).mp (h1.2 k p q hp hq))⟩
theorem lkG_max {A : List Nd} {R : Nat → Nat → Prop} (hA : ∀ x ∈ A, x.ok A.length) (bs : Bis A R) : ∀ (n b c : Nat) (F : List Nat), F.length = A.length → (∀ (i j : Nat), i < A.length → j < A.length → R i j → F[i]? = F[j]?) → ∀ (i j : Nat), i < A.length → j < A.length → R i j → (lkG A n b c F)[i]? = (lkG A n b c F)[j]?
  | 0, _, _, F, _, h => h
  | n + 1, b, c, F, hF, h => by
    rw [lkG]
    split
    · refine lkG_max hA bs n _ _ (num (A.map (lk F))) (by rw [num_len]; simp) fun i j hi hj hr => ?_
      obtain ⟨h1, h2⟩ := bs i j _ _ hr (List.getElem?_eq_getElem hi) (List.getElem?_eq_getElem hj)
      refine (lk_step hi hj).mpr (lk_of h1 fun k p q hp hq => ?_)
      have p1 := (A[i].ok_ps (hA _ (List.getElem_mem hi))).2 p (List.mem_of_getElem? hp)
      have q1 := (A[j].ok_ps (hA _ (List.getElem_mem hj))).2 q (List.mem_of_getElem? hq)
      exact (getD_eq (by omega) (by omega)).mpr (h p q p1 q1 (h2 k p q hp hq))
    · exact h
theorem lcls_len_bis {A : List Nd} (hA : ∀ x ∈ A, x.ok A.length) (h0 : 0 < A.length) : (lcls A).length = A.length ∧ Bis A (Sm (lcls A)) := by
  unfold lcls
  rw [lkG, if_pos (by omega)]
  obtain ⟨m, hm⟩ : ∃ m, A.length = m + 1 := ⟨A.length - 1, by omega⟩
  refine lkG_bis hA (A.length + 1) 1 _ (num (A.map (lk (List.replicate A.length 0)))) (List.replicate A.length 0) (by rw [num_len]; simp) (by simp) (by rw [hm, dst_zero]) (dst_num _).symm (by omega) (by omega) rfl fun i j hi hj _ => ?_
  simp [hi, hj]
/-- the law's classes are the program's -/
theorem lcls_cls {A : List Nd} (hA : ∀ x ∈ A, x.ok A.length) (h0 : 0 < A.length) {i j : Nat} (hi : i < A.length) (hj : j < A.length) : (lcls A)[i]? = (lcls A)[j]? ↔ (cls A)[i]? = (cls A)[j]? := by
  obtain ⟨l1, b1⟩ := lcls_len_bis hA h0
  obtain ⟨l2, b2⟩ := cls_bis hA
  constructor
  · intro h
    exact cls_max hA b1 hi hj ⟨by omega, by omega, h⟩
  · intro h
    unfold lcls
    refine lkG_max hA b2 _ _ _ _ (by simp) (fun i j hi hj _ => ?_) i j hi hj ⟨by omega, by omega, h⟩
    simp [hi, hj]
end Py.Gr
set_option linter.all false
set_option maxRecDepth 100000
set_option maxHeartbeats 1000000
/-! PlO: the firsts, as a stack finds them and as a recursion does; least graphs again. -/
namespace Py.Gr
open Py
/-- the stack's way, as a relation -/
inductive Fst (A : List Nd) (K : List Nat) : List Nat → List Nat → List Nat → Prop where
  | nil (f : List Nat) : Fst A K [] f f
  | skip {a : Nat} {S f R : List Nat} : K[a]?.getD 0 ∈ f.map (fun b => K[b]?.getD 0) → Fst A K S f R → Fst A K (a :: S) f R
  | take {a : Nat} {S f R : List Nat} : K[a]?.getD 0 ∉ f.map (fun b => K[b]?.getD 0) → Fst A K ((A[a]?.getD (.var 0)).ps ++ S) (f ++ [a]) R → Fst A K (a :: S) f R
theorem Fst.det {A : List Nd} {K S f R R' : List Nat} (h : Fst A K S f R) (h' : Fst A K S f R') : R = R' := by
  induction h with
  | nil f => cases h'; rfl
  | skip hm _ ih =>
    cases h' with
    | skip _ h' => exact ih h'
    | take hn _ => exact absurd hm hn
  | take hn _ ih =>
    cases h' with
    | skip hm _ => exact absurd hm hn
    | take _ h' => exact ih h'
theorem fst_ {A : List Nd} {K : List Nat} (hA : Gok A) (hK : K.length = A.length) : ∀ (n : Nat) (S f : List Nat), LsOk A K f S → (A.length - f.length) * 101 + S.length < n → Fst A K S f (firstsG A K n S f) ∧ LsOk A K (firstsG A K n S f) []
  | 0, _, _, _, h => absurd h (Nat.not_lt_zero _)
  | n + 1, [], f, ok, _ => ⟨.nil f, ok⟩
  | n + 1, a :: S, f, ok, h => by
    rw [firstsG]
    have ha := ok.s_ a List.mem_cons_self
    have hx : A[a]? = some A[a] := List.getElem?_eq_getElem ha
    obtain ⟨p1, p2⟩ := A[a].ok_ps (hA.nd _ (List.getElem_mem ha))
    simp only [List.length_cons] at h
    by_cases hc : K[a]?.getD 0 ∈ f.map (fun b => K[b]?.getD 0)
    · rw [if_pos hc]
      have := fst_ hA hK n S f (ok.skip hc) (by omega)
      exact ⟨.skip hc this.1, this.2⟩
    · rw [if_neg hc]
      have ok2 := ok.take hc hx p2
      have l2 := ok2.len
      simp only [List.length_append, List.length_singleton] at l2
      have e : (A[a]?.getD (.var 0)).ps = A[a].ps := by rw [hx]; rfl
      have := fst_ hA hK n (A[a].ps ++ S) (f ++ [a]) ok2 (by simp only [List.length_append, List.length_singleton]; omega)
      rw [e]
      exact ⟨.take hc (by rw [e]; exact this.1), this.2⟩
theorem lsOk0 {A : List Nd} {K : List Nat} (h0 : 0 < A.length) : LsOk A K [] [0] := ⟨by simp, by simp, fun a ha => by simp at ha; omega, by simp⟩
theorem firsts_fst {A : List Nd} (hA : Gok A) (h0 : 0 < A.length) : Fst A (cls A) [0] [] (firsts A) ∧ LsOk A (cls A) (firsts A) [] := by
  have hl := hA.len
  exact fst_ hA (cls_bis hA.nd).1 100000 [0] [] (lsOk0 h0) (by simp; omega)
/-- only the relation counts -/
theorem mem_rel {K K' : List Nat} {n : Nat} (hK : K.length = n) (hK' : K'.length = n) (h : ∀ (i j : Nat), i < n → j < n → (K[i]? = K[j]? ↔ K'[i]? = K'[j]?)) {f : List Nat} (hf : ∀ b ∈ f, b < n) {a : Nat} (ha : a < n) :
    K[a]?.getD 0 ∈ f.map (fun b => K[b]?.getD 0) ↔ K'[a]?.getD 0 ∈ f.map (fun b => K'[b]?.getD 0) := by
  simp only [List.mem_map]
  constructor
  · rintro ⟨b, hb, e⟩
    refine ⟨b, hb, (getD_eq (by have := hf b hb; omega) (by omega)).mpr ((h b a (hf b hb) ha).mp ((getD_eq (by have := hf b hb; omega) (by omega)).mp e))⟩
  · rintro ⟨b, hb, e⟩
    refine ⟨b, hb, (getD_eq (by have := hf b hb; omega) (by omega)).mpr ((h b a (hf b hb) ha).mpr ((getD_eq (by have := hf b hb; omega) (by omega)).mp e))⟩
theorem idx_rel {K K' : List Nat} {n : Nat} (hK : K.length = n) (hK' : K'.length = n) (h : ∀ (i j : Nat), i < n → j < n → (K[i]? = K[j]? ↔ K'[i]? = K'[j]?)) {a : Nat} (ha : a < n) : ∀ {f : List Nat}, (∀ b ∈ f, b < n) →
    (f.map (fun b => K[b]?.getD 0)).idxOf (K[a]?.getD 0) = (f.map (fun b => K'[b]?.getD 0)).idxOf (K'[a]?.getD 0)
  | [], _ => rfl
  | b :: f, hf => by
    have hb := hf b List.mem_cons_self
    have ih := idx_rel hK hK' h ha fun c hc => hf c (List.mem_cons_of_mem _ hc)
    have e : K[b]?.getD 0 = K[a]?.getD 0 ↔ K'[b]?.getD 0 = K'[a]?.getD 0 := by
      rw [getD_eq (by omega) (by omega), getD_eq (by omega) (by omega)]
      exact h b a hb ha
    simp only [List.map_cons, List.idxOf_cons]
    by_cases q : K[b]?.getD 0 = K[a]?.getD 0
    · have q' := e.mp q
      simp [q, q']
    · have q' := fun z => q (e.mpr z)
      have b1 : (K[b]?.getD 0 == K[a]?.getD 0) = false := by simpa using q
      have b2 : (K'[b]?.getD 0 == K'[a]?.getD 0) = false := by simpa using q'
      rw [b1, b2, ih]
theorem Fst.rel {A : List Nd} {K K' : List Nat} (hA : Gok A) (hK : K.length = A.length) (hK' : K'.length = A.length) (h : ∀ (i j : Nat), i < A.length → j < A.length → (K[i]? = K[j]? ↔ K'[i]? = K'[j]?)) {S f R : List Nat} (p : Fst A K S f R) : (∀ b ∈ f, b < A.length) → (∀ b ∈ S, b < A.length) → Fst A K' S f R := by
  induction p with
  | nil f => intro _ _; exact .nil f
  | skip hm _ ih =>
    intro h1 h2
    exact .skip ((mem_rel hK hK' h h1 (h2 _ List.mem_cons_self)).mp hm) (ih h1 fun b hb => h2 b (List.mem_cons_of_mem _ hb))
  | @take a S f R hm _ ih =>
    intro h1 h2
    have ha := h2 a List.mem_cons_self
    refine .take (fun q => hm ((mem_rel hK hK' h h1 ha).mpr q)) (ih (fun b hb => ?_) fun b hb => ?_)
    · rcases List.mem_append.mp hb with q | q
      · exact h1 b q
      · have : b = a := by simpa using q
        omega
    · rcases List.mem_append.mp hb with q | q
      · rw [List.getElem?_eq_getElem ha] at q
        exact (A[a].ok_ps (hA.nd _ (List.getElem_mem ha))).2 b q
      · exact h2 b (List.mem_cons_of_mem _ q)
/-- the recursion's way: what a row of calls adds, n deep at most -/
def metR (A : List Nd) (K : List Nat) : Nat → List Nat → List Nat → List Nat
  | 0 => fun _ f => f
  | n + 1 => fun S f => S.foldl (fun f a => if K[a]?.getD 0 ∈ f.map (fun b => K[b]?.getD 0) then f else metR A K n (A[a]?.getD (.var 0)).ps (f ++ [a])) f
/-- what is kept: different classes, places of the graph -/
structure FOk (A : List Nd) (K f : List Nat) : Prop where
  nd : (f.map fun b => K[b]?.getD 0).Nodup
  f_ : ∀ a ∈ f, a < A.length
theorem FOk.len {A : List Nd} {K f : List Nat} (h : FOk A K f) : f.length ≤ A.length := by
  refine nodup_le _ _ ?_ h.f_
  have := h.nd
  rw [List.nodup_iff_pairwise_ne, List.pairwise_map] at this
  rw [List.nodup_iff_pairwise_ne]
  exact this.imp fun q e => q (by rw [e])
theorem FOk.take {A : List Nd} {K f : List Nat} {a : Nat} (h : FOk A K f) (ha : a < A.length) (hm : K[a]?.getD 0 ∉ f.map fun b => K[b]?.getD 0) : FOk A K (f ++ [a]) := by
  refine ⟨?_, fun b hb => ?_⟩
  · rw [List.map_append]
    refine List.nodup_append.mpr ⟨h.nd, by simp, fun y hy z hz e => ?_⟩
    have : z = K[a]?.getD 0 := by simpa using hz
    subst this e
    exact hm hy
  · rcases List.mem_append.mp hb with q | q
    · exact h.f_ b q
    · have : b = a := by simpa using q
      omega
theorem met_fst {A : List Nd} {K : List Nat} (hA : Gok A) : ∀ (n : Nat) (S f : List Nat), FOk A K f → (∀ a ∈ S, a < A.length) → A.length - f.length < n →
    FOk A K (metR A K n S f) ∧ f.length ≤ (metR A K n S f).length ∧ ∀ (U R : List Nat), Fst A K U (metR A K n S f) R → Fst A K (S ++ U) f R
  | 0, _, _, _, _, h => absurd h (Nat.not_lt_zero _)
  | n + 1, [], f, ok, _, _ => ⟨ok, Nat.le_refl _, fun _ _ h => h⟩
  | n + 1, a :: S, f, ok, hS, h => by
    have ha := hS a List.mem_cons_self
    have hx : A[a]? = some A[a] := List.getElem?_eq_getElem ha
    obtain ⟨p1, p2⟩ := A[a].ok_ps (hA.nd _ (List.getElem_mem ha))
    have e : (A[a]?.getD (.var 0)).ps = A[a].ps := by rw [hx]; rfl
    have st : metR A K (n + 1) (a :: S) f = metR A K (n + 1) S (if K[a]?.getD 0 ∈ f.map (fun b => K[b]?.getD 0) then f else metR A K n (A[a]?.getD (.var 0)).ps (f ++ [a])) := rfl
    by_cases hc : K[a]?.getD 0 ∈ f.map (fun b => K[b]?.getD 0)
    · rw [if_pos hc] at st
      rw [st]
      obtain ⟨h1, h2, h3⟩ := met_fst hA (n + 1) S f ok (fun b hb => hS b (List.mem_cons_of_mem _ hb)) h
      exact ⟨h1, h2, fun U R hU => .skip hc (h3 U R hU)⟩
    · rw [if_neg hc, e] at st
      rw [st]
      have ok2 := ok.take ha hc
      have l2 := ok2.len
      simp only [List.length_append, List.length_singleton] at l2
      obtain ⟨h1, h2, h3⟩ := met_fst hA n A[a].ps (f ++ [a]) ok2 p2 (by simp only [List.length_append, List.length_singleton]; omega)
      simp only [List.length_append, List.length_singleton] at h2
      obtain ⟨h4, h5, h6⟩ := met_fst hA (n + 1) S _ h1 (fun b hb => hS b (List.mem_cons_of_mem _ hb)) (by omega)
      refine ⟨h4, by omega, fun U R hU => .take hc ?_⟩
      rw [e]
      exact h3 _ _ (h6 U R hU)
  termination_by n S => (n, S.length)
/-- the recursion finds the firsts -/
theorem met_firsts {A : List Nd} (hA : Gok A) (h0 : 0 < A.length) {n : Nat} (hn : A.length < n) : metR A (lcls A) n [0] [] = firsts A := by
  obtain ⟨h1, h2, h3⟩ := met_fst (K := lcls A) hA n [0] [] ⟨by simp, by simp⟩ (fun a ha => by simp at ha; omega) (by simpa using hn)
  have f1 := h3 [] _ (.nil _)
  obtain ⟨f2, ok⟩ := firsts_fst hA h0
  have f3 := f2.rel hA (cls_bis hA.nd).1 (lcls_len_bis hA.nd h0).1 (fun i j hi hj => (lcls_cls hA.nd h0 hi hj).symm) (by simp) (fun b hb => by simp at hb; omega)
  exact f1.det f3
/-- the law's least graph -/
def leastW (A : List Nd) : List Nd := (firsts A).map fun a => (A[a]?.getD (.var 0)).re fun p => ((firsts A).map fun b => (lcls A)[b]?.getD 0).idxOf ((lcls A)[p]?.getD 0)
theorem leastW_eq {A : List Nd} (hA : Gok A) (h0 : 0 < A.length) : leastW A = leastL A := by
  obtain ⟨_, ok⟩ := firsts_fst hA h0
  refine List.map_congr_left fun a ha => ?_
  have hal := ok.f_ a ha
  rw [List.getElem?_eq_getElem hal]
  have hp := (A[a].ok_ps (hA.nd _ (List.getElem_mem hal))).2
  simp only [Option.getD_some]
  cases hx : A[a] with
  | tup w ps =>
    rw [hx] at hp
    simp only [Nd.re, Nd.tup.injEq, true_and]
    refine List.map_congr_left fun p hp' => ?_
    exact idx_rel (lcls_len_bis hA.nd h0).1 (cls_bis hA.nd).1 (fun i j hi hj => lcls_cls hA.nd h0 hi hj) (hp p hp') ok.f_
  | _ => rfl
end Py.Gr
set_option linter.all false
set_option maxRecDepth 100000
set_option maxHeartbeats 1000000
/-! PlQ: the least graph of a least graph is itself. -/
namespace Py.Gr
open Py
/-- a node's place in the least graph -/
def rho (A : List Nd) (p : Nat) : Nat := ((firsts A).map fun b => (cls A)[b]?.getD 0).idxOf ((cls A)[p]?.getD 0)
theorem leastL_at {A : List Nd} {i : Nat} (hi : i < (firsts A).length) : (leastL A)[i]? = some ((A[(firsts A)[i]]?.getD (.var 0)).re (rho A)) := by
  simp [leastL, hi]
  rfl
theorem leastL_len (A : List Nd) : (leastL A).length = (firsts A).length := by simp [leastL]
theorem re_hk (f : Nat → Nat) (x : Nd) : (x.re f).hk = x.hk := by cases x <;> simp [Nd.re, Nd.hk]
theorem re_ps (f : Nat → Nat) (x : Nd) : (x.re f).ps = x.ps.map f := by cases x <;> simp [Nd.re, Nd.ps]
theorem re_id {f : Nat → Nat} {x : Nd} (h : ∀ p ∈ x.ps, f p = p) : x.re f = x := by
  cases x with
  | tup w ps =>
    simp only [Nd.re, Nd.tup.injEq, true_and]
    exact (List.map_congr_left h).trans (List.map_id' _)
  | _ => rfl
/-- a class that is met stands at its place -/
theorem rho_at {A : List Nd} {p : Nat} (h : (cls A)[p]?.getD 0 ∈ (firsts A).map fun b => (cls A)[b]?.getD 0) : ∃ hl : rho A p < (firsts A).length, (cls A)[(firsts A)[rho A p]]?.getD 0 = (cls A)[p]?.getD 0 := by
  have hl := List.idxOf_lt_length_iff.mpr h
  have := List.getElem_idxOf hl
  rw [List.getElem_map] at this
  exact ⟨by rw [List.length_map] at hl; exact hl, this⟩
theorem Fst.pre {A : List Nd} {K S f R : List Nat} (h : Fst A K S f R) : f <+: R := by
  induction h with
  | nil f => exact List.prefix_refl f
  | skip _ _ ih => exact ih
  | take _ _ ih => exact (List.prefix_append _ _).trans ih
section
variable {A : List Nd} (hA : Gok A) (h0 : 0 < A.length)
include hA h0
theorem firsts_met : ∀ a ∈ firsts A, ∀ p ∈ (A[a]?.getD (.var 0)).ps, (cls A)[p]?.getD 0 ∈ (firsts A).map fun b => (cls A)[b]?.getD 0 := fun a ha p hp => by
  rcases (firsts_fst hA h0).2.cl a ha p hp with q | q
  · exact q
  · cases q
theorem rho_self {i : Nat} (hi : i < (firsts A).length) : rho A (firsts A)[i] = i := by
  have nd := (firsts_fst hA h0).2.nd
  have e : ((firsts A).map fun b => (cls A)[b]?.getD 0)[i]'(by simpa using hi) = (cls A)[(firsts A)[i]]?.getD 0 := by rw [List.getElem_map]
  unfold rho
  rw [← e]
  exact nd.idxOf_getElem i (by simpa using hi)
theorem leastL_ok : Gok (leastL A) := by
  obtain ⟨_, ok⟩ := firsts_fst hA h0
  have hl := hA.len
  have hf := ok.len
  refine ⟨by rw [leastL_len]; omega, fun x hx => ?_⟩
  obtain ⟨i, hi, rfl⟩ := List.getElem_of_mem hx
  rw [leastL_len] at hi
  have e := leastL_at hi
  have e2 := (List.getElem?_eq_some_iff.mp e).2
  rw [e2]
  have ha := List.getElem_mem hi
  have hal := ok.f_ _ ha
  have fm := firsts_met hA h0 _ ha
  rw [List.getElem?_eq_getElem hal] at fm ⊢
  simp only [Option.getD_some] at fm ⊢
  have p1 := (A[(firsts A)[i]].ok_ps (hA.nd _ (List.getElem_mem hal))).1
  cases hx : A[(firsts A)[i]] with
  | tup w ps =>
    rw [hx] at fm p1
    simp only [Nd.re, Nd.ok, Nd.ps] at fm p1 ⊢
    refine ⟨by simpa using p1, fun p hp => ?_⟩
    obtain ⟨q, hq, rfl⟩ := List.mem_map.mp hp
    rw [leastL_len]
    exact (rho_at (fm q hq)).1
  | _ => trivial
theorem leastL_pos : 0 < (leastL A).length := by
  rw [leastL_len]
  obtain ⟨h, ok⟩ := firsts_fst hA h0
  cases h with
  | skip hm _ => simp at hm
  | take _ h =>
    have := h.pre.length_le
    simp at this
    omega
/-- in a least graph no two nodes stand for one tree -/
theorem leastL_inj {i j : Nat} (hi : i < (leastL A).length) (hj : j < (leastL A).length) (h : (cls (leastL A))[i]? = (cls (leastL A))[j]?) : i = j := by
  have okL := leastL_ok hA h0
  obtain ⟨lL, bL⟩ := cls_bis okL.nd
  obtain ⟨lA, bA⟩ := cls_bis hA.nd
  obtain ⟨_, ok⟩ := firsts_fst hA h0
  have fm := firsts_met hA h0
  have hlen := leastL_len A
  let R : Nat → Nat → Prop := fun a b => a < A.length ∧ b < A.length ∧ ∃ i j, ∃ (hi : i < (firsts A).length) (hj : j < (firsts A).length), (cls A)[a]? = (cls A)[(firsts A)[i]]? ∧ (cls A)[b]? = (cls A)[(firsts A)[j]]? ∧ (cls (leastL A))[i]? = (cls (leastL A))[j]?
  have bR : Bis A R := by
    rintro a b x y ⟨ha, hb, i, j, hi, hj, e1, e2, e3⟩ hx hy
    have fi := ok.f_ _ (List.getElem_mem hi)
    have fj := ok.f_ _ (List.getElem_mem hj)
    obtain ⟨u1, u2⟩ := bA a _ x _ ⟨by omega, by omega, e1⟩ hx (List.getElem?_eq_getElem fi)
    obtain ⟨v1, v2⟩ := bA b _ y _ ⟨by omega, by omega, e2⟩ hy (List.getElem?_eq_getElem fj)
    obtain ⟨w1, w2⟩ := bL i j _ _ ⟨by omega, by omega, e3⟩ (leastL_at hi) (leastL_at hj)
    rw [re_hk, re_hk, List.getElem?_eq_getElem fi, List.getElem?_eq_getElem fj] at w1
    simp only [Option.getD_some] at w1
    refine ⟨u1.trans (w1.trans v1.symm), fun k p q hp hq => ?_⟩
    have lx := hk_len u1
    have ly := hk_len v1
    have hp' := (List.getElem?_eq_some_iff.mp hp).1
    have hq' := (List.getElem?_eq_some_iff.mp hq).1
    have kp : A[(firsts A)[i]].ps[k]? = some A[(firsts A)[i]].ps[k] := List.getElem?_eq_getElem (by omega)
    have kq : A[(firsts A)[j]].ps[k]? = some A[(firsts A)[j]].ps[k] := List.getElem?_eq_getElem (by omega)
    have s1 := u2 k p _ hp kp
    have s2 := v2 k q _ hq kq
    have fmi := fm _ (List.getElem_mem hi)
    have fmj := fm _ (List.getElem_mem hj)
    rw [List.getElem?_eq_getElem fi] at fmi
    rw [List.getElem?_eq_getElem fj] at fmj
    obtain ⟨ri, ei⟩ := rho_at (fmi _ (List.mem_of_getElem? kp))
    obtain ⟨rj, ej⟩ := rho_at (fmj _ (List.mem_of_getElem? kq))
    have s3 := w2 k (rho A A[(firsts A)[i]].ps[k]) (rho A A[(firsts A)[j]].ps[k]) (by rw [re_ps, List.getElem?_eq_getElem fi]; simp only [Option.getD_some, List.getElem?_map, kp, Option.map_some]) (by rw [re_ps, List.getElem?_eq_getElem fj]; simp only [Option.getD_some, List.getElem?_map, kq, Option.map_some])
    have l1 := ok.f_ _ (List.getElem_mem ri)
    have l2 := ok.f_ _ (List.getElem_mem rj)
    have t1 := s1.1
    have t2 := s1.2.1
    have t3 := s2.1
    have t4 := s2.2.1
    refine ⟨by omega, by omega, _, _, ri, rj, ?_, ?_, s3.2.2⟩
    · rw [s1.2.2]
      exact ((getD_eq (by omega) (by omega)).mp ei).symm
    · rw [s2.2.2]
      exact ((getD_eq (by omega) (by omega)).mp ej).symm
  rw [hlen] at hi hj
  have fi := ok.f_ _ (List.getElem_mem hi)
  have fj := ok.f_ _ (List.getElem_mem hj)
  have := cls_max hA.nd bR fi fj ⟨fi, fj, i, j, hi, hj, rfl, rfl, h⟩
  rw [← rho_self hA h0 hi, ← rho_self hA h0 hj]
  unfold rho
  rw [this]
/-- its firsts are its nodes, in their order -/
theorem leastL_fst : ∀ {S f R : List Nat}, Fst A (cls A) S f R → R = firsts A → (∀ a ∈ S, (cls A)[a]?.getD 0 ∈ (firsts A).map fun b => (cls A)[b]?.getD 0) → Fst (leastL A) (cls (leastL A)) (S.map (rho A)) (List.range f.length) (List.range (firsts A).length) := by
  intro S f R h
  have okL := leastL_ok hA h0
  have lL := (cls_bis okL.nd).1
  have hlen := leastL_len A
  obtain ⟨_, ok⟩ := firsts_fst hA h0
  have nd := ok.nd
  induction h with
  | nil f => intro e _; subst e; exact .nil _
  | @skip a S f R hm h ih =>
    intro e hS
    refine .skip ?_ (ih e fun b hb => hS b (List.mem_cons_of_mem _ hb))
    subst e
    obtain ⟨t, ht⟩ := h.pre
    refine List.mem_map.mpr ⟨rho A a, List.mem_range.mpr ?_, rfl⟩
    have : rho A a = (f.map fun b => (cls A)[b]?.getD 0).idxOf ((cls A)[a]?.getD 0) := by
      unfold rho
      rw [← ht, List.map_append, List.idxOf_append, if_pos hm]
    rw [this]
    simpa using List.idxOf_lt_length_iff.mpr hm
  | @take a S f R hm h ih =>
    intro e hS
    subst e
    have pre := h.pre
    obtain ⟨t, ht⟩ := pre
    have hlt : f.length < (firsts A).length := by rw [← ht]; simp
    have ea : (firsts A)[f.length] = a := by
      simp only [← ht]
      simp
    have er : rho A a = f.length := by
      have := rho_self hA h0 hlt
      rw [ea] at this
      exact this
    have al := ok.f_ _ (List.getElem_mem hlt)
    rw [ea] at al
    have am : a ∈ firsts A := by rw [← ea]; exact List.getElem_mem hlt
    have ih := ih rfl fun b hb => by
      rcases List.mem_append.mp hb with q | q
      · exact firsts_met hA h0 a am b q
      · exact hS b (List.mem_cons_of_mem _ q)
    rw [List.map_cons, er]
    refine .take (fun q => ?_) ?_
    · obtain ⟨b, hb, e⟩ := List.mem_map.mp q
      have hb := List.mem_range.mp hb
      have := leastL_inj hA h0 (i := b) (j := f.length) (by omega) (by omega) ((getD_eq (by omega) (by omega)).mp e)
      omega
    · rw [leastL_at hlt, ea]
      simp only [Option.getD_some, re_ps]
      rw [List.map_append, List.length_append, List.length_singleton, List.range_succ] at ih
      exact ih
theorem leastL_firsts : firsts (leastL A) = List.range (leastL A).length := by
  have okL := leastL_ok hA h0
  obtain ⟨f1, ok⟩ := firsts_fst hA h0
  have h1 := (firsts_fst okL (leastL_pos hA h0)).1
  have hm : ∀ a ∈ [0], (cls A)[a]?.getD 0 ∈ (firsts A).map fun b => (cls A)[b]?.getD 0 := by
    intro a ha
    have : a = 0 := by simpa using ha
    subst this
    cases f1 with
    | skip hm _ => simp at hm
    | take _ h =>
      refine List.mem_map.mpr ⟨0, ?_, rfl⟩
      exact h.pre.subset (by simp)
  have h2 := leastL_fst hA h0 f1 rfl hm
  have r0 : rho A 0 = 0 := by
    have hp := leastL_pos hA h0
    rw [leastL_len] at hp
    have e : (firsts A)[0] = 0 := by
      cases f1 with
      | skip hm _ => simp at hm
      | take _ h =>
        obtain ⟨t, ht⟩ := h.pre
        simp only [← ht]
        simp
    have := rho_self hA h0 hp
    rw [e] at this
    exact this
  simp only [List.map_cons, List.map_nil, r0, List.length_nil, List.range_zero] at h2
  rw [leastL_len]
  exact h1.det h2
/-- the least graph of a least graph -/
theorem leastL_leastL : leastL (leastL A) = leastL A := by
  have okL := leastL_ok hA h0
  have lL := (cls_bis okL.nd).1
  have hf := leastL_firsts hA h0
  apply List.ext_getElem?
  intro i
  by_cases hi : i < (leastL A).length
  · have hi2 : i < (firsts (leastL A)).length := by rw [hf]; simpa using hi
    rw [leastL_at hi2]
    have e : (firsts (leastL A))[i] = i := by simp [hf]
    rw [e, List.getElem?_eq_getElem hi]
    simp only [Option.getD_some, Option.some.injEq]
    refine re_id fun p hp => ?_
    have pl := ((leastL A)[i].ok_ps (okL.nd _ (List.getElem_mem hi))).2 p hp
    have pl2 : p < (firsts (leastL A)).length := by rw [hf]; simpa using pl
    have := rho_self okL (leastL_pos hA h0) pl2
    have e2 : (firsts (leastL A))[p] = p := by simp [hf]
    rw [e2] at this
    exact this
  · have hl : (leastL (leastL A)).length = (leastL A).length := by
      rw [leastL_len (leastL A), hf, List.length_range]
    rw [List.getElem?_eq_none (by omega), List.getElem?_eq_none (by omega)]
end
end Py.Gr
set_option linter.all false
set_option maxRecDepth 100000
set_option maxHeartbeats 1000000
/-! PlR: circles of graphs, in plain words. -/
namespace Py.Gr
open Py
def psA (A : List Nd) (a : Nat) : List Nat := (A[a]?.getD (.var 0)).ps
/-- one leads to the other -/
inductive Rch (A : List Nd) : Nat → Nat → Prop where
  | one {a b : Nat} : b ∈ psA A a → Rch A a b
  | step {a b c : Nat} : b ∈ psA A a → Rch A b c → Rch A a c
theorem psA_lt {A : List Nd} (hA : Gok A) {a b : Nat} (h : b ∈ psA A a) : a < A.length ∧ b < A.length := by
  unfold psA at h
  by_cases ha : a < A.length
  · rw [List.getElem?_eq_getElem ha] at h
    exact ⟨ha, (A[a].ok_ps (hA.nd _ (List.getElem_mem ha))).2 b h⟩
  · rw [List.getElem?_eq_none (by omega)] at h
    simp [Nd.ps] at h
/-- what a count of edges that is done has found -/
structure Kend (A : List Nd) (P : List Nat) : Prop where
  nd : P.Nodup
  lt : ∀ v ∈ P, v < A.length
  left : ∀ v, v < A.length → v ∉ P → ∃ u, u < A.length ∧ u ∉ P ∧ v ∈ psA A u
  top : ∀ (pre post : List Nat) (v : Nat), P = pre ++ v :: post → ∀ u, v ∈ psA A u → u ∈ pre
theorem Kend.circle {A : List Nd} {P : List Nat} (h : Kend A P) (hl : P.length < A.length) : ∃ v, v < A.length ∧ Rch A v v := by
  apply Classical.byContradiction
  intro hno
  obtain ⟨v, hv, hvP⟩ : ∃ v, v < A.length ∧ v ∉ P := by
    apply Classical.byContradiction
    intro hn
    have := sub_len (List.range A.length) P List.nodup_range fun x hx => by
      apply Classical.byContradiction
      intro hx2
      exact hn ⟨x, List.mem_range.mp hx, hx2⟩
    rw [List.length_range] at this
    omega
  have rows : ∀ m : Nat, ∃ a l, (a :: l).length = m + 1 ∧ (∀ x ∈ a :: l, x < A.length ∧ x ∉ P) ∧ (a :: l).Pairwise (Rch A) := by
    intro m
    induction m with
    | zero =>
      refine ⟨v, [], rfl, fun x hx => ?_, by simp⟩
      have e : x = v := by simpa using hx
      rw [e]
      exact ⟨hv, hvP⟩
    | succ m ih =>
      obtain ⟨a, l, hlen, hx, hp⟩ := ih
      obtain ⟨h1, h2⟩ := hx a List.mem_cons_self
      obtain ⟨u, hu, huP, he⟩ := h.left a h1 h2
      refine ⟨u, a :: l, by simp at hlen ⊢; omega, fun x hx' => ?_, List.pairwise_cons.mpr ⟨fun x hx' => ?_, hp⟩⟩
      · rcases List.mem_cons.mp hx' with rfl | q
        · exact ⟨hu, huP⟩
        · exact hx x q
      · rcases List.mem_cons.mp hx' with rfl | q
        · exact .one he
        · exact .step he ((List.pairwise_cons.mp hp).1 x q)
  obtain ⟨a, l, hlen, hx, hp⟩ := rows A.length
  have nd : (a :: l).Nodup := by
    rw [List.nodup_iff_pairwise_ne]
    refine hp.imp_of_mem fun ha _ hr e => ?_
    subst e
    exact hno ⟨_, (hx _ ha).1, hr⟩
  have := sub_len (a :: l) (List.range A.length) nd fun x hx' => List.mem_range.mpr (hx x hx').1
  rw [List.length_range] at this
  omega
theorem Kend.none {A : List Nd} {P : List Nat} (hA : Gok A) (h : Kend A P) (hl : A.length ≤ P.length) {v : Nat} : ¬ Rch A v v := by
  have all : ∀ x, x < A.length → x ∈ P := fun x hx =>
    (perm_of_sub P (List.range A.length) h.nd (fun y hy => List.mem_range.mpr (h.lt y hy)) (by rw [List.length_range]; exact hl)).subset (List.mem_range.mpr hx)
  have edge : ∀ u w, w ∈ psA A u → P.idxOf u < P.idxOf w := by
    intro u w hw
    have wl := (psA_lt hA hw).2
    have wP := List.idxOf_lt_length_iff.mpr (all w wl)
    have e := List.getElem_idxOf wP
    have sp : P = P.take (P.idxOf w) ++ w :: P.drop (P.idxOf w + 1) := by
      have := (List.take_append_drop (P.idxOf w) P).symm
      rw [List.drop_eq_getElem_cons wP, e] at this
      exact this
    have hu := h.top _ _ _ sp u hw
    obtain ⟨i, hi, e2⟩ := List.getElem_of_mem hu
    rw [List.getElem_take] at e2
    simp only [List.length_take] at hi
    have := h.nd.idxOf_getElem i (by omega)
    rw [e2] at this
    omega
  have far : ∀ u w, Rch A u w → P.idxOf u < P.idxOf w := by
    intro u w hr
    induction hr with
    | one h => exact edge _ _ h
    | step h _ ih => exact Nat.lt_trans (edge _ _ h) ih
  intro hr
  exact Nat.lt_irrefl _ (far v v hr)
theorem Kend.iff {A : List Nd} {P : List Nat} (hA : Gok A) (h : Kend A P) : P.length < A.length ↔ ∃ v, v < A.length ∧ Rch A v v :=
  ⟨h.circle, fun ⟨v, _, hr⟩ => by
    by_cases c : P.length < A.length
    · exact c
    · exact absurd hr (h.none hA (by omega))⟩
/-- a search from a node's parts that is done, and did not meet it -/
theorem no_back {A : List Nd} {a : Nat} {seen : List Nat} (h1 : ∀ p ∈ psA A a, p ∈ seen) (h2 : ∀ s ∈ seen, ∀ p ∈ psA A s, p ∈ seen) (h3 : a ∉ seen) : ¬ Rch A a a := by
  have far : ∀ u w, Rch A u w → (∀ p ∈ psA A u, p ∈ seen) → w ∈ seen := by
    intro u w hr
    induction hr with
    | one h => intro q; exact q _ h
    | step h _ ih => intro q; exact ih (h2 _ (q _ h))
  exact fun hr => h3 (far a a hr h1)
theorem Rch.snoc {A : List Nd} {a b c : Nat} (h : Rch A a b) (h2 : c ∈ psA A b) : Rch A a c := by
  induction h with
  | one h => exact .step h (.one h2)
  | step h _ ih => exact .step h (ih h2)
end Py.Gr
set_option linter.all false
set_option maxRecDepth 100000
set_option maxHeartbeats 1000000
/-! PlD: the laws' drawn graphs (k01, k02, k06 and others alike), told once for any table. -/
namespace Py.Gr
open Py
def farF (dr : Nat) : Fn := ⟨1, 1, (.cons (.ifs (.cmp .gt (.call dr (.cons (.v 0) (.cons (.c (.int 4)) .nil))) (.c (.int 0))) (.cons (.ret (.call dr (.cons (.v 0) (.cons (.c (.int 3)) .nil)))) .nil) .nil) (.cons (.ret (.ix (.lst (.cons (.c (.int 10)) (.cons (.c (.int 12)) (.cons (.bin .pow (.c (.int 10)) (.c (.int 9))) (.cons (.call dr (.cons (.v 0) (.cons (.bin .pow (.c (.int 10)) (.c (.int 9))) .nil))) .nil))))) (.call dr (.cons (.v 0) (.cons (.c (.int 4)) .nil))))) .nil))⟩
def atomB (dr : Nat) : Ss := (.cons (.set (.nm 1) (.bin .add (.v 1) (.ix (.c (.str ['a', 'b', 'z', '0', '1', '9'])) (.call dr (.cons (.v 0) (.cons (.c (.int 6)) .nil)))))) .nil)
def atomL (dr : Nat) : S := .for (.nm 2) (.rng (.cons (.call dr (.cons (.v 0) (.cons (.c (.int 3)) .nil))) .nil)) (atomB dr)
def atomF (dr : Nat) : Fn := ⟨1, 3, (.cons (.ifs (.cmp .gt (.call dr (.cons (.v 0) (.cons (.c (.int 3)) .nil))) (.c (.int 0))) (.cons (.ret (.ix (.lst (.cons (.c (.str ['a'])) (.cons (.c (.str ['b'])) (.cons (.c (.str ['n', 'i', 'l'])) (.cons (.c (.str ['x', '1'])) (.cons (.c (.str ['a', 'b', 'c', 'd', 'e', 'f', 'g', 'h', 'i', 'j', 'k', 'l'])) .nil)))))) (.call dr (.cons (.v 0) (.cons (.c (.int 5)) .nil))))) .nil) .nil) (.cons (.set (.nm 1) (.ix (.c (.str ['a', 'b', 'z'])) (.call dr (.cons (.v 0) (.cons (.c (.int 3)) .nil))))) (.cons (atomL dr) (.cons (.ret (.v 1)) .nil))))⟩
def nodeC (dr : Nat) : E := .comp (.nm 4) (.rng (.cons (.ix (.lst (.cons (.c (.int 1)) (.cons (.c (.int 2)) (.cons (.c (.int 2)) (.cons (.c (.int 3)) (.cons (.c (.int 6)) .nil)))))) (.call dr (.cons (.v 0) (.cons (.c (.int 5)) .nil)))) .nil)) (.c (.bl true)) (.call dr (.cons (.v 0) (.cons (.v 1) .nil)))
def nodeF (dr fa at_ : Nat) : Fn := ⟨2, 5, (.cons (.set (.nm 2) (.call dr (.cons (.v 0) (.cons (.c (.int 9)) .nil)))) (.cons (.ifs (.cmp .eq (.v 2) (.c (.int 0))) (.cons (.ret (.tup (.cons (.c (.str ['v', 'a', 'r'])) (.cons (.call fa (.cons (.v 0) .nil)) .nil)))) .nil) .nil) (.cons (.ifs (.cmp .eq (.v 2) (.c (.int 1))) (.cons (.ret (.tup (.cons (.c (.str ['i', 'n', 't'])) (.cons (.ix (.lst (.cons (.c (.int 0)) (.cons (.c (.int 1)) (.cons (.neg (.c (.int 1))) (.cons (.c (.int 7)) (.cons (.neg (.c (.int 12))) (.cons (.bin .pow (.c (.int 10)) (.c (.int 9))) (.cons (.neg (.bin .pow (.c (.int 10)) (.c (.int 9)))) .nil)))))))) (.call dr (.cons (.v 0) (.cons (.c (.int 7)) .nil)))) .nil)))) .nil) .nil) (.cons (.ifs (.cmp .eq (.v 2) (.c (.int 2))) (.cons (.ret (.tup (.cons (.c (.str ['a', 't', 'o', 'm'])) (.cons (.call at_ (.cons (.v 0) .nil)) .nil)))) .nil) .nil) (.cons (.ifs (.cmp .eq (.v 2) (.c (.int 3))) (.cons (.ret (.tup (.cons (.c (.str ['n', 'a', 'm', 'e'])) (.cons (.call at_ (.cons (.v 0) .nil)) (.cons (.call fa (.cons (.v 0) .nil)) .nil))))) .nil) .nil) (.cons (.set (.nm 3) (nodeC dr)) (.cons (.ret (.tup (.cons (.c (.str ['t', 'u', 'p', 'l', 'e'])) (.cons (.ix (.lst (.cons (.c (.str ['f'])) (.cons (.c (.str ['f'])) (.cons (.c (.str ['f', 'a'])) (.cons (.c (.str ['c', 'o', 'n', 's'])) (.cons (.c (.str ['c', 'e', 'l', 'l'])) .nil)))))) (.call dr (.cons (.v 0) (.cons (.c (.int 5)) .nil)))) (.cons (.bi .tuple (.cons (.v 3) .nil)) .nil))))) .nil)))))))⟩
def graphC (dr nd : Nat) : E := .comp (.nm 3) (.rng (.cons (.v 2) .nil)) (.c (.bl true)) (.call nd (.cons (.v 0) (.cons (.v 2) .nil)))
def graphF (dr nd : Nat) : Fn := ⟨2, 4, (.cons (.set (.nm 2) (.bin .add (.c (.int 1)) (.call dr (.cons (.v 0) (.cons (.v 1) .nil))))) (.cons (.ret (.bi .tuple (.cons (graphC dr nd) .nil))) .nil))⟩
section
variable {T : Tb} {ns : List Int} {l r k : Nat} {g : G}
theorem far_ {dr fa : Nat} (hd : T.fn dr = some drawF) (hF : T.fn fa = some (farF dr)) (s : Strm ns l r g) : ∃ v g', runF T (k + 2) fa [.ref r] g = .ok (.int v) g' ∧ Strm ns l r g' ∧ Keep r g g' := by
  obtain ⟨v1, g1, e1, a1, b1, s1, k1⟩ := draw_ (k := k) (many := 4) hd s (by decide) (by decide)
  by_cases h : 0 < v1
  · obtain ⟨v2, g2, e2, a2, b2, s2, k2⟩ := draw_ (k := k) (many := 3) hd s1 (by decide) (by decide)
    refine ⟨v2, g2, runF_rt hF rfl ?_, s2, k1.trans k2⟩
    simp [farF, evSs, evS, ev, evs, evI, Py.R.bind, ofO, isinst, truth, Py.R.test, Py.R.lay, lay, Py.R.toO, Py.O.then, asg, items, listOf, index, setIx, built1, built2, lenOf, cmpop, binop, augop, ordX, ltv, ltvs, alikeD, alikesD, D.isNon, keyed, isin, tr, trX, trL, eqv, eqvs, btype, bmok, bmeth, boolsOf, atI, ixN, small, e1, e2, h]
  · obtain ⟨v2, g2, e2, a2, b2, s2, k2⟩ := draw_ (k := k) (many := 1000000000) hd s1 (by decide) (by decide)
    obtain ⟨v3, g3, e3, a3, b3, s3, k3⟩ := draw_ (k := k) (many := 4) hd s2 (by decide) (by decide)
    obtain ⟨w, ew⟩ : ∃ w : Int, ([.int 10, .int 12, .int 1000000000, .int v2] : List D)[v3.toNat]? = some (.int w) := by
      have hv : v3 = 0 ∨ v3 = 1 ∨ v3 = 2 ∨ v3 = 3 := by omega
      rcases hv with rfl | rfl | rfl | rfl <;> exact ⟨_, rfl⟩
    refine ⟨w, g3, runF_rt hF rfl ?_, s3, (k1.trans k2).trans k3⟩
    have hv : v3 = 0 ∨ v3 = 1 ∨ v3 = 2 ∨ v3 = 3 := by omega
    rcases hv with rfl | rfl | rfl | rfl <;> simp at ew <;> subst ew <;> simp [farF, evSs, evS, ev, evs, evI, Py.R.bind, ofO, isinst, truth, Py.R.test, Py.R.lay, lay, Py.R.toO, Py.O.then, asg, items, listOf, index, setIx, built1, built2, lenOf, cmpop, binop, augop, ordX, ltv, ltvs, alikeD, alikesD, D.isNon, keyed, isin, tr, trX, trL, eqv, eqvs, btype, bmok, bmeth, boolsOf, atI, ixN, small, e1, e2, e3, h, line]
theorem atom_ {dr at_ : Nat} (hd : T.fn dr = some drawF) (hF : T.fn at_ = some (atomF dr)) (s : Strm ns l r g) : ∃ w g', runF T (k + 2) at_ [.ref r] g = .ok (.str w) g' ∧ Strm ns l r g' ∧ Keep r g g' := by
  obtain ⟨v1, g1, e1, a1, b1, s1, k1⟩ := draw_ (k := k) (many := 3) hd s (by decide) (by decide)
  by_cases h : 0 < v1
  · obtain ⟨v2, g2, e2, a2, b2, s2, k2⟩ := draw_ (k := k) (many := 5) hd s1 (by decide) (by decide)
    have hv : v2 = 0 ∨ v2 = 1 ∨ v2 = 2 ∨ v2 = 3 ∨ v2 = 4 := by omega
    obtain ⟨w, ew⟩ : ∃ w, evSs T (runF T (k + 1)) (atomF dr).body [some (.ref r), none, none] g = .rt (.str w) g2 := by
      rcases hv with rfl | rfl | rfl | rfl | rfl <;> exact ⟨_, by simp [atomF, evSs, evS, ev, evs, evI, Py.R.bind, ofO, isinst, truth, Py.R.test, Py.R.lay, lay, Py.R.toO, Py.O.then, asg, items, listOf, index, setIx, built1, built2, lenOf, cmpop, binop, augop, ordX, ltv, ltvs, alikeD, alikesD, D.isNon, keyed, isin, tr, trX, trL, eqv, eqvs, btype, bmok, bmeth, boolsOf, atI, ixN, small, e1, e2, h, line]; rfl⟩
    exact ⟨w, g2, runF_rt hF rfl ew, s2, k1.trans k2⟩
  · obtain ⟨v2, g2, e2, a2, b2, s2, k2⟩ := draw_ (k := k) (many := 3) hd s1 (by decide) (by decide)
    obtain ⟨v3, g3, e3, a3, b3, s3, k3⟩ := draw_ (k := k) (many := 3) hd s2 (by decide) (by decide)
    obtain ⟨w0, hw0, i0⟩ : ∃ w0 : Tx, w0.length ≤ 1 ∧ ∀ g : G, index g (.d (.str ['a', 'b', 'z'])) (.int v2) = some (.str w0) := by
      have hv : v2 = 0 ∨ v2 = 1 ∨ v2 = 2 := by omega
      rcases hv with rfl | rfl | rfl
      · exact ⟨['a'], by decide, fun g => by simp [index, atI, ixN, line]⟩
      · exact ⟨['b'], by decide, fun g => by simp [index, atI, ixN, line]⟩
      · exact ⟨['z'], by decide, fun g => by simp [index, atI, ixN, line]⟩
    obtain ⟨L', g4, e4, w, m2, hw, rfl, s4, k4⟩ : ∃ L' g4, loopF (.rng 0 v3.toNat) (.nm 2) (fun L g => evSs T (runF T (k + 1)) (atomB dr) L g) fuel 0 [some (.ref r), some (.str w0), none] g3 = .nx L' g4 ∧ ∃ (w : Tx) (m2 : Option D), w.length ≤ 1 + v3.toNat ∧ L' = [some (.ref r), some (.str w), m2] ∧ Strm ns l r g4 ∧ Keep r g3 g4 := by
      refine loopF_ind (n := v3.toNat) (fun i L g => ∃ (w : Tx) (m2 : Option D), w.length ≤ 1 + i ∧ L = [some (.ref r), some (.str w), m2] ∧ Strm ns l r g ∧ Keep r g3 g) (fun i L g hi ⟨w, m2, hw, eL, s4, k4⟩ => ?_) (fun L g p => by simp [turn]) fuel 0 _ _ (Nat.zero_le _) (by unfold fuel; omega) ⟨w0, none, by omega, rfl, s3, .refl _ _⟩
      subst eL
      obtain ⟨v5, g5, e5, a5, b5, s5, k5⟩ := draw_ (k := k) (many := 6) hd s4 (by decide) (by decide)
      have hl : w.length + 1 ≤ 16777216 := by omega
      obtain ⟨c, i5⟩ : ∃ c : Char, ∀ g : G, index g (.d (.str ['a', 'b', 'z', '0', '1', '9'])) (.int v5) = some (.str [c]) := by
        have hv : v5 = 0 ∨ v5 = 1 ∨ v5 = 2 ∨ v5 = 3 ∨ v5 = 4 ∨ v5 = 5 := by omega
        rcases hv with rfl | rfl | rfl | rfl | rfl | rfl
        · exact ⟨'a', fun g => by simp [index, atI, ixN, line]⟩
        · exact ⟨'b', fun g => by simp [index, atI, ixN, line]⟩
        · exact ⟨'z', fun g => by simp [index, atI, ixN, line]⟩
        · exact ⟨'0', fun g => by simp [index, atI, ixN, line]⟩
        · exact ⟨'1', fun g => by simp [index, atI, ixN, line]⟩
        · exact ⟨'9', fun g => by simp [index, atI, ixN, line]⟩
      refine ⟨.int i, _, by simp [turn, hi], rfl, _, g5, .inl ?_, w ++ [c], some (.int i), by simp; omega, rfl, s5, k4.trans k5⟩
      simp [atomB, evSs, evS, ev, evs, e5, i5, Py.R.bind, Py.R.toO, Py.R.lay, Py.O.then, ofO, asg, lay, binop, line, hl]
    have e6 : evS T (runF T (k + 1)) (atomL dr) [some (.ref r), some (.str w0), none] g2 = .nx [some (.ref r), some (.str w), m2] g4 := by
      refine ev_for (it := .rng 0 v3.toNat) (g1 := g3) ?_ e4
      have b1 : v3 < 4611686018427387904 := by omega
      have b2 : -4611686018427387904 ≤ v3 := by omega
      simp [evI, ev, evs, e3, Py.R.bind, Py.R.lay, lay, ofO, b1, b2]
    refine ⟨w, g4, runF_rt hF rfl ?_, s4, ((k1.trans k2).trans k3).trans k4⟩
    have c1 : ∀ g : G, cmpop g .gt (.d (.int v1)) (.d (.int 0)) = some false := fun g => by simp [cmpop, h]
    simp [atomF, evSs, evS, ev, evs, e1, e2, i0, e6, c1, Py.R.bind, truth, Py.R.test, Py.R.toO, Py.R.lay, Py.O.then, ofO, asg, lay]
theorem parts__ {dr : Nat} (hd : T.fn dr = some drawF) {many : Nat} {x2 x3 x4 : Option D} (s : Strm ns l r g) (h0 : 0 < many) (h1 : many ≤ 1000) :
    ∃ (ps : List Nat) (g' : G), ev T (runF T (k + 1)) (nodeC dr) [some (.ref r), some (.int (many : Nat)), x2, x3, x4] g = .ok (.tmp (ps.map fun p => .int (p : Nat))) g' ∧ ps.length ≤ 6 ∧ (∀ p ∈ ps, p < many) ∧ Strm ns l r g' ∧ Keep r g g' := by
  obtain ⟨v1, g1, e1, a1, b1, s1, k1⟩ := draw_ (k := k) (many := 5) hd s (by decide) (by decide)
  have hv : v1 = 0 ∨ v1 = 1 ∨ v1 = 2 ∨ v1 = 3 ∨ v1 = 4 := by omega
  obtain ⟨n, hn, en⟩ : ∃ n : Nat, n ≤ 6 ∧ ∀ g : G, index g (.tmp [.int 1, .int 2, .int 2, .int 3, .int 6]) (.int v1) = some (.int n) := by
    rcases hv with rfl | rfl | rfl | rfl | rfl
    · exact ⟨1, by decide, fun g => by simp [index, atI, ixN]⟩
    · exact ⟨2, by decide, fun g => by simp [index, atI, ixN]⟩
    · exact ⟨2, by decide, fun g => by simp [index, atI, ixN]⟩
    · exact ⟨3, by decide, fun g => by simp [index, atI, ixN]⟩
    · exact ⟨6, by decide, fun g => by simp [index, atI, ixN]⟩
  obtain ⟨acc, g', e2, ps, rfl, hl, hps, s2, k2⟩ : ∃ acc g', loopC (.rng 0 n) (.nm 4) (fun L g => (ev T (runF T (k + 1)) (.c (.bl true)) L g).test) (fun L g => (ev T (runF T (k + 1)) (.call dr (.cons (.v 0) (.cons (.v 1) .nil))) L g).lay) [some (.ref r), some (.int (many : Nat)), x2, x3, x4] fuel 0 [] g1 = .ok acc g' ∧ ∃ ps : List Nat, acc = ps.map (fun p => .int (p : Nat)) ∧ ps.length = n ∧ (∀ p ∈ ps, p < many) ∧ Strm ns l r g' ∧ Keep r g1 g' := by
    refine loopC_ind (n := n) (fun i acc g' => ∃ ps : List Nat, acc = ps.map (fun p => .int (p : Nat)) ∧ ps.length = i ∧ (∀ p ∈ ps, p < many) ∧ Strm ns l r g' ∧ Keep r g1 g') (fun i acc g' hi ⟨ps, ea, hl, hp, sg, kg⟩ => ?_) (fun acc g' p => by simp [turn]) fuel 0 [] g1 (Nat.zero_le _) (by unfold fuel; omega) ⟨[], rfl, rfl, by simp, s1, .refl r g1⟩
    subst ea
    obtain ⟨v, g2, e, a, b, s2, k2⟩ := draw_ (k := k) (many := (many : Nat)) hd sg (by omega) (by omega)
    have ev' : (v.toNat : Int) = v := Int.toNat_of_nonneg a
    refine ⟨.int i, _, by simp [turn, hi], rfl, by simp [line]; omega, .inl ⟨.int v, g', g2, by simp [evSs, evS, ev, evs, evI, Py.R.bind, ofO, isinst, truth, Py.R.test, Py.R.lay, lay, Py.R.toO, Py.O.then, asg, items, listOf, index, setIx, built1, built2, lenOf, cmpop, binop, augop, ordX, ltv, ltvs, alikeD, alikesD, D.isNon, keyed, isin, tr, trX, trL, eqv, eqvs, btype, bmok, bmeth, boolsOf, atI, ixN, small], by simp [evSs, evS, ev, evs, evI, Py.R.bind, ofO, isinst, truth, Py.R.test, Py.R.lay, lay, Py.R.toO, Py.O.then, asg, items, listOf, index, setIx, built1, built2, lenOf, cmpop, binop, augop, ordX, ltv, ltvs, alikeD, alikesD, D.isNon, keyed, isin, tr, trX, trL, eqv, eqvs, btype, bmok, bmeth, boolsOf, atI, ixN, small, e], ps ++ [v.toNat], ?_, by simp [hl], fun p hp' => ?_, s2, kg.trans k2⟩⟩
    · simp [ev']
    · rcases List.mem_append.mp hp' with q | q
      · exact hp p q
      · have : p = v.toNat := by simpa using q
        omega
  refine ⟨ps, g', ?_, by omega, hps, s2, k1.trans k2⟩
  refine ev_comp (it := .rng 0 n) (g1 := g1) ?_ e2
  have b1 : (n : Int) < 4611686018427387904 := by omega
  have b2 : (-4611686018427387904 : Int) ≤ n := by omega
  simp [evI, ev, evs, e1, en, Py.R.bind, Py.R.lay, lay, ofO, b1, b2, line]
theorem node_ {dr fa at_ nd : Nat} (hd : T.fn dr = some drawF) (hfa : T.fn fa = some (farF dr)) (hat : T.fn at_ = some (atomF dr)) (hF : T.fn nd = some (nodeF dr fa at_)) {many : Nat} (s : Strm ns l r g) (h0 : 0 < many) (h1 : many ≤ 1000) : ∃ x g', runF T (k + 3) nd [.ref r, .int (many : Nat)] g = .ok (Nd.d x) g' ∧ x.ok many ∧ Strm ns l r g' ∧ Keep r g g' := by
  obtain ⟨v1, g1, e1, a1, b1, s1, k1⟩ := draw_ (k := k + 1) (many := 9) hd s (by decide) (by decide)
  have go : ∀ {x : Nd} {g' : G}, evSs T (runF T (k + 2)) (nodeF dr fa at_).body [some (.ref r), some (.int (many : Nat)), none, none, none] g = .rt x.d g' → x.ok many → Strm ns l r g' → Keep r g1 g' → ∃ x g', runF T (k + 3) nd [.ref r, .int (many : Nat)] g = .ok (Nd.d x) g' ∧ x.ok many ∧ Strm ns l r g' ∧ Keep r g g' :=
    fun {x g'} h1 h2 h3 h4 => ⟨x, g', runF_rt hF rfl h1, h2, h3, k1.trans h4⟩
  by_cases c0 : v1 = 0
  · subst c0
    obtain ⟨v, g2, e2, s2, k2⟩ := far_ (k := k) hd hfa s1
    exact go (x := .var v) (by simp [nodeF, evSs, evS, ev, evs, evI, Py.R.bind, ofO, isinst, truth, Py.R.test, Py.R.lay, lay, Py.R.toO, Py.O.then, asg, items, listOf, index, setIx, built1, built2, lenOf, cmpop, binop, augop, ordX, ltv, ltvs, alikeD, alikesD, D.isNon, keyed, isin, tr, trX, trL, eqv, eqvs, btype, bmok, bmeth, boolsOf, atI, ixN, small, e1, e2, Nd.d, line]) trivial s2 k2
  by_cases c1 : v1 = 1
  · subst c1
    obtain ⟨v3, g3, e3, a3, b3, s3, k3⟩ := draw_ (k := k + 1) (many := 7) hd s1 (by decide) (by decide)
    obtain ⟨w, ew⟩ : ∃ w : Int, ∀ g : G, index g (.tmp [.int 0, .int 1, .int (-1), .int 7, .int (-12), .int 1000000000, .int (-1000000000)]) (.int v3) = some (.int w) := by
      have hv : v3 = 0 ∨ v3 = 1 ∨ v3 = 2 ∨ v3 = 3 ∨ v3 = 4 ∨ v3 = 5 ∨ v3 = 6 := by omega
      rcases hv with rfl | rfl | rfl | rfl | rfl | rfl | rfl <;> exact ⟨_, fun g => by simp [index, atI, ixN]; rfl⟩
    exact go (x := .int w) (by simp [nodeF, evSs, evS, ev, evs, e1, e3, ew, Py.R.bind, truth, Py.R.test, Py.R.toO, Py.R.lay, Py.O.then, ofO, asg, lay, binop, cmpop, trX, tr, eqv, line, Nd.d]) trivial s3 k3
  by_cases c2 : v1 = 2
  · subst c2
    obtain ⟨w, g2, e2, s2, k2⟩ := atom_ (k := k) hd hat s1
    exact go (x := .atom w) (by simp [nodeF, evSs, evS, ev, evs, evI, Py.R.bind, ofO, isinst, truth, Py.R.test, Py.R.lay, lay, Py.R.toO, Py.O.then, asg, items, listOf, index, setIx, built1, built2, lenOf, cmpop, binop, augop, ordX, ltv, ltvs, alikeD, alikesD, D.isNon, keyed, isin, tr, trX, trL, eqv, eqvs, btype, bmok, bmeth, boolsOf, atI, ixN, small, e1, e2, Nd.d, line]) trivial s2 k2
  by_cases c3 : v1 = 3
  · subst c3
    obtain ⟨w, g2, e2, s2, k2⟩ := atom_ (k := k) hd hat s1
    obtain ⟨v, g3, e3, s3, k3⟩ := far_ (k := k) hd hfa s2
    exact go (x := .name w v) (by simp [nodeF, evSs, evS, ev, evs, evI, Py.R.bind, ofO, isinst, truth, Py.R.test, Py.R.lay, lay, Py.R.toO, Py.O.then, asg, items, listOf, index, setIx, built1, built2, lenOf, cmpop, binop, augop, ordX, ltv, ltvs, alikeD, alikesD, D.isNon, keyed, isin, tr, trX, trL, eqv, eqvs, btype, bmok, bmeth, boolsOf, atI, ixN, small, e1, e2, e3, Nd.d, line]) trivial s3 (k2.trans k3)
  obtain ⟨ps, g2, e2, l1, hps, s2, k2⟩ := parts__ (k := k + 1) hd (many := many) (x2 := some (.int v1)) (x3 := none) (x4 := none) s1 h0 h1
  obtain ⟨v4, g4, e4, a4, b4, s4, k4⟩ := draw_ (k := k + 1) (many := 5) hd (s2.push [.lst (ps.map fun p => .int (p : Nat))]) (by decide) (by decide)
  obtain ⟨w, ew⟩ : ∃ w : Tx, ∀ g : G, index g (.tmp [.str ['f'], .str ['f'], .str ['f', 'a'], .str ['c', 'o', 'n', 's'], .str ['c', 'e', 'l', 'l']]) (.int v4) = some (.str w) := by
    have hv : v4 = 0 ∨ v4 = 1 ∨ v4 = 2 ∨ v4 = 3 ∨ v4 = 4 := by omega
    rcases hv with rfl | rfl | rfl | rfl | rfl <;> exact ⟨_, fun g => by simp [index, atI, ixN]; rfl⟩
  have hp : g4[g2.length]? = some (.lst (ps.map fun p => .int (p : Nat))) := k4 _ _ (by have := s2.lt; omega) (by simp)
  refine go (x := .tup w ps) ?_ ⟨by omega, hps⟩ s4 ((k2.trans Keep.push).trans k4)
  have q0 : ∀ g : G, cmpop g .eq (.d (.int v1)) (.d (.int 0)) = some false := fun g => by simp [cmpop, trX, tr, eqv, c0]
  have q1 : ∀ g : G, cmpop g .eq (.d (.int v1)) (.d (.int 1)) = some false := fun g => by simp [cmpop, trX, tr, eqv, c1]
  have q2 : ∀ g : G, cmpop g .eq (.d (.int v1)) (.d (.int 2)) = some false := fun g => by simp [cmpop, trX, tr, eqv, c2]
  have q3 : ∀ g : G, cmpop g .eq (.d (.int v1)) (.d (.int 3)) = some false := fun g => by simp [cmpop, trX, tr, eqv, c3]
  simp [nodeF, evSs, evS, ev, evs, e1, e2, e4, ew, q0, q1, q2, q3, hp, Py.R.bind, truth, Py.R.test, Py.R.toO, Py.R.lay, Py.O.then, ofO, asg, lay, line, Nd.d, ndPs, built1, items]
theorem graph_ {dr fa at_ nd gr : Nat} (hd : T.fn dr = some drawF) (hfa : T.fn fa = some (farF dr)) (hat : T.fn at_ = some (atomF dr)) (hnd : T.fn nd = some (nodeF dr fa at_)) (hF : T.fn gr = some (graphF dr nd)) {most : Int} (s : Strm ns l r g) (h0 : 0 < most) (h1 : most ≤ 200) : ∃ A g', runF T (k + 4) gr [.ref r, .int most] g = .ok (grD A) g' ∧ Gok A ∧ 0 < A.length ∧ A.length ≤ 200 ∧ Strm ns l r g' := by
  obtain ⟨v1, g1, e1, a1, b1, s1, k1⟩ := draw_ (k := k + 2) (many := most) hd s h0 (by omega)
  obtain ⟨m, hm1, hm2, em⟩ : ∃ m : Nat, 1 ≤ m ∧ m ≤ 200 ∧ 1 + v1 = (m : Int) := ⟨(1 + v1).toNat, by omega, by omega, by omega⟩
  obtain ⟨acc, g', e2, A, rfl, hl, hA, s2⟩ : ∃ acc g', loopC (.rng 0 m) (.nm 3) (fun L g => (ev T (runF T (k + 3)) (.c (.bl true)) L g).test) (fun L g => (ev T (runF T (k + 3)) (.call nd (.cons (.v 0) (.cons (.v 2) .nil))) L g).lay) [some (.ref r), some (.int most), some (.int (m : Nat)), none] fuel 0 [] g1 = .ok acc g' ∧ ∃ A : List Nd, acc = A.map Nd.d ∧ A.length = m ∧ (∀ x ∈ A, x.ok m) ∧ Strm ns l r g' := by
    refine loopC_ind (n := m) (fun i acc g' => ∃ A : List Nd, acc = A.map Nd.d ∧ A.length = i ∧ (∀ x ∈ A, x.ok m) ∧ Strm ns l r g') (fun i acc g' hi ⟨A, ea, hl, hA, sg⟩ => ?_) (fun acc g' p => by simp [turn]) fuel 0 [] g1 (Nat.zero_le _) (by unfold fuel; omega) ⟨[], rfl, rfl, by simp, s1⟩
    subst ea
    obtain ⟨x, g2, e, hx, s2, k2⟩ := node_ (k := k) hd hfa hat hnd (many := m) sg (by omega) (by omega)
    refine ⟨.int i, _, by simp [turn, hi], rfl, by simp [line]; omega, .inl ⟨x.d, g', g2, by simp [evSs, evS, ev, evs, evI, Py.R.bind, ofO, isinst, truth, Py.R.test, Py.R.lay, lay, Py.R.toO, Py.O.then, asg, items, listOf, index, setIx, built1, built2, lenOf, cmpop, binop, augop, ordX, ltv, ltvs, alikeD, alikesD, D.isNon, keyed, isin, tr, trX, trL, eqv, eqvs, btype, bmok, bmeth, boolsOf, atI, ixN, small], ?_, A ++ [x], by simp, by simp [hl], fun y hy => ?_, s2⟩⟩
    · simp [ev, evs, e, Py.R.bind, Py.R.lay, lay, ofO, asg]
    · rcases List.mem_append.mp hy with q | q
      · exact hA y q
      · have : y = x := by simpa using q
        rw [this]
        exact hx
  refine ⟨A, g', runF_rt hF rfl ?_, ⟨by omega, fun x hx => by rw [hl]; exact hA x hx⟩, by omega, by omega, s2⟩
  have e3 : ev T (runF T (k + 3)) (graphC dr nd) [some (.ref r), some (.int most), some (.int (m : Nat)), none] g1 = .ok (.tmp (A.map Nd.d)) g' := by
    refine ev_comp (t := .nm 3) (s := .rng (.cons (.v 2) .nil)) (c := .c (.bl true)) (e := .call nd (.cons (.v 0) (.cons (.v 2) .nil))) (it := .rng 0 m) (g1 := g1) ?_ e2
    exact rng1n (by simp [ev, ofO]) (by omega)
  rw [← em] at e3
  simp [graphF, evSs, evS, ev, evs, e1, e3, Py.R.bind, Py.R.toO, Py.R.lay, Py.O.then, ofO, asg, lay, binop, built1, items, grD]
end
end Py.Gr
set_option linter.all false
set_option maxRecDepth 100000
set_option maxHeartbeats 1000000
/-! PlP: the laws' _law_is_pythons, _law_given_back, for any table. -/
namespace Py.Gr
open Py
def pyC (f : Nat) : E := .comp (.nm 1) (.it (.v 0)) (.c (.bl true)) (.call f (.cons (.v 1) .nil))
def pyF (f : Nat) : Fn := ⟨1, 2, (.cons (.ifs (.or (.isi (.v 0) .tuple) (.isi (.v 0) .list)) (.cons (.ret (.bi .all (.cons (pyC f) .nil))) .nil) .nil) (.cons (.ret (.or (.cmp .is (.v 0) (.c (.non))) (.or (.isi (.v 0) .str) (.isi (.v 0) .int)))) .nil))⟩
def gvF (py : Nat) : Fn := ⟨1, 1, (.cons (.ret (.ite (.call py (.cons (.v 0) .nil)) (.v 0) (.c (.str ['o', 'd', 'd'])))) .nil)⟩
section
variable {T : Tb} {k f gv : Nat} {g : G}
theorem py_int (hF : T.fn f = some (pyF f)) (i : Int) : runF T (k + 1) f [.int i] g = .ok (.bl true) g := runF_rt hF rfl (by simp [pyF, evSs, evS, ev, evs, evI, Py.R.bind, ofO, isinst, truth, Py.R.test, Py.R.lay, lay, Py.R.toO, Py.O.then, asg, items, listOf, index, setIx, built1, built2, lenOf, cmpop, binop, augop, ordX, ltv, ltvs, alikeD, alikesD, D.isNon, keyed, isin, tr, trX, trL, eqv, eqvs, btype, bmok, bmeth, boolsOf, atI, ixN, small, kdOf, isinst, Kd.isa])
theorem py_bl (hF : T.fn f = some (pyF f)) (i : Bool) : runF T (k + 1) f [.bl i] g = .ok (.bl true) g := runF_rt hF rfl (by simp [pyF, evSs, evS, ev, evs, evI, Py.R.bind, ofO, isinst, truth, Py.R.test, Py.R.lay, lay, Py.R.toO, Py.O.then, asg, items, listOf, index, setIx, built1, built2, lenOf, cmpop, binop, augop, ordX, ltv, ltvs, alikeD, alikesD, D.isNon, keyed, isin, tr, trX, trL, eqv, eqvs, btype, bmok, bmeth, boolsOf, atI, ixN, small, kdOf, isinst, Kd.isa])
theorem py_str (hF : T.fn f = some (pyF f)) (i : Tx) : runF T (k + 1) f [.str i] g = .ok (.bl true) g := runF_rt hF rfl (by simp [pyF, evSs, evS, ev, evs, evI, Py.R.bind, ofO, isinst, truth, Py.R.test, Py.R.lay, lay, Py.R.toO, Py.O.then, asg, items, listOf, index, setIx, built1, built2, lenOf, cmpop, binop, augop, ordX, ltv, ltvs, alikeD, alikesD, D.isNon, keyed, isin, tr, trX, trL, eqv, eqvs, btype, bmok, bmeth, boolsOf, atI, ixN, small, kdOf, isinst, Kd.isa])
theorem bools_true : ∀ n : Nat, boolsOf (List.replicate n (.bl true)) = some (List.replicate n true)
  | 0 => rfl
  | n + 1 => by simp [List.replicate_succ, boolsOf, bools_true n]
theorem all_true (n : Nat) : (List.replicate n true).all id = true := by
  rw [List.all_eq_true]
  intro x hx
  exact (List.mem_replicate.mp hx).2
theorem py_tup (hF : T.fn f = some (pyF f)) {es : List D} (hl : es.length < 16777216) (he : ∀ d ∈ es, ∀ g : G, runF T (k + 1) f [d] g = .ok (.bl true) g) : runF T (k + 2) f [.tup es] g = .ok (.bl true) g := by
  refine runF_rt hF rfl ?_
  have e1 : ∀ g : G, ev T (runF T (k + 1)) (pyC f) [some (.tup es), none] g = .ok (.tmp (es.map fun _ => .bl true)) g := fun g => by
    refine ev_comp (t := .nm 1) (s := .it (.v 0)) (c := .c (.bl true)) (e := .call f (.cons (.v 1) .nil)) (it := .vals es) (g1 := g) (by simp [evI, ev, Py.R.bind]) ?_
    refine loopC_map _ hl (fun L => by simp [ev, Py.R.test, truth, ofO, Py.R.bind]) fun d hd => ?_
    simp [ev, evs, he d hd, Py.R.bind, Py.R.lay, lay, ofO]
  have e2 : (es.map fun _ => D.bl true) = List.replicate es.length (.bl true) := by simp [List.map_const']
  rw [e2] at e1
  have b1 : ∀ g : G, built1 g .all (.tmp (List.replicate es.length (.bl true))) = some (.d (.bl true)) := fun g => by
    simp [built1, listOf, bools_true, all_true]
  simp [pyF, evSs, evS, ev, evs, e1, b1, isinst, kdOf, Kd.isa, Py.R.bind, truth, Py.R.test, Py.R.toO, Py.R.lay, Py.O.then, ofO, asg, lay]
theorem py_nd (hF : T.fn f = some (pyF f)) (x : Nd) (hx : x.ps.length ≤ 100) : runF T (k + 3) f [x.d] g = .ok (.bl true) g := by
  cases x with
  | tup w ps =>
    refine py_tup hF (by simp) fun d hd g => ?_
    simp only [List.mem_cons, List.not_mem_nil, or_false] at hd
    rcases hd with rfl | rfl | rfl
    · exact py_str hF _
    · exact py_str hF _
    · refine py_tup hF (by simp [ndPs]; simp only [Nd.ps] at hx; omega) fun d hd g => ?_
      obtain ⟨p, _, rfl⟩ := List.mem_map.mp hd
      exact py_int hF _
  | var n =>
    refine py_tup hF (by simp) fun d hd g => ?_
    simp only [List.mem_cons, List.not_mem_nil, or_false] at hd
    rcases hd with rfl | rfl
    · exact py_str hF _
    · exact py_int hF _
  | int n =>
    refine py_tup hF (by simp) fun d hd g => ?_
    simp only [List.mem_cons, List.not_mem_nil, or_false] at hd
    rcases hd with rfl | rfl
    · exact py_str hF _
    · exact py_int hF _
  | atom n =>
    refine py_tup hF (by simp) fun d hd g => ?_
    simp only [List.mem_cons, List.not_mem_nil, or_false] at hd
    rcases hd with rfl | rfl
    · exact py_str hF _
    · exact py_str hF _
  | name w n =>
    refine py_tup hF (by simp) fun d hd g => ?_
    simp only [List.mem_cons, List.not_mem_nil, or_false] at hd
    rcases hd with rfl | rfl | rfl
    · exact py_str hF _
    · exact py_str hF _
    · exact py_int hF _
theorem py_gr (hF : T.fn f = some (pyF f)) {A : List Nd} (hA : Gok A) : runF T (k + 4) f [grD A] g = .ok (.bl true) g := by
  have := hA.len
  refine py_tup hF (by simp; omega) fun d hd g => ?_
  obtain ⟨x, hx, rfl⟩ := List.mem_map.mp hd
  exact py_nd hF x (x.ok_ps (hA.nd x hx)).1
theorem given_ {k : Nat} {d : D} (hG : T.fn gv = some (gvF f)) (h : runF T k f [d] g = .ok (.bl true) g) : runF T (k + 1) gv [d] g = .ok d g := by
  refine runF_rt hG rfl ?_
  simp [gvF, evSs, evS, ev, evs, h, Py.R.bind, truth, Py.R.test, Py.R.toO, Py.R.lay, Py.O.then, ofO, asg, lay]
end
/-! ### graphs are equal -/
theorem trL_map {α : Type} (f : D → Option D) (h : α → D) : ∀ l : List α, (∀ x ∈ l, f (h x) = some (h x)) → trL f (l.map h) = some (l.map h)
  | [], _ => rfl
  | a :: l, q => by
    have ih := trL_map f h l fun x hx => q x (List.mem_cons_of_mem _ hx)
    simp only [List.map_cons, trL, q a List.mem_cons_self, ih]
theorem nd_tr {g : G} (n : Nat) (x : Nd) : tr g (n + 3) x.d = some x.d := by
  cases x with
  | tup w ps =>
    have e := trL_map (tr g (n + 1)) (fun p : Nat => D.int (p : Nat)) ps fun x _ => by simp [tr]
    have e2 : trL (tr g (n + 1)) (ndPs ps) = some (ndPs ps) := e
    simp only [Nd.d, tr, trL, e2, Option.map_some]
  | _ => simp [Nd.d, tr, trL]
theorem gr_tr {g : G} (n : Nat) (A : List Nd) : tr g (n + 4) (grD A) = some (grD A) := by
  have e := trL_map (tr g (n + 3)) Nd.d A fun x _ => nd_tr n x
  simp only [grD, tr, e, Option.map_some]
theorem eqvs_map {α : Type} (h : α → D) (k : α → D) : ∀ (l : List α), (∀ x ∈ l, eqv (h x) (k x) = true) → eqvs (l.map h) (l.map k) = true
  | [], _ => rfl
  | a :: l, q => by simp only [List.map_cons, eqvs, q a List.mem_cons_self, eqvs_map h k l fun x hx => q x (List.mem_cons_of_mem _ hx), Bool.and_self]
theorem nd_eqv (x : Nd) : eqv x.d x.d = true := by
  cases x with
  | tup w ps =>
    have e : eqvs (ndPs ps) (ndPs ps) = true := eqvs_map (fun p : Nat => D.int (p : Nat)) (fun p : Nat => D.int (p : Nat)) ps fun x _ => by simp [eqv]
    simp [Nd.d, eqv, eqvs, e]
  | _ => simp [Nd.d, eqv, eqvs]
theorem gr_eqv (A : List Nd) : eqv (grD A) (grD A) = true := by
  have e := eqvs_map Nd.d Nd.d A fun x _ => nd_eqv x
  simp only [grD, eqv, e]
theorem gr_ne (g : G) (A : List Nd) : cmpop g .ne (.d (grD A)) (.d (grD A)) = some false := by
  have e : tr g 60 (grD A) = some (grD A) := gr_tr 56 A
  simp only [cmpop, trX, e, gr_eqv]
  rfl
theorem gr_eq (g : G) (A : List Nd) : cmpop g .eq (.d (grD A)) (.d (grD A)) = some true := by
  have e : tr g 60 (grD A) = some (grD A) := gr_tr 56 A
  simp only [cmpop, trX, e, gr_eqv]
/-! ### no truths in a node -/
section
variable {T : Tb} {cf : Cf} {g : G}
/-- [isinstance(part, bool) for part in ..] over values that are none -/
theorem no_bools {i : Nat} {s : Src} {L : Lc} {ds : List D} (hs : evI T cf s L g = .ok (.vals ds) g) (hl : ds.length < 16777216) (hi : i < L.length) (hd : ∀ d ∈ ds, isinst T g (.d d) .bool = some false) :
    ev T cf (.comp (.nm i) s (.c (.bl true)) (.isi (.v i) .bool)) L g = .ok (.tmp (List.replicate ds.length (.bl false))) g := by
  have e2 : (ds.map fun _ => D.bl false) = List.replicate ds.length (.bl false) := by simp [List.map_const']
  rw [← e2]
  refine ev_comp (t := .nm i) (s := s) (c := .c (.bl true)) (e := .isi (.v i) .bool) (it := .vals ds) (g1 := g) hs ?_
  refine loopC_map _ hl (fun L => by simp [ev, Py.R.test, truth, ofO, Py.R.bind]) fun d hd' => ?_
  have h2 : (L.set i (some d))[i]? = some (some d) := List.getElem?_set_self hi
  simp [ev, h2, hd d hd', Py.R.bind, Py.R.lay, lay, ofO]
theorem bools_false : ∀ n : Nat, boolsOf (List.replicate n (.bl false)) = some (List.replicate n false)
  | 0 => rfl
  | n + 1 => by simp [List.replicate_succ, boolsOf, bools_false n]
theorem any_false (n : Nat) : (List.replicate n false).any id = false := by
  rw [List.any_eq_false]
  intro x hx
  rw [(List.mem_replicate.mp hx).2]
  simp
theorem nd_tail (g : G) (x : Nd) (hx : x.ps.length ≤ 100) : ∃ ds, slice g (.d x.d) (some 1) none = some (.d (.tup ds)) ∧ ds.length ≤ 2 ∧ ∀ d ∈ ds, isinst T g (.d d) .bool = some false := by
  cases x with
  | tup w ps => exact ⟨[.str w, .tup (ndPs ps)], by simp [Nd.d, slice, cut, sIx], by simp, by simp [isinst, kdOf, Kd.isa]⟩
  | var n => exact ⟨[.int n], by simp [Nd.d, slice, cut, sIx], by simp, by simp [isinst, kdOf, Kd.isa]⟩
  | int n => exact ⟨[.int n], by simp [Nd.d, slice, cut, sIx], by simp, by simp [isinst, kdOf, Kd.isa]⟩
  | atom n => exact ⟨[.str n], by simp [Nd.d, slice, cut, sIx], by simp, by simp [isinst, kdOf, Kd.isa]⟩
  | name w n => exact ⟨[.str w, .int n], by simp [Nd.d, slice, cut, sIx], by simp, by simp [isinst, kdOf, Kd.isa]⟩
end
end Py.Gr
set_option linter.all false
set_option maxRecDepth 100000
set_option maxHeartbeats 1000000
/-! PlC: compare, for any table (turned from k04's walk by plc.py). -/
namespace Py.Gr
open Py
def Nd.rk : Nd → Int
  | .var _ => 0
  | .int _ => 1
  | .atom _ => 2
  | .tup _ _ => 3
  | .name _ _ => 4
def Nd.nm : Nd → Int
  | .var n => n
  | .int n => n
  | .tup _ ps => ps.length
  | _ => 0
def Nd.tx : Nd → Tx
  | .atom a => a
  | .tup a _ => a
  | .name a _ => a
  | _ => []
def Nd.ls : Nd → Int
  | .name _ n => n
  | _ => 0
theorem lex_irr : ∀ s : Tx, lexLt s s = false
  | [] => rfl
  | c :: s => by simp [lexLt, lex_irr s]
theorem lex_tri : ∀ {s t : Tx}, lexLt s t = false → lexLt t s = false → s = t
  | [], [], _, _ => rfl
  | [], _ :: _, h, _ => by simp [lexLt] at h
  | _ :: _, [], _, h => by simp [lexLt] at h
  | a :: s, b :: t, h1, h2 => by
    simp only [lexLt] at h1 h2
    by_cases c1 : a.toNat < b.toNat
    · simp [c1] at h1
    · by_cases c2 : b.toNat < a.toNat
      · simp [c1, c2] at h2
      · simp only [c1, c2, if_false] at h1 h2
        rw [lex_tri h1 h2, Char.toNat_inj.mp (show a.toNat = b.toNat by omega)]
theorem lex_asy : ∀ {s t : Tx}, lexLt s t = true → lexLt t s = false
  | [], [], h => by simp [lexLt] at h
  | [], _ :: _, _ => rfl
  | _ :: _, [], h => by simp [lexLt] at h
  | a :: s, b :: t, h => by
    simp only [lexLt] at h ⊢
    by_cases c1 : a.toNat < b.toNat
    · have c2 : ¬ b.toNat < a.toNat := by omega
      simp [c1, c2]
    · by_cases c2 : b.toNat < a.toNat
      · simp [c1, c2] at h
      · simp only [c1, c2, if_false] at h ⊢
        exact lex_asy h
def kc (x y : Nd) : Int :=
  if x.rk < y.rk then -1 else if y.rk < x.rk then 1 else if x.nm < y.nm then -1 else if y.nm < x.nm then 1 else
  if lexLt x.tx y.tx then -1 else if lexLt y.tx x.tx then 1 else if x.ls < y.ls then -1 else if y.ls < x.ls then 1 else 0
theorem kc_swap (x y : Nd) : kc y x = -kc x y := by
  unfold kc
  by_cases a1 : x.rk < y.rk <;> by_cases a2 : y.rk < x.rk <;> by_cases b1 : x.nm < y.nm <;> by_cases b2 : y.nm < x.nm <;> by_cases d1 : x.ls < y.ls <;> by_cases d2 : y.ls < x.ls <;> simp only [a1, a2, b1, b2, d1, d2, if_true, if_false] <;> first | rfl | omega | skip
  all_goals
    by_cases c1 : lexLt x.tx y.tx = true
    · simp [c1, lex_asy c1]
    · by_cases c2 : lexLt y.tx x.tx = true
      · simp [c1, c2]
      · simp [c1, c2]
theorem kc_self (x : Nd) : kc x x = 0 := by
  unfold kc
  simp [lex_irr]
theorem kc_zero {x y : Nd} (h : kc x y = 0) : x.rk = y.rk ∧ x.nm = y.nm ∧ x.tx = y.tx ∧ x.ls = y.ls := by
  unfold kc at h
  by_cases a1 : x.rk < y.rk
  · simp [a1] at h
  by_cases a2 : y.rk < x.rk
  · simp [a1, a2] at h
  by_cases b1 : x.nm < y.nm
  · simp [a1, a2, b1] at h
  by_cases b2 : y.nm < x.nm
  · simp [a1, a2, b1, b2] at h
  by_cases c1 : lexLt x.tx y.tx = true
  · simp [a1, a2, b1, b2, c1] at h
  by_cases c2 : lexLt y.tx x.tx = true
  · simp [a1, a2, b1, b2, c1, c2] at h
  by_cases d1 : x.ls < y.ls
  · simp [a1, a2, b1, b2, c1, c2, d1] at h
  by_cases d2 : y.ls < x.ls
  · simp [a1, a2, b1, b2, c1, c2, d1, d2] at h
  exact ⟨by omega, by omega, lex_tri (by simpa using c1) (by simpa using c2), by omega⟩
def nkF (gR : Nat) : Fn := ⟨1, 2, (.cons (.set (.nm 1) (.ix (.v 0) (.c (.int 0)))) (.cons (.ifs (.cmp .isin (.v 1) (.tup (.cons (.c (.str ['v', 'a', 'r'])) (.cons (.c (.str ['i', 'n', 't'])) .nil)))) (.cons (.ret (.tup (.cons (.gix gR (.v 1)) (.cons (.ix (.v 0) (.c (.int 1))) (.cons (.c (.str [])) .nil))))) .nil) .nil) (.cons (.ifs (.cmp .eq (.v 1) (.c (.str ['a', 't', 'o', 'm']))) (.cons (.ret (.tup (.cons (.gix gR (.v 1)) (.cons (.c (.int 0)) (.cons (.ix (.v 0) (.c (.int 1))) .nil))))) .nil) .nil) (.cons (.ifs (.cmp .eq (.v 1) (.c (.str ['t', 'u', 'p', 'l', 'e']))) (.cons (.ret (.tup (.cons (.gix gR (.v 1)) (.cons (.bi .len (.cons (.ix (.v 0) (.c (.int 2))) .nil)) (.cons (.ix (.v 0) (.c (.int 1))) .nil))))) .nil) .nil) (.cons (.ret (.tup (.cons (.gix gR (.v 1)) (.cons (.c (.int 0)) (.cons (.ix (.v 0) (.c (.int 1))) .nil))))) .nil)))))⟩
def cnF (nk : Nat) : Fn := ⟨2, 4, (.cons (.set (.nm 2) (.call nk (.cons (.v 0) .nil))) (.cons (.set (.nm 3) (.call nk (.cons (.v 1) .nil))) (.cons (.ifs (.and (.cmp .eq (.v 2) (.v 3)) (.cmp .eq (.ix (.v 0) (.c (.int 0))) (.c (.str ['n', 'a', 'm', 'e'])))) (.cons (.ret (.bin .sub (.cmp .gt (.ix (.v 0) (.c (.int 2))) (.ix (.v 1) (.c (.int 2)))) (.cmp .lt (.ix (.v 0) (.c (.int 2))) (.ix (.v 1) (.c (.int 2)))))) .nil) .nil) (.cons (.ret (.bin .sub (.cmp .gt (.v 2) (.v 3)) (.cmp .lt (.v 2) (.v 3)))) .nil))))⟩
def cpB0 : Ss := (.cons (.ifs (.cmp .notin (.v 8) (.v 3)) (.cons (.setI (.v 3) (.v 8) (.c (.bl true))) (.cons (.ex (.bm .append (.v 2) (.cons (.v 8) .nil))) .nil)) .nil) .nil)
def cpL1 (pt : Nat) : S := .for (.nm 8) (.zipt (.call pt (.cons (.ix (.v 0) (.v 5)) .nil)) (.call pt (.cons (.ix (.v 1) (.v 6)) .nil))) cpB0
def cpB2 (cn pt : Nat) : Ss := (.cons (.set (.tp [5, 6]) (.ix (.v 2) (.v 4))) (.cons (.aug 4 .add (.c (.int 1))) (.cons (.set (.nm 7) (.call cn (.cons (.ix (.v 0) (.v 5)) (.cons (.ix (.v 1) (.v 6)) .nil)))) (.cons (.ifs (.cmp .ne (.v 7) (.c (.int 0))) (.cons (.ret (.v 7)) .nil) .nil) (.cons (cpL1 pt) .nil)))))
def cpW (cn pt : Nat) : S := .whl (.cmp .lt (.v 4) (.bi .len (.cons (.v 2) .nil))) (cpB2 cn pt)
def cpF (cn pt : Nat) : Fn := ⟨2, 9, (.cons (.set (.nm 2) (.lst (.cons (.tup (.cons (.c (.int 0)) (.cons (.c (.int 0)) .nil))) .nil))) (.cons (.set (.nm 3) (.dic (.cons (.tup (.cons (.c (.int 0)) (.cons (.c (.int 0)) .nil))) (.cons (.c (.bl true)) .nil)))) (.cons (.set (.nm 4) (.c (.int 0))) (.cons (cpW cn pt) (.cons (.ret (.c (.int 0))) .nil)))))⟩
def ranksD : List (Tx × D) := [(['v', 'a', 'r'], .int 0), (['i', 'n', 't'], .int 1), (['a', 't', 'o', 'm'], .int 2), (['t', 'u', 'p', 'l', 'e'], .int 3), (['n', 'a', 'm', 'e'], .int 4)]
section
variable {T : Tb} {gR nk cn pt cp : Nat}
def Nd.kp (x : Nd) : D := .tup [.int x.rk, .int x.nm, .str x.tx]
theorem node_key {k : Nat} (hK : T.fn nk = some (nkF gR)) (hR : T.gd gR = some ranksD) {g : G} (x : Nd) (hx : x.ps.length ≤ 100) : runF T (k + 1) nk [x.d] g = .ok x.kp g := by
  refine runF_rt hK rfl ?_
  cases x with
  | tup a ps =>
    have h : ps.length ≤ line := by simp [Nd.ps] at hx; unfold line; omega
    simp [nkF, evSs, evS, ev, evs, evI, Py.R.bind, ofO, isinst, truth, Py.R.test, Py.R.lay, lay, Py.R.toO, Py.O.then, asg, items, listOf, index, setIx, built1, built2, lenOf, cmpop, binop, augop, ordX, ltv, ltvs, alikeD, alikesD, D.isNon, keyed, isin, tr, trX, trL, eqv, eqvs, btype, bmok, bmeth, boolsOf, atI, ixN, small, Nd.d, Nd.kp, Nd.rk, Nd.nm, Nd.tx, line, hR, ranksD, List.lookup, ndPs]
  | _ => simp [nkF, evSs, evS, ev, evs, evI, Py.R.bind, ofO, isinst, truth, Py.R.test, Py.R.lay, lay, Py.R.toO, Py.O.then, asg, items, listOf, index, setIx, built1, built2, lenOf, cmpop, binop, augop, ordX, ltv, ltvs, alikeD, alikesD, D.isNon, keyed, isin, tr, trX, trL, eqv, eqvs, btype, bmok, bmeth, boolsOf, atI, ixN, small, Nd.d, Nd.kp, Nd.rk, Nd.nm, Nd.tx, line, hR, ranksD, List.lookup, ndPs]
theorem cmp_nodes {k : Nat} (hC : T.fn cn = some (cnF nk)) (hK : T.fn nk = some (nkF gR)) (hR : T.gd gR = some ranksD) {g : G} (x y : Nd) (hx : x.ps.length ≤ 100) (hy : y.ps.length ≤ 100) : runF T (k + 2) cn [x.d, y.d] g = .ok (.int (kc x y)) g := by
  have e1 := node_key (k := k) (g := g) hK hR x hx
  have e2 := node_key (k := k) (g := g) hK hR y hy
  have i0 : ∃ r, index g (.d x.d) (.int 0) = some (.str r) ∧ (r = ['n', 'a', 'm', 'e'] ↔ x.rk = 4) := by
    cases x <;> exact ⟨_, rfl, by simp [Nd.rk]⟩
  obtain ⟨r, i0, hr⟩ := i0
  by_cases hk : x.rk = y.rk ∧ x.nm = y.nm ∧ x.tx = y.tx
  · obtain ⟨h1, h2, h3⟩ := hk
    refine runF_rt hC rfl ?_
    by_cases h4 : x.rk = 4
    · cases x <;> simp [Nd.rk] at h4
      cases y <;> simp [Nd.rk] at h1
      rename_i a n b m
      simp [Nd.tx] at h3
      subst h3
      simp only [Nd.d, Nd.kp, Nd.rk, Nd.nm, Nd.tx] at e1 e2
      by_cases c1 : n < m
      · have c2 : ¬ m < n := by omega
        simp [cnF, evSs, evS, ev, evs, evI, Py.R.bind, ofO, isinst, truth, Py.R.test, Py.R.lay, lay, Py.R.toO, Py.O.then, asg, items, listOf, index, setIx, built1, built2, lenOf, cmpop, binop, augop, ordX, ltv, ltvs, alikeD, alikesD, D.isNon, keyed, isin, tr, trX, trL, eqv, eqvs, btype, bmok, bmeth, boolsOf, atI, ixN, small, e1, e2, Nd.d, kc, Nd.rk, Nd.nm, Nd.tx, Nd.ls, lex_irr, c1, c2]
      · by_cases c2 : m < n <;> simp [cnF, evSs, evS, ev, evs, evI, Py.R.bind, ofO, isinst, truth, Py.R.test, Py.R.lay, lay, Py.R.toO, Py.O.then, asg, items, listOf, index, setIx, built1, built2, lenOf, cmpop, binop, augop, ordX, ltv, ltvs, alikeD, alikesD, D.isNon, keyed, isin, tr, trX, trL, eqv, eqvs, btype, bmok, bmeth, boolsOf, atI, ixN, small, e1, e2, Nd.d, kc, Nd.rk, Nd.nm, Nd.tx, Nd.ls, lex_irr, c1, c2]
    · have h5 : ¬ r = ['n', 'a', 'm', 'e'] := fun q => h4 (hr.mp q)
      have h6 : x.ls = 0 := by cases x <;> first | rfl | exact absurd rfl h4
      have h7 : y.ls = 0 := by cases y <;> first | rfl | (exact absurd h1 h4)
      simp [cnF, evSs, evS, ev, evs, e1, e2, cmpop, trX, tr, trL, Nd.kp, h1, h2, h3, eqv, eqvs, i0, h5, kc, h6, h7, lex_irr, Py.R.bind, ordX, alikeD, alikesD, D.isNon, ltv, ltvs, truth, Py.R.test, Py.R.toO, Py.R.lay, Py.O.then, ofO, asg, lay, binop]
  · have big : ∀ {a b : Bool}, (eqv x.kp y.kp = false) → ltv y.kp x.kp = a → ltv x.kp y.kp = b → runF T (k + 2) cn [x.d, y.d] g = .ok (.int ((if a then 1 else 0) - (if b then 1 else 0))) g := by
      intro a b h1 h2 h3
      refine runF_rt hC rfl ?_
      have t1 : ∀ z : Nd, trX g (.d z.kp) = some z.kp := fun z => by simp [Nd.kp, trX, tr, trL]
      have al : ∀ z w : Nd, alikeD z.kp w.kp = true := fun z w => by simp [Nd.kp, alikeD, alikesD]
      have tx := t1 x
      have ty := t1 y
      have a1 := al x y
      have a2 := al y x
      obtain ⟨l, hl⟩ : ∃ l, x.kp = .tup l := ⟨_, rfl⟩
      obtain ⟨m, hm⟩ : ∃ m, y.kp = .tup m := ⟨_, rfl⟩
      rw [hl] at h1 h2 h3 e1 tx a1 a2
      rw [hm] at h1 h2 h3 e2 ty a1 a2
      simp [cnF, evSs, evS, ev, evs, e1, e2, cmpop, tx, ty, h1, Py.R.bind, truth, Py.R.test, Py.R.toO, Py.R.lay, Py.O.then, ofO, asg, lay, ordX, a1, a2, D.isNon, h2, h3, binop]
    have asy : ∀ {s t : Tx}, lexLt s t = true → lexLt t s = false := lex_asy
    unfold kc
    by_cases a1 : x.rk < y.rk
    · have a2 : ¬ y.rk < x.rk := by omega
      have a3 : ¬ x.rk = y.rk := by omega
      have a4 : ¬ y.rk = x.rk := by omega
      rw [big (a := false) (b := true) (by simp [Nd.kp, eqv, eqvs, a3]) (by simp [Nd.kp, ltv, ltvs, eqv, eqvs, a2, a4]) (by simp [Nd.kp, ltv, ltvs, eqv, eqvs, a1, a3])]
      simp [a1]
    by_cases a2 : y.rk < x.rk
    · have a3 : ¬ x.rk = y.rk := by omega
      have a4 : ¬ y.rk = x.rk := by omega
      rw [big (a := true) (b := false) (by simp [Nd.kp, eqv, eqvs, a3]) (by simp [Nd.kp, ltv, ltvs, eqv, eqvs, a2, a4]) (by simp [Nd.kp, ltv, ltvs, eqv, eqvs, a1, a3])]
      simp [a1, a2]
    have a3 : x.rk = y.rk := by omega
    by_cases b1 : x.nm < y.nm
    · have b2 : ¬ y.nm < x.nm := by omega
      have b3 : ¬ x.nm = y.nm := by omega
      have b4 : ¬ y.nm = x.nm := by omega
      rw [big (a := false) (b := true) (by simp [Nd.kp, eqv, eqvs, b3]) (by simp [Nd.kp, ltv, ltvs, eqv, eqvs, a3, b2, b4]) (by simp [Nd.kp, ltv, ltvs, eqv, eqvs, a3, b1, b3])]
      simp [a1, a2, b1]
    by_cases b2 : y.nm < x.nm
    · have b3 : ¬ x.nm = y.nm := by omega
      have b4 : ¬ y.nm = x.nm := by omega
      rw [big (a := true) (b := false) (by simp [Nd.kp, eqv, eqvs, b3]) (by simp [Nd.kp, ltv, ltvs, eqv, eqvs, a3, b2, b4]) (by simp [Nd.kp, ltv, ltvs, eqv, eqvs, a3, b1, b3])]
      simp [a1, a2, b1, b2]
    have b3 : x.nm = y.nm := by omega
    have c3 : ¬ x.tx = y.tx := fun q => hk ⟨a3, b3, q⟩
    have c4 : ¬ y.tx = x.tx := fun q => c3 q.symm
    by_cases c1 : lexLt x.tx y.tx = true
    · have c2 := asy c1
      rw [big (a := false) (b := true) (by simp [Nd.kp, eqv, eqvs, c3]) (by simp [Nd.kp, ltv, ltvs, eqv, eqvs, a3, b3, c2, c4]) (by simp [Nd.kp, ltv, ltvs, eqv, eqvs, a3, b3, c1, c3])]
      simp [a1, a2, b1, b2, c1]
    by_cases c2 : lexLt y.tx x.tx = true
    · rw [big (a := true) (b := false) (by simp [Nd.kp, eqv, eqvs, c3]) (by simp [Nd.kp, ltv, ltvs, eqv, eqvs, a3, b3, c2, c4]) (by simp [Nd.kp, ltv, ltvs, eqv, eqvs, a3, b3, c1, c3])]
      simp [a1, a2, b1, b2, c1, c2]
    exact absurd (lex_tri (by simpa using c1) (by simpa using c2)) c3
abbrev Pr := Nat × Nat
def addP (rows : List Pr) (p : Pr) : List Pr := if p ∈ rows then rows else rows ++ [p]
def addPs (rows : List Pr) (ps : List Pr) : List Pr := ps.foldl addP rows
def go (A B : List Nd) : Nat → List Pr → Nat → Int
  | 0, _, _ => 0
  | n + 1, rows, at_ => match rows[at_]? with
    | none => 0
    | some p => match A[p.1]?, B[p.2]? with
      | some x, some y => if kc x y ≠ 0 then kc x y else go A B n (addPs rows (x.ps.zip y.ps)) (at_ + 1)
      | _, _ => 0
structure Rok (a b : Nat) (rows : List Pr) : Prop where
  nd : rows.Nodup
  in_ : ∀ p ∈ rows, p.1 < a ∧ p.2 < b
theorem Rok.le {a b : Nat} {rows : List Pr} (h : Rok a b rows) : rows.length ≤ a * b := by
  have := nodup_le (a * b) (rows.map fun p => p.1 * b + p.2) ?_ ?_
  · simpa using this
  · rw [List.nodup_iff_pairwise_ne, List.pairwise_map]
    refine (List.nodup_iff_pairwise_ne.mp h.nd).imp_of_mem fun {p q} hp hq ne e => ne ?_
    obtain ⟨_, h2⟩ := h.in_ p hp
    obtain ⟨_, h4⟩ := h.in_ q hq
    have e2 : p.2 = q.2 := by
      have := congrArg (· % b) e
      simpa [Nat.mul_comm _ b, Nat.mul_add_mod, Nat.mod_eq_of_lt h2, Nat.mod_eq_of_lt h4] using this
    have e1 : p.1 = q.1 := by
      have hb : 0 < b := by omega
      rw [e2] at e
      exact Nat.eq_of_mul_eq_mul_right hb (by omega)
    exact Prod.ext e1 e2
  · intro x hx
    obtain ⟨p, hp, rfl⟩ := List.mem_map.mp hx
    obtain ⟨h1, h2⟩ := h.in_ p hp
    have : (p.1 + 1) * b ≤ a * b := Nat.mul_le_mul_right b h1
    rw [Nat.add_mul] at this
    omega
theorem Rok.add {a b : Nat} {rows : List Pr} (h : Rok a b rows) {p : Pr} (hp : p.1 < a ∧ p.2 < b) : Rok a b (addP rows p) := by
  unfold addP
  split
  · exact h
  · rename_i hm
    refine ⟨List.nodup_append.mpr ⟨h.nd, by simp, fun x hx y hy e => ?_⟩, fun q hq => ?_⟩
    · have : y = p := by simpa using hy
      subst this e
      exact hm hx
    · rcases List.mem_append.mp hq with hq | hq
      · exact h.in_ q hq
      · have : q = p := by simpa using hq
        subst this
        exact hp
theorem Rok.adds {a b : Nat} : ∀ {ps : List Pr} {rows : List Pr}, Rok a b rows → (∀ p ∈ ps, p.1 < a ∧ p.2 < b) → Rok a b (addPs rows ps)
  | [], _, h, _ => h
  | p :: ps, rows, h, hp => Rok.adds (ps := ps) (rows := addP rows p) (h.add (hp p List.mem_cons_self)) fun q hq => hp q (List.mem_cons_of_mem _ hq)
def prD (p : Pr) : D := .tup [.int (p.1 : Nat), .int (p.2 : Nat)]
theorem prD_eqv (p q : Pr) : eqv (prD q) (prD p) = decide (q = p) := by
  obtain ⟨a, b⟩ := p
  obtain ⟨c, d⟩ := q
  simp only [prD, eqv, eqvs, Bool.and_true]
  rw [Bool.eq_iff_iff]
  simp [Prod.ext_iff, Int.ofNat_inj]
theorem tr_prs {g : G} {n : Nat} (rows : List Pr) : trL (tr g (n + 2)) (rows.map prD) = some (rows.map prD) := by
  induction rows with
  | nil => rfl
  | cons p r ih =>
    have h1 : tr g (n + 2) (prD p) = some (prD p) := by simp [prD, tr, trL]
    simp only [List.map_cons, trL, h1, ih]
theorem isin_rows {g : G} {n : Nat} {rows : List Pr} (h : g[n]? = some (.lst (rows.map prD))) (p : Pr) : isin g (prD p) (.d (.ref n)) = some (decide (p ∈ rows)) := by
  have h1 : tr g 60 (prD p) = some (prD p) := by simp [prD, tr, trL]
  have h2 := tr_prs (g := g) (n := 57) rows
  simp only [isin, keyed, h, h1, trX, tr, h2, Option.map_some]
  congr 1
  have : ∀ r : List Pr, ((r.map prD).any fun z => eqv z (prD p)) = decide (p ∈ r) := by
    intro r
    induction r with
    | nil => rfl
    | cons q r ih =>
      rw [List.map_cons, List.any_cons, ih, prD_eqv]
      simp [eq_comm]
  exact this rows
theorem at_rows {g : G} {n i : Nat} {rows : List Pr} {p : Pr} (hg : g[n]? = some (.lst (rows.map prD))) (h : rows[i]? = some p) : index g (.d (.ref n)) (.int (i : Nat)) = some (prD p) := by
  have hl := (List.getElem?_eq_some_iff.mp h).1
  have h1 : (rows.map prD)[i]? = some (prD p) := by rw [List.getElem?_map, h]; rfl
  have h2 : rows[i] = p := (List.getElem?_eq_some_iff.mp h).2
  simp [index, hg, atI, ixN, hl, h2]
theorem kc_ps {x y : Nd} (h : kc x y = 0) : x.ps.length = y.ps.length := by
  obtain ⟨h1, h2, _⟩ := kc_zero h
  cases x <;> cases y <;> simp [Nd.rk] at h1 <;> simp [Nd.ps]
  simpa [Nd.nm, Int.ofNat_inj] using h2
theorem kc_tup {x y : Nd} (h : kc x y = 0) : (x.rk = 3 ↔ y.rk = 3) := by
  obtain ⟨h1, _⟩ := kc_zero h
  rw [h1]
theorem addP_le (rows : List Pr) (p : Pr) : rows.length ≤ (addP rows p).length := by
  unfold addP
  split
  · exact Nat.le_refl _
  · simp
theorem addPs_le : ∀ (ps : List Pr) (rows : List Pr), rows.length ≤ (addPs rows ps).length
  | [], _ => Nat.le_refl _
  | p :: ps, rows => Nat.le_trans (addP_le rows p) (addPs_le ps (addP rows p))
def ans (A B : List Nd) : Int := go A B 828101 [(0, 0)] 0
theorem Rok.one {a b : Nat} (ha : 0 < a) (hb : 0 < b) : Rok a b [(0, 0)] := ⟨by simp, fun p hp => by
  have : p = (0, 0) := by simpa using hp
  subst this
  exact ⟨ha, hb⟩⟩
def seenD (rows : List Pr) : List (List KY × D) := rows.map fun p => ([.i (p.1 : Nat), .i (p.2 : Nat)], .bl true)
theorem seen_look (rows : List Pr) (p : Pr) : (look [KY.i (p.1 : Nat), KY.i (p.2 : Nat)] (seenD rows)).isSome = decide (p ∈ rows) := by
  induction rows with
  | nil => rfl
  | cons q r ih =>
    obtain ⟨a, b⟩ := p
    obtain ⟨c, d⟩ := q
    simp only [seenD, List.map_cons, look]
    by_cases h : (c, d) = (a, b)
    · cases h
      simp
    · have h2 : ¬ ([KY.i (c : Nat), KY.i (d : Nat)] = [KY.i (a : Nat), KY.i (b : Nat)]) := fun e => h (by simp at e; exact Prod.ext (by simp only; omega) (by simp only; omega))
      rw [if_neg h2]
      have h3 : ¬ (a, b) = (c, d) := fun e => h e.symm
      rw [show (r.map fun p : Pr => ([KY.i (p.1 : Nat), KY.i (p.2 : Nat)], D.bl true)) = seenD r from rfl, ih]
      simp [h3]
theorem seen_any (rows : List Pr) (p : Pr) : (seenD rows).any (fun q => decide (q.1 = [KY.i (p.1 : Nat), KY.i (p.2 : Nat)])) = decide (p ∈ rows) := by
  induction rows with
  | nil => rfl
  | cons q r ih =>
    obtain ⟨a, b⟩ := p
    obtain ⟨c, d⟩ := q
    have e0 : seenD ((c, d) :: r) = ([KY.i (c : Nat), KY.i (d : Nat)], .bl true) :: seenD r := rfl
    rw [e0, List.any_cons, ih]
    by_cases h : (a, b) = (c, d)
    · cases h
      simp
    · have h2 : ¬ ([KY.i (c : Nat), KY.i (d : Nat)] = [KY.i (a : Nat), KY.i (b : Nat)]) := fun e => h (by simp at e; exact Prod.ext (by simp only; omega) (by simp only; omega))
      simp [h, h2]
theorem seen_put {rows : List Pr} {p : Pr} (h : p ∉ rows) : putK [KY.i (p.1 : Nat), KY.i (p.2 : Nat)] (.bl true) (seenD rows) = seenD (rows ++ [p]) := by
  unfold putK
  rw [seen_any]
  simp [h, seenD]
theorem keys_pr (p : Pr) : keysOf [.int (p.1 : Nat), .int (p.2 : Nat)] = some [KY.i (p.1 : Nat), KY.i (p.2 : Nat)] := rfl
theorem cmp_pair {cf : Cf} {a b : D} {rows : List Pr} {p : Pr} {r q at_ : Nat} {l5 l6 l7 : Option D} {g : G} (hrq : r ≠ q) (hr : g[r]? = some (.lst (rows.map prD))) (hq : g[q]? = some (.dt (seenD rows))) (hl : rows.length < 16777216) :
    evSs T cf cpB0 [some a, some b, some (.ref r), some (.ref q), some (.int (at_ : Nat)), l5, l6, l7, some (prD p)] g = .nx [some a, some b, some (.ref r), some (.ref q), some (.int (at_ : Nat)), l5, l6, l7, some (prD p)] ((g.set q (.dt (seenD (addP rows p)))).set r (.lst ((addP rows p).map prD))) := by
  have h1 : isin g (prD p) (.d (.ref q)) = some (decide (p ∈ rows)) := by
    have := seen_look rows p
    simp only [isin, keyed, hq, prD, keys_pr, Option.map_some, this]
  by_cases hm : p ∈ rows
  · rw [addP, if_pos hm, set_same hq, set_same hr]
    simp [cpB0, evSs, evS, ev, evs, cmpop, h1, hm, Py.R.bind, truth, Py.R.test, Py.R.toO, Py.O.then, ofO]
  · rw [addP, if_neg hm]
    have e1 : setIx g (.ref q) (prD p) (.bl true) = some (g.set q (.dt (seenD (rows ++ [p])))) := by
      have h2 : (seenD rows).length < line := by simp [seenD, line]; omega
      simp [setIx, hq, prD, keys_pr, h2, seen_put hm]
    have h3 : (g.set q (.dt (seenD (rows ++ [p]))))[r]? = some (.lst (rows.map prD)) := by rw [List.getElem?_set_ne (Ne.symm hrq)]; exact hr
    simp [cpB0, evSs, evS, ev, evs, cmpop, h1, hm, e1, Py.R.bind, truth, Py.R.test, Py.R.toO, Py.R.lay, Py.O.then, ofO, btype, bmok, bmeth, h3, hl, line, lay]
theorem set4 {g : G} {r q : Nat} {o1 o2 o3 o4 : Ob} (h : r ≠ q) : (((g.set q o1).set r o2).set q o3).set r o4 = (g.set q o3).set r o4 := by
  rw [List.set_comm _ _ h, List.set_set, List.set_set]
theorem cmp_pairs {k : Nat} (hP : T.fn pt = some partsF) {A B : List Nd} {x y : Nd} {i j : Nat} {rows : List Pr} {r q at_ : Nat} {l7 l8 : Option D} {g : G} {a b : Nat} (hx : A[i]? = some x) (hy : B[j]? = some y) (hl : x.ps.length = y.ps.length) (h1 : x.ok a) (h2 : y.ok b) (ha : a ≤ 910) (hb : b ≤ 910)
    (hrq : r ≠ q) (hr : g[r]? = some (.lst (rows.map prD))) (hq : g[q]? = some (.dt (seenD rows))) (hok : Rok a b rows) :
    ∃ L', evS T (runF T (k + 1)) (cpL1 pt) [some (grD A), some (grD B), some (.ref r), some (.ref q), some (.int (at_ : Nat)), some (.int (i : Nat)), some (.int (j : Nat)), l7, l8] g = .nx L' ((g.set q (.dt (seenD (addPs rows (x.ps.zip y.ps))))).set r (.lst ((addPs rows (x.ps.zip y.ps)).map prD))) ∧
      ∃ m8, L' = [some (grD A), some (grD B), some (.ref r), some (.ref q), some (.int (at_ : Nat)), some (.int (i : Nat)), some (.int (j : Nat)), l7, m8] := by
  have px : ∀ p ∈ x.ps, p < a := by cases x <;> first | exact h1.2 | (intro p hp; simp [Nd.ps] at hp)
  have py : ∀ p ∈ y.ps, p < b := by cases y <;> first | exact h2.2 | (intro p hp; simp [Nd.ps] at hp)
  have pl : x.ps.length ≤ 100 := by cases x <;> first | exact h1.1 | simp [Nd.ps]
  obtain ⟨L', g', e, ⟨m8, rfl⟩, eg⟩ : ∃ L' g', loopF (.zipT (x.ps.map fun p => .int (p : Nat)) (y.ps.map fun p => .int (p : Nat))) (.nm 8) (fun L g => evSs T (runF T (k + 1)) cpB0 L g) fuel 0 [some (grD A), some (grD B), some (.ref r), some (.ref q), some (.int (at_ : Nat)), some (.int (i : Nat)), some (.int (j : Nat)), l7, l8] g = .nx L' g' ∧
      ((∃ m8, L' = [some (grD A), some (grD B), some (.ref r), some (.ref q), some (.int (at_ : Nat)), some (.int (i : Nat)), some (.int (j : Nat)), l7, m8]) ∧ g' = (g.set q (.dt (seenD (addPs rows ((x.ps.zip y.ps).take x.ps.length))))).set r (.lst ((addPs rows ((x.ps.zip y.ps).take x.ps.length)).map prD))) := by
    refine loopF_ind (n := x.ps.length) (fun n L g' => (∃ m8, L = [some (grD A), some (grD B), some (.ref r), some (.ref q), some (.int (at_ : Nat)), some (.int (i : Nat)), some (.int (j : Nat)), l7, m8]) ∧ g' = (g.set q (.dt (seenD (addPs rows ((x.ps.zip y.ps).take n))))).set r (.lst ((addPs rows ((x.ps.zip y.ps).take n)).map prD)))
      (fun n L g' hn ⟨⟨m8, e1⟩, e2⟩ => ?_) (fun L g' p => by simp [turn]) fuel 0 _ g (Nat.zero_le _) (by unfold fuel; omega) ⟨⟨l8, rfl⟩, ?_⟩
    · subst e1
      have hn2 : n < y.ps.length := by omega
      have hz : (x.ps.zip y.ps)[n]? = some (x.ps[n], y.ps[n]) := by simp [List.getElem?_zip_eq_some, hn, hn2]
      have tk : (x.ps.zip y.ps).take (n + 1) = (x.ps.zip y.ps).take n ++ [(x.ps[n], y.ps[n])] := by rw [List.take_add_one, hz]; rfl
      have ad : addPs rows ((x.ps.zip y.ps).take (n + 1)) = addP (addPs rows ((x.ps.zip y.ps).take n)) (x.ps[n], y.ps[n]) := by rw [tk]; unfold addPs; rw [List.foldl_append]; rfl
      have ok' : Rok a b (addPs rows ((x.ps.zip y.ps).take n)) := hok.adds fun p hp => by
        have h3 := List.of_mem_zip (List.mem_of_mem_take hp)
        exact ⟨px _ h3.1, py _ h3.2⟩
      have hlen : (addPs rows ((x.ps.zip y.ps).take n)).length < 16777216 := by
        have h3 := ok'.le
        have h4 : a * b ≤ 910 * 910 := Nat.mul_le_mul ha hb
        omega
      have q1 : g'[q]? = some (.dt (seenD (addPs rows ((x.ps.zip y.ps).take n)))) := by rw [e2, List.getElem?_set_ne hrq]; exact set_self hq
      have r1 : g'[r]? = some (.lst ((addPs rows ((x.ps.zip y.ps).take n)).map prD)) := by rw [e2]; exact set_self (by rw [List.getElem?_set_ne (Ne.symm hrq)]; exact hr)
      have := cmp_pair (T := T) (cf := runF T (k + 1)) (a := grD A) (b := grD B) (p := (x.ps[n], y.ps[n])) (at_ := at_) (l5 := some (.int (i : Nat))) (l6 := some (.int (j : Nat))) (l7 := l7) hrq r1 q1 hlen
      refine ⟨prD (x.ps[n], y.ps[n]), _, by simp [turn, hn, hn2, prD], rfl, _, _, .inl this, ⟨_, rfl⟩, ?_⟩
      rw [e2, ad]
      exact set4 hrq
    · show g = (g.set q (.dt (seenD rows))).set r (.lst (rows.map prD))
      rw [set_same hq, set_same hr]
  rw [show x.ps.length = (x.ps.zip y.ps).length by simp [hl], List.take_length] at eg
  subst eg
  have x1 : index g (.d (grD A)) (.int (i : Nat)) = some x.d := at_gr hx
  have x2 : index g (.d (grD B)) (.int (j : Nat)) = some y.d := at_gr hy
  have x3 : runF T (k + 1) pt [x.d] g = .ok (.tup (x.ps.map fun p => .int (p : Nat))) g := parts_ hP x
  have x4 : runF T (k + 1) pt [y.d] g = .ok (.tup (y.ps.map fun p => .int (p : Nat))) g := parts_ hP y
  refine ⟨_, ev_for (it := .zipT (x.ps.map fun p => .int (p : Nat)) (y.ps.map fun p => .int (p : Nat))) (g1 := g) ?_ e, m8, rfl⟩
  simp [evI, ev, evs, x1, x2, x3, x4, Py.R.bind, ofO, Py.R.lay, lay, tupOf]
theorem cmp_loop {k : Nat} (hC : T.fn cn = some (cnF nk)) (hK : T.fn nk = some (nkF gR)) (hR0 : T.gd gR = some ranksD) (hP : T.fn pt = some partsF) {A B : List Nd} {r q N : Nat} {R : Int} (ha : Gok A) (hb : Gok B) {l5 l6 l7 l8 : Option D} {rows : List Pr} {at_ : Nat} {g : G} (hN : N ≤ r) (hN2 : N ≤ q) (hrq : r ≠ q) (hr : g[r]? = some (.lst (rows.map prD))) (hq : g[q]? = some (.dt (seenD rows))) (hok : Rok A.length B.length rows) (hat : at_ ≤ rows.length)
    (hR : go A B (828101 - at_) rows at_ = R) :
    ∃ g', Old N g g' ∧ ∃ L', (evS T (runF T (k + 2)) (cpW cn pt) [some (grD A), some (grD B), some (.ref r), some (.ref q), some (.int (at_ : Nat)), l5, l6, l7, l8] g = .rt (.int R) g' ∨ (R = 0 ∧ evS T (runF T (k + 2)) (cpW cn pt) [some (grD A), some (grD B), some (.ref r), some (.ref q), some (.int (at_ : Nat)), l5, l6, l7, l8] g = .nx L' g')) := by
  have big : ∀ {rows : List Pr}, Rok A.length B.length rows → rows.length ≤ 828100 := fun h => Nat.le_trans h.le (Nat.mul_le_mul ha.len hb.len)
  have key := loopW_ind (c := fun L g => (ev T (runF T (k + 2)) (.cmp .lt (.v 4) (.bi .len (.cons (.v 2) .nil))) L g).test) (body := fun L g => evSs T (runF T (k + 2)) (cpB2 cn pt) L g)
    (Q := fun o => ∃ g', Old N g g' ∧ ∃ L', (o = .rt (.int R) g' ∨ (R = 0 ∧ o = .nx L' g')))
    (fun m L g' => ∃ rows at_ l5 l6 l7 l8, L = [some (grD A), some (grD B), some (.ref r), some (.ref q), some (.int (at_ : Nat)), l5, l6, l7, l8] ∧ g'[r]? = some (.lst (rows.map prD)) ∧ g'[q]? = some (.dt (seenD rows)) ∧ Rok A.length B.length rows ∧ at_ ≤ rows.length ∧ go A B (828101 - at_) rows at_ = R ∧ Old N g g' ∧ m = 828100 - at_)
    (fun m L g' ⟨rows, at_, l5, l6, l7, l8, eL, hr, hq, hok, hat, hR, ho, hm⟩ => ?_) fuel (828100 - at_) _ g (by unfold fuel; omega) ⟨rows, at_, l5, l6, l7, l8, rfl, hr, hq, hok, hat, hR, .refl N g, rfl⟩
  · simpa only [cpW, evS] using key
  subst eL hm
  have hb1 := big hok
  have hl1 : rows.length ≤ 16777216 := by omega
  by_cases hlt : at_ < rows.length
  · obtain ⟨p, hp⟩ : ∃ p, rows[at_]? = some p := ⟨_, List.getElem?_eq_getElem hlt⟩
    obtain ⟨i, j⟩ := p
    obtain ⟨hi, hj⟩ := hok.in_ _ (List.mem_of_getElem? hp)
    obtain ⟨x, hx⟩ : ∃ x, A[i]? = some x := ⟨_, List.getElem?_eq_getElem hi⟩
    obtain ⟨y, hy⟩ : ∃ y, B[j]? = some y := ⟨_, List.getElem?_eq_getElem hj⟩
    have okx := ha.nd x (List.mem_of_getElem? hx)
    have oky := hb.nd y (List.mem_of_getElem? hy)
    have px : x.ps.length ≤ 100 := by cases x <;> first | exact okx.1 | simp [Nd.ps]
    have py : y.ps.length ≤ 100 := by cases y <;> first | exact oky.1 | simp [Nd.ps]
    rw [show 828101 - at_ = (828100 - at_) + 1 by omega, go, hp] at hR
    simp only [hx, hy] at hR
    refine .inr ⟨g', ?_, ?_⟩
    · simp [evSs, evS, ev, evs, evI, Py.R.bind, ofO, isinst, truth, Py.R.test, Py.R.lay, lay, Py.R.toO, Py.O.then, asg, items, listOf, index, setIx, built1, built2, lenOf, cmpop, binop, augop, ordX, ltv, ltvs, alikeD, alikesD, D.isNon, keyed, isin, tr, trX, trL, eqv, eqvs, btype, bmok, bmeth, boolsOf, atI, ixN, small, hr, hl1, line, hlt]
    have x1 := at_rows hr hp
    have x2 : index g' (.d (grD A)) (.int (i : Nat)) = some x.d := at_gr hx
    have x4 : index g' (.d (grD B)) (.int (j : Nat)) = some y.d := at_gr hy
    have x3 := cmp_nodes (k := k) (g := g') hC hK hR0 x y px py
    have pre : evSs T (runF T (k + 2)) (cpB2 cn pt) [some (grD A), some (grD B), some (.ref r), some (.ref q), some (.int (at_ : Nat)), l5, l6, l7, l8] g' =
        evSs T (runF T (k + 2)) (ss1 (ss1 (ss1 (cpB2 cn pt)))) [some (grD A), some (grD B), some (.ref r), some (.ref q), some (.int ((at_ + 1 : Nat) : Int)), some (.int (i : Nat)), some (.int (j : Nat)), some (.int (kc x y)), l8] g' := by
      simp [cpB2, ss1, evSs, evS, ev, evs, x1, x2, x3, x4, Py.R.bind, truth, Py.R.test, Py.R.toO, Py.R.lay, Py.O.then, ofO, asg, lay, items, prD, binop, augop]
    by_cases hk : kc x y = 0
    · rw [if_neg (by simp [hk])] at hR
      left
      obtain ⟨L', e3, m8, eL⟩ := cmp_pairs (k := k + 1) hP (at_ := at_ + 1) (l7 := some (.int (kc x y))) (l8 := l8) hx hy (kc_ps hk) okx oky ha.len hb.len hrq hr hq hok
      have okp : Rok A.length B.length (addPs rows (x.ps.zip y.ps)) := hok.adds fun p hp => by
        have h5 := List.of_mem_zip hp
        constructor
        · cases x <;> first | exact okx.2 _ h5.1 | (simp [Nd.ps] at h5)
        · cases y <;> first | exact oky.2 _ h5.2 | (simp [Nd.ps] at h5)
      refine ⟨828100 - (at_ + 1), L', ((g'.set q (.dt (seenD (addPs rows (x.ps.zip y.ps))))).set r (.lst ((addPs rows (x.ps.zip y.ps)).map prD))), .inl ?_, by omega, addPs rows (x.ps.zip y.ps), at_ + 1, _, _, _, m8, eL, set_self (by rw [List.getElem?_set_ne (Ne.symm hrq)]; exact hr), ?_, okp, Nat.le_trans hlt (addPs_le (x.ps.zip y.ps) rows), ?_, (ho.trans (Old.set hN2)).trans (Old.set hN), rfl⟩
      · rw [pre]
        simp at e3
        simp [cpB2, ss1, evSs, evS, ev, e3, hk, Py.R.bind, truth, Py.R.test, Py.R.toO, Py.O.then, ofO, cmpop, trX, tr, eqv]
        rw [hk] at e3
        simp [e3]
      · rw [List.getElem?_set_ne hrq]
        exact set_self hq
      · rw [← hR]
        congr 1
        omega
    · rw [if_pos hk] at hR
      subst hR
      refine .inr (.inl ⟨.int (kc x y), g', ?_, g', ho, [], .inl rfl⟩)
      rw [pre]
      simp [cpB2, ss1, evSs, evS, ev, evs, hk, Py.R.bind, truth, Py.R.test, Py.R.toO, Py.R.lay, Py.O.then, ofO, asg, lay, cmpop, trX, tr, eqv]
  · have e0 : at_ = rows.length := by omega
    subst e0
    refine .inl ⟨g', ?_, g', ho, _, .inr ⟨?_, rfl⟩⟩
    · simp [evSs, evS, ev, evs, evI, Py.R.bind, ofO, isinst, truth, Py.R.test, Py.R.lay, lay, Py.R.toO, Py.O.then, asg, items, listOf, index, setIx, built1, built2, lenOf, cmpop, binop, augop, ordX, ltv, ltvs, alikeD, alikesD, D.isNon, keyed, isin, tr, trX, trL, eqv, eqvs, btype, bmok, bmeth, boolsOf, atI, ixN, small, hr, hl1, line]
    · rw [← hR, show 828101 - rows.length = (828100 - rows.length) + 1 by omega, go]
      simp
theorem compare_ {k : Nat} (hF : T.fn cp = some (cpF cn pt)) (hC : T.fn cn = some (cnF nk)) (hK : T.fn nk = some (nkF gR)) (hR0 : T.gd gR = some ranksD) (hP : T.fn pt = some partsF) {A B : List Nd} {g : G} (ha : Gok A) (hb : Gok B) (la : 0 < A.length) (lb : 0 < B.length) : ∃ g', runF T (k + 3) cp [grD A, grD B] g = .ok (.int (ans A B)) g' ∧ Old g.length g g' := by
  have hr : (g ++ [Ob.lst [.tup [.int 0, .int 0]]] ++ [Ob.dt (seenD [(0, 0)])])[g.length]? = some (.lst ([((0 : Nat), (0 : Nat))].map prD)) := by simp [prD]
  have hq : (g ++ [Ob.lst [.tup [.int 0, .int 0]]] ++ [Ob.dt (seenD [(0, 0)])])[g.length + 1]? = some (.dt (seenD [((0 : Nat), (0 : Nat))])) := by simp
  obtain ⟨g', ho, L', h⟩ := cmp_loop (k := k) hC hK hR0 hP (N := g.length) (R := ans A B) (at_ := 0) (l5 := none) (l6 := none) (l7 := none) (l8 := none) ha hb (Nat.le_refl _) (Nat.le_succ _) (by omega) hr hq (Rok.one la lb) (by simp) rfl
  have ho' : Old g.length g g' := ((Old.push (Nat.le_refl _)).trans (Old.push (by simp))).trans ho
  have ed : dicOf [.tup [.int 0, .int 0]] [.bl true] = some (.dt (seenD [((0 : Nat), (0 : Nat))])) := rfl
  refine ⟨g', ?_, ho'⟩
  rcases h with h | ⟨h0, h⟩
  · refine runF_rt hF rfl ?_
    simp [cpF, evSs, evS, ev, evs, Py.R.bind, Py.R.toO, Py.R.lay, Py.O.then, asg, lay, line, evens, odds, ed]
    simp at h
    rw [h]
  · refine runF_rt hF rfl ?_
    simp [cpF, evSs, evS, ev, evs, Py.R.bind, Py.R.toO, Py.R.lay, Py.O.then, asg, lay, line, evens, odds, ed]
    simp at h
    rw [h, h0]
def sw (p : Pr) : Pr := (p.2, p.1)
theorem sw_mem {rows : List Pr} {p : Pr} : sw p ∈ rows.map sw ↔ p ∈ rows := by
  constructor
  · intro h
    obtain ⟨q, hq, e⟩ := List.mem_map.mp h
    have : q = p := by
      obtain ⟨a, b⟩ := p
      obtain ⟨c, d⟩ := q
      simp [sw] at e
      simp [e]
    rw [← this]
    exact hq
  · exact fun h => List.mem_map.mpr ⟨p, h, rfl⟩
theorem addP_sw (rows : List Pr) (p : Pr) : addP (rows.map sw) (sw p) = (addP rows p).map sw := by
  unfold addP
  by_cases h : p ∈ rows
  · rw [if_pos h, if_pos (sw_mem.mpr h)]
  · rw [if_neg h, if_neg fun q => h (sw_mem.mp q)]
    simp
theorem addPs_sw : ∀ (ps rows : List Pr), addPs (rows.map sw) (ps.map sw) = (addPs rows ps).map sw
  | [], _ => rfl
  | p :: ps, rows => by
    show addPs (addP (rows.map sw) (sw p)) (ps.map sw) = (addPs (addP rows p) ps).map sw
    rw [addP_sw, addPs_sw ps]
theorem zip_sw : ∀ (xs ys : List Nat), ys.zip xs = (xs.zip ys).map sw
  | [], ys => by cases ys <;> rfl
  | x :: xs, [] => rfl
  | x :: xs, y :: ys => by
    show (y, x) :: ys.zip xs = sw (x, y) :: (xs.zip ys).map sw
    rw [zip_sw xs ys]
    rfl
theorem go_sw (A B : List Nd) : ∀ (n : Nat) (rows : List Pr) (at_ : Nat), go B A n (rows.map sw) at_ = -go A B n rows at_
  | 0, _, _ => rfl
  | n + 1, rows, at_ => by
    rw [go, go, List.getElem?_map]
    cases hp : rows[at_]? with
    | none => rfl
    | some p =>
      simp only [Option.map_some, sw]
      cases hx : A[p.1]? with
      | none => cases hy : B[p.2]? <;> rfl
      | some x =>
        cases hy : B[p.2]? with
        | none => rfl
        | some y =>
          simp only
          rw [kc_swap x y]
          by_cases h : kc x y = 0
          · rw [if_neg (by omega), if_neg (by omega), zip_sw x.ps y.ps, addPs_sw, go_sw A B n]
          · rw [if_pos (by omega), if_pos h]
theorem ans_sw (A B : List Nd) : ans B A = -ans A B := go_sw A B 828101 [(0, 0)] 0
theorem addPs_dia {ps : List Nat} : ∀ {rows : List Pr}, (∀ p ∈ rows, p.1 = p.2) → ∀ p ∈ addPs rows (ps.zip ps), p.1 = p.2 := by
  induction ps with
  | nil => exact fun h => h
  | cons x ps ih =>
    intro rows h
    refine ih (rows := addP rows (x, x)) fun p hp => ?_
    unfold addP at hp
    split at hp
    · exact h p hp
    · rcases List.mem_append.mp hp with hp | hp
      · exact h p hp
      · have : p = (x, x) := by simpa using hp
        rw [this]
theorem go_dia (A : List Nd) : ∀ (n : Nat) (rows : List Pr) (at_ : Nat), (∀ p ∈ rows, p.1 = p.2) → go A A n rows at_ = 0
  | 0, _, _, _ => rfl
  | n + 1, rows, at_, h => by
    rw [go]
    cases hp : rows[at_]? with
    | none => rfl
    | some p =>
      have := h p (List.mem_of_getElem? hp)
      simp only [← this]
      cases hx : A[p.1]? with
      | none => rfl
      | some x =>
        simp only [kc_self]
        rw [if_neg (by simp)]
        exact go_dia A n _ _ (addPs_dia h)
theorem ans_self (A : List Nd) : ans A A = 0 := go_dia A _ _ _ fun p hp => by
  have : p = (0, 0) := by simpa using hp
  rw [this]
end
end Py.Gr
set_option linter.all false
set_option maxRecDepth 100000
set_option maxHeartbeats 1000000
/-! PlT: compare is an order. -/
namespace Py.Gr
open Py
/-! ### orders, plainly -/
structure Cmp {α : Type} (f : α → α → Int) : Prop where
  sw : ∀ x y, f y x = -f x y
  tr : ∀ x y z, f x y ≤ 0 → f y z ≤ 0 → f x z ≤ 0
def lexc (c d : Int) : Int := if c ≠ 0 then c else d
theorem Cmp.lt1 {α : Type} {f : α → α → Int} (h : Cmp f) {x y z : α} (h1 : f x y < 0) (h2 : f y z ≤ 0) : f x z < 0 := by
  have a := h.tr x y z (by omega) h2
  apply Classical.byContradiction
  intro hn
  have e1 := h.sw x z
  have e2 := h.sw x y
  have := h.tr y z x h2 (by omega)
  omega
theorem Cmp.lt2 {α : Type} {f : α → α → Int} (h : Cmp f) {x y z : α} (h1 : f x y ≤ 0) (h2 : f y z < 0) : f x z < 0 := by
  have a := h.tr x y z h1 (by omega)
  apply Classical.byContradiction
  intro hn
  have e1 := h.sw x z
  have e2 := h.sw y z
  have := h.tr z x y (by omega) h1
  omega
theorem Cmp.lex {α : Type} {f g : α → α → Int} (hf : Cmp f) (hg : Cmp g) : Cmp fun x y => lexc (f x y) (g x y) := by
  refine ⟨fun x y => ?_, fun x y z h1 h2 => ?_⟩
  · simp only [lexc]
    have a := hf.sw x y
    have b := hg.sw x y
    by_cases c : f x y = 0
    · rw [if_neg (by omega), if_neg (by omega)]; exact b
    · rw [if_pos (by omega), if_pos (by omega)]; exact a
  · simp only [lexc] at h1 h2 ⊢
    have l1 : f x y ≤ 0 := by split at h1 <;> omega
    have l2 : f y z ≤ 0 := by split at h2 <;> omega
    have l3 := hf.tr x y z l1 l2
    by_cases c : f x z = 0
    · rw [if_neg (by omega)]
      have c1 : f x y = 0 := by
        apply Classical.byContradiction
        intro hn
        have := hf.lt1 (x := x) (y := y) (z := z) (by omega) l2
        omega
      have c2 : f y z = 0 := by
        apply Classical.byContradiction
        intro hn
        have := hf.lt2 (x := x) (y := y) (z := z) l1 (by omega)
        omega
      rw [if_neg (by omega)] at h1 h2
      exact hg.tr x y z h1 h2
    · rw [if_pos c]; exact l3
def ci (a b : Int) : Int := if a < b then -1 else if b < a then 1 else 0
theorem ci_cmp {α : Type} (f : α → Int) : Cmp fun x y => ci (f x) (f y) := by
  refine ⟨fun x y => ?_, fun x y z h1 h2 => ?_⟩
  · simp only [ci]
    by_cases a : f x < f y
    · rw [if_pos a, if_neg (by omega), if_pos a]; rfl
    · by_cases b : f y < f x
      · rw [if_pos b, if_neg a, if_pos b]
      · rw [if_neg a, if_neg b, if_neg b, if_neg a]; rfl
  · simp only [ci] at h1 h2 ⊢
    have l1 : f x ≤ f y := by
      apply Classical.byContradiction
      intro hn
      rw [if_neg (by omega), if_pos (by omega)] at h1
      omega
    have l2 : f y ≤ f z := by
      apply Classical.byContradiction
      intro hn
      rw [if_neg (by omega), if_pos (by omega)] at h2
      omega
    by_cases a : f x < f z
    · rw [if_pos a]; decide
    · rw [if_neg a, if_neg (by omega)]; decide
def ct (s t : Tx) : Int := if lexLt s t then -1 else if lexLt t s then 1 else 0
theorem lex_trans : ∀ {s t u : Tx}, lexLt t s = false → lexLt u t = false → lexLt u s = false
  | [], _, [], _, _ => rfl
  | [], _, _ :: _, _, _ => rfl
  | a :: s, [], _, h, _ => by simp [lexLt] at h
  | a :: s, b :: t, [], _, h => by simp [lexLt] at h
  | a :: s, b :: t, c :: u, h1, h2 => by
    simp only [lexLt] at h1 h2 ⊢
    by_cases c1 : b.toNat < a.toNat
    · simp [c1] at h1
    by_cases c2 : c.toNat < b.toNat
    · simp [c2] at h2
    rw [if_neg c1] at h1
    rw [if_neg c2] at h2
    rw [if_neg (show ¬ c.toNat < a.toNat by omega)]
    by_cases d1 : a.toNat < b.toNat
    · rw [if_pos (show a.toNat < c.toNat by omega)]
    · rw [if_neg d1] at h1
      by_cases d2 : b.toNat < c.toNat
      · rw [if_pos (show a.toNat < c.toNat by omega)]
      · rw [if_neg d2] at h2
        rw [if_neg (show ¬ a.toNat < c.toNat by omega)]
        exact lex_trans h1 h2
theorem ct_cmp {α : Type} (f : α → Tx) : Cmp fun x y => ct (f x) (f y) := by
  refine ⟨fun x y => ?_, fun x y z h1 h2 => ?_⟩
  · simp only [ct]
    cases a : lexLt (f x) (f y) with
    | true => rw [lex_asy a]; rfl
    | false =>
      cases b : lexLt (f y) (f x) with
      | true => rfl
      | false => rfl
  · simp only [ct] at h1 h2 ⊢
    have l1 : lexLt (f y) (f x) = false := by
      cases b : lexLt (f y) (f x) with
      | false => rfl
      | true => rw [b, lex_asy b] at h1; simp at h1
    have l2 : lexLt (f z) (f y) = false := by
      cases b : lexLt (f z) (f y) with
      | false => rfl
      | true => rw [b, lex_asy b] at h2; simp at h2
    rw [lex_trans l1 l2]
    cases lexLt (f x) (f z) <;> decide
theorem kc_eq : kc = fun x y => lexc (ci x.rk y.rk) (lexc (ci x.nm y.nm) (lexc (ct x.tx y.tx) (ci x.ls y.ls))) := by
  funext x y
  unfold kc lexc ci ct
  by_cases a1 : x.rk < y.rk
  · simp [a1]
  by_cases a2 : y.rk < x.rk
  · simp [a1, a2]
  by_cases b1 : x.nm < y.nm
  · simp [a1, a2, b1]
  by_cases b2 : y.nm < x.nm
  · simp [a1, a2, b1, b2]
  by_cases c1 : lexLt x.tx y.tx = true
  · simp [a1, a2, b1, b2, c1]
  by_cases c2 : lexLt y.tx x.tx = true
  · simp [a1, a2, b1, b2, c1, c2]
  simp [a1, a2, b1, b2, c1, c2]
theorem kc_cmp : Cmp kc := by
  rw [kc_eq]
  exact (ci_cmp Nd.rk).lex ((ci_cmp Nd.nm).lex ((ct_cmp Nd.tx).lex (ci_cmp Nd.ls)))
/-- the order of two rows -/
def cmpL {α : Type} (f : α → α → Int) : List α → List α → Int
  | [], [] => 0
  | [], _ :: _ => -1
  | _ :: _, [] => 1
  | x :: xs, y :: ys => lexc (f x y) (cmpL f xs ys)
theorem cmpL_sw {α : Type} {f : α → α → Int} (h : Cmp f) : ∀ xs ys, cmpL f ys xs = -cmpL f xs ys
  | [], [] => rfl
  | [], _ :: _ => rfl
  | _ :: _, [] => rfl
  | x :: xs, y :: ys => by
    have ih := cmpL_sw h xs ys
    have e := h.sw x y
    simp only [cmpL, lexc]
    by_cases c : f x y = 0
    · rw [if_neg (by omega), if_neg (by omega)]; exact ih
    · rw [if_pos (by omega), if_pos (by omega)]; exact e
theorem cmpL_tr {α : Type} {f : α → α → Int} (h : Cmp f) : ∀ xs ys zs, cmpL f xs ys ≤ 0 → cmpL f ys zs ≤ 0 → cmpL f xs zs ≤ 0
  | [], _, [], _, _ => by simp [cmpL]
  | [], _, _ :: _, _, _ => by simp [cmpL]
  | _ :: _, [], _, h1, _ => by simp [cmpL] at h1
  | _ :: _, _ :: _, [], _, h2 => by simp [cmpL] at h2
  | x :: xs, y :: ys, z :: zs, h1, h2 => by
    have ih := cmpL_tr h xs ys zs
    simp only [cmpL, lexc] at h1 h2 ⊢
    have l1 : f x y ≤ 0 := by split at h1 <;> omega
    have l2 : f y z ≤ 0 := by split at h2 <;> omega
    have l3 := h.tr x y z l1 l2
    by_cases c : f x z = 0
    · rw [if_neg (by omega)]
      have c1 : f x y = 0 := by
        apply Classical.byContradiction
        intro hn
        have := h.lt1 (x := x) (y := y) (z := z) (by omega) l2
        omega
      have c2 : f y z = 0 := by
        apply Classical.byContradiction
        intro hn
        have := h.lt2 (x := x) (y := y) (z := z) l1 (by omega)
        omega
      rw [if_neg (by omega)] at h1 h2
      exact ih h1 h2
    · rw [if_pos c]; exact l3
theorem cmpL_cmp {α : Type} {f : α → α → Int} (h : Cmp f) : Cmp (cmpL f) := ⟨cmpL_sw h, cmpL_tr h⟩
/-! ### the trees, node by node -/
def nA (A : List Nd) (a : Nat) : Nd := A[a]?.getD (.var 0)
/-- the first n nodes of the tree, level by level -/
def sq (A : List Nd) : Nat → List Nat → List Nd
  | 0, _ => []
  | _ + 1, [] => []
  | n + 1, a :: Q => nA A a :: sq A n (Q ++ (nA A a).ps)
/-- pairs of nodes, all of them -/
def goU (A B : List Nd) : Nat → List Pr → Int
  | 0, _ => 0
  | _ + 1, [] => 0
  | n + 1, p :: Q => lexc (kc (nA A p.1) (nA B p.2)) (goU A B n (Q ++ (nA A p.1).ps.zip (nA B p.2).ps))
theorem goU_sq (A B : List Nd) : ∀ (n : Nat) (QA QB : List Nat), QA.length = QB.length → goU A B n (QA.zip QB) = cmpL kc (sq A n QA) (sq B n QB)
  | 0, _, _, _ => rfl
  | n + 1, [], [], _ => rfl
  | n + 1, [], _ :: _, h => by simp at h
  | n + 1, _ :: _, [], h => by simp at h
  | n + 1, a :: QA, b :: QB, h => by
    simp only [List.length_cons, Nat.add_right_cancel_iff] at h
    simp only [List.zip_cons_cons, goU, sq, cmpL, lexc]
    by_cases c : kc (nA A a) (nA B b) = 0
    · rw [if_neg (by omega), if_neg (by omega)]
      have l := kc_ps c
      rw [← List.zip_append h]
      exact goU_sq A B n _ _ (by simp [h, l])
    · rw [if_pos c, if_pos c]
theorem goU_more (A B : List Nd) : ∀ (n m : Nat) (Q : List Pr), goU A B n Q ≠ 0 → n ≤ m → goU A B m Q = goU A B n Q
  | 0, _, _, h, _ => absurd rfl h
  | n + 1, 0, _, _, h => by omega
  | n + 1, m + 1, [], h, _ => absurd rfl h
  | n + 1, m + 1, p :: Q, h, hm => by
    simp only [goU, lexc] at h ⊢
    by_cases c : kc (nA A p.1) (nA B p.2) = 0
    · rw [if_neg (by omega)] at h
      rw [if_neg (by omega), if_neg (by omega)]
      exact goU_more A B n m _ h (by omega)
    · rw [if_pos c, if_pos c]
/-! ### trees that are the same -/
structure Zb (A B : List Nd) (Z : Pr → Prop) : Prop where
  lt : ∀ p, Z p → p.1 < A.length ∧ p.2 < B.length
  kc0 : ∀ p, Z p → kc (nA A p.1) (nA B p.2) = 0
  cl : ∀ p, Z p → ∀ q ∈ (nA A p.1).ps.zip (nA B p.2).ps, Z q
theorem goU_Z {A B : List Nd} {Z : Pr → Prop} (z : Zb A B Z) : ∀ (n : Nat) (Q : List Pr), (∀ p ∈ Q, Z p) → goU A B n Q = 0
  | 0, _, _ => rfl
  | n + 1, [], _ => rfl
  | n + 1, p :: Q, h => by
    have hp := h p List.mem_cons_self
    simp only [goU, lexc]
    rw [if_neg (by simp [z.kc0 p hp])]
    refine goU_Z z n _ fun q hq => ?_
    rcases List.mem_append.mp hq with m | m
    · exact h q (List.mem_cons_of_mem _ m)
    · exact z.cl p hp q m
theorem addPs_mem : ∀ {ps rows : List Pr} {p : Pr}, p ∈ addPs rows ps ↔ p ∈ rows ∨ p ∈ ps
  | [], rows, p => by simp [addPs]
  | q :: ps, rows, p => by
    have ih := addPs_mem (ps := ps) (rows := addP rows q) (p := p)
    show p ∈ addPs (addP rows q) ps ↔ _
    rw [ih]
    unfold addP
    split
    · rename_i hm
      constructor
      · rintro (h | h)
        · exact .inl h
        · exact .inr (List.mem_cons_of_mem _ h)
      · rintro (h | h)
        · exact .inl h
        · rcases List.mem_cons.mp h with e | e
          · subst e; exact .inl hm
          · exact .inr e
    · simp only [List.mem_append, List.mem_singleton, List.mem_cons, List.not_mem_nil, false_or, or_assoc]
theorem go_Z {A B : List Nd} {Z : Pr → Prop} (z : Zb A B Z) : ∀ (n : Nat) (rows : List Pr) (at_ : Nat), (∀ p ∈ rows, Z p) → go A B n rows at_ = 0
  | 0, _, _, _ => rfl
  | n + 1, rows, at_, h => by
    rw [go]
    cases e : rows[at_]? with
    | none => rfl
    | some p =>
      have hp := h p (List.mem_of_getElem? e)
      obtain ⟨l1, l2⟩ := z.lt p hp
      have k0 := z.kc0 p hp
      have c := z.cl p hp
      simp only [List.getElem?_eq_getElem l1, List.getElem?_eq_getElem l2]
      unfold nA at k0 c
      rw [List.getElem?_eq_getElem l1, List.getElem?_eq_getElem l2] at k0 c
      simp only [Option.getD_some] at k0 c
      rw [if_neg (by simp [k0])]
      refine go_Z z n _ _ fun q hq => ?_
      rcases addPs_mem.mp hq with m | m
      · exact h q m
      · exact c q m
end Py.Gr
set_option linter.all false
set_option maxRecDepth 100000
set_option maxHeartbeats 1000000
/-! PlU: what compare's walk has found. -/
namespace Py.Gr
open Py
theorem addPs_pre : ∀ (ps rows : List Pr), ∃ nw, addPs rows ps = rows ++ nw
  | [], rows => ⟨[], by simp [addPs]⟩
  | q :: ps, rows => by
    obtain ⟨nw, e⟩ := addPs_pre ps (addP rows q)
    have e2 : addPs rows (q :: ps) = addPs (addP rows q) ps := rfl
    rw [e2, e]
    unfold addP
    split
    · exact ⟨nw, rfl⟩
    · exact ⟨q :: nw, by simp⟩
theorem zip_in {A B : List Nd} (hA : Gok A) (hB : Gok B) {i j : Nat} (hi : i < A.length) (hj : j < B.length) : ∀ q ∈ (nA A i).ps.zip (nA B j).ps, q.1 < A.length ∧ q.2 < B.length := by
  intro q hq
  obtain ⟨h1, h2⟩ := List.of_mem_zip hq
  have p1 := psA_lt0 hA hi h1
  have p2 := psA_lt0 hB hj h2
  exact ⟨p1, p2⟩
where
  psA_lt0 {A : List Nd} (hA : Gok A) {a b : Nat} (ha : a < A.length) (h : b ∈ (nA A a).ps) : b < A.length := by
    unfold nA at h
    rw [List.getElem?_eq_getElem ha] at h
    exact (A[a].ok_ps (hA.nd _ (List.getElem_mem ha))).2 b h
theorem nA_at {A : List Nd} {i : Nat} (h : i < A.length) : A[i]? = some (nA A i) := by
  unfold nA
  rw [List.getElem?_eq_getElem h]
  rfl
/-- what is behind: equal heads, and all parts are met -/
def Dn (A B : List Nd) (D rows : List Pr) : Prop := ∀ p ∈ D, kc (nA A p.1) (nA B p.2) = 0 ∧ ∀ q ∈ (nA A p.1).ps.zip (nA B p.2).ps, q ∈ rows
theorem Dn.next {A B : List Nd} {rows nw : List Pr} {at_ : Nat} {p : Pr} (h : Dn A B (rows.take at_) rows) (e : rows[at_]? = some p) (k0 : kc (nA A p.1) (nA B p.2) = 0) (ea : addPs rows ((nA A p.1).ps.zip (nA B p.2).ps) = rows ++ nw) : Dn A B ((rows ++ nw).take (at_ + 1)) (rows ++ nw) := by
  have hl := (List.getElem?_eq_some_iff.mp e).1
  have et : (rows ++ nw).take (at_ + 1) = rows.take at_ ++ [p] := by
    rw [List.take_append_of_le_length (by omega), List.take_add_one, e]
    rfl
  rw [et]
  intro q hq
  rcases List.mem_append.mp hq with m | m
  · obtain ⟨h1, h2⟩ := h q m
    exact ⟨h1, fun z hz => List.mem_append_left _ (h2 z hz)⟩
  · obtain rfl := List.mem_singleton.mp m
    exact ⟨k0, fun z hz => by rw [← ea]; exact addPs_mem.mpr (.inr hz)⟩
theorem go_zero {A B : List Nd} (hA : Gok A) (hB : Gok B) : ∀ (n : Nat) (rows : List Pr) (at_ : Nat), Rok A.length B.length rows → at_ ≤ rows.length → A.length * B.length < n + at_ → Dn A B (rows.take at_) rows → go A B n rows at_ = 0 → ∃ Z : Pr → Prop, Zb A B Z ∧ ∀ p ∈ rows, Z p
  | 0, rows, at_, ok, hl, hn, _, _ => by
    have := ok.le
    omega
  | n + 1, rows, at_, ok, hl, hn, dn, hz => by
    rw [go] at hz
    cases e : rows[at_]? with
    | none =>
      have hl2 := List.getElem?_eq_none_iff.mp e
      have et : rows.take at_ = rows := List.take_of_length_le hl2
      rw [et] at dn
      exact ⟨fun p => p ∈ rows, ⟨ok.in_, fun p hp => (dn p hp).1, fun p hp => (dn p hp).2⟩, fun p hp => hp⟩
    | some p =>
      obtain ⟨hi, hj⟩ := ok.in_ p (List.mem_of_getElem? e)
      rw [e] at hz
      simp only [nA_at hi, nA_at hj] at hz
      by_cases c : kc (nA A p.1) (nA B p.2) = 0
      · rw [if_neg (by simp [c])] at hz
        obtain ⟨nw, ea⟩ := addPs_pre ((nA A p.1).ps.zip (nA B p.2).ps) rows
        have ok2 := ok.adds (zip_in hA hB hi hj)
        have dn2 := dn.next e c ea
        have hlt := (List.getElem?_eq_some_iff.mp e).1
        rw [ea] at hz ok2
        obtain ⟨Z, z1, z2⟩ := go_zero hA hB n _ _ ok2 (by simp; omega) (by omega) dn2 hz
        exact ⟨Z, z1, fun q hq => z2 q (List.mem_append_left _ hq)⟩
      · rw [if_pos c] at hz
        exact absurd hz c
/-! ### all pairs, and each pair once -/
inductive Emb (D : List Pr) : List Pr → List Pr → List Pr → Prop where
  | nil (pre : List Pr) : Emb D pre [] []
  | keep {pre Q q : List Pr} {p : Pr} : Emb D (pre ++ [p]) Q q → Emb D pre (p :: Q) (p :: q)
  | drop {pre Q q : List Pr} {e : Pr} : e ∈ D ∨ e ∈ pre → Emb D pre Q q → Emb D pre (e :: Q) q
theorem Emb.all {D pre : List Pr} : ∀ {cs : List Pr}, (∀ c ∈ cs, c ∈ D ∨ c ∈ pre) → Emb D pre cs []
  | [], _ => .nil pre
  | c :: cs, h => .drop (h c List.mem_cons_self) (Emb.all fun x hx => h x (List.mem_cons_of_mem _ hx))
theorem Emb.app {D pre Q q cs : List Pr} (h : Emb D pre Q q) : (∀ c ∈ cs, c ∈ D ∨ c ∈ pre ∨ c ∈ q) → Emb D pre (Q ++ cs) q := by
  induction h with
  | nil pre => intro hc; exact Emb.all fun c hx => by rcases hc c hx with a | a | a; exact .inl a; exact .inr a; cases a
  | @keep pre Q q p _ ih =>
    intro hc
    refine .keep (ih fun c hx => ?_)
    rcases hc c hx with a | a | a
    · exact .inl a
    · exact .inr (.inl (List.mem_append_left _ a))
    · rcases List.mem_cons.mp a with e | e
      · subst e; exact .inr (.inl (by simp))
      · exact .inr (.inr e)
  | drop he _ ih => intro hc; exact .drop he (ih hc)
theorem Emb.put {D pre Q q : List Pr} {c : Pr} (h : Emb D pre Q q) : Emb D pre (Q ++ [c]) (q ++ [c]) := by
  induction h with
  | nil pre => exact .keep (.nil _)
  | keep _ ih => exact .keep ih
  | drop he _ ih => exact .drop he ih
theorem Emb.mono {D D' pre Q q : List Pr} (h : Emb D pre Q q) : ∀ {pre' : List Pr}, (∀ x ∈ D, x ∈ D') → (∀ x ∈ pre, x ∈ D' ∨ x ∈ pre') → Emb D' pre' Q q := by
  induction h with
  | nil pre => intro pre' _ _; exact .nil _
  | @keep pre Q q p _ ih =>
    intro pre' h1 h2
    refine .keep (ih h1 fun x hx => ?_)
    rcases List.mem_append.mp hx with a | a
    · rcases h2 x a with b | b
      · exact .inl b
      · exact .inr (List.mem_append_left _ b)
    · exact .inr (List.mem_append_right _ a)
  | @drop pre Q q e he _ ih =>
    intro pre' h1 h2
    refine .drop ?_ (ih h1 h2)
    rcases he with a | a
    · exact .inl (h1 _ a)
    · exact h2 _ a
theorem Emb.split {D pre Q q0 : List Pr} (h : Emb D pre Q q0) : ∀ {p : Pr} {q : List Pr}, pre = [] → q0 = p :: q → ∃ E Q2, Q = E ++ p :: Q2 ∧ (∀ e ∈ E, e ∈ D) ∧ Emb D [p] Q2 q := by
  induction h with
  | nil pre => intro p q _ e; cases e
  | @keep pre Q q1 p1 hk _ => intro p q hp e; subst hp; cases e; exact ⟨[], Q, rfl, by simp, hk⟩
  | @drop pre Q q1 e1 he _ ih =>
    intro p q hp e
    subst hp
    obtain ⟨E, Q2, h1, h2, h3⟩ := ih rfl e
    refine ⟨e1 :: E, Q2, by rw [h1]; rfl, fun x hx => ?_, h3⟩
    rcases List.mem_cons.mp hx with a | a
    · subst a
      rcases he with b | b
      · exact b
      · cases b
    · exact h2 x a
def chs (A B : List Nd) (E : List Pr) : List Pr := E.flatMap fun p => (nA A p.1).ps.zip (nA B p.2).ps
theorem goU_skip (A B : List Nd) (m : Nat) : ∀ (E R : List Pr), (∀ e ∈ E, kc (nA A e.1) (nA B e.2) = 0) → goU A B (E.length + m) (E ++ R) = goU A B m (R ++ chs A B E)
  | [], R, _ => by simp [chs]
  | e :: E, R, h => by
    have k0 := h e List.mem_cons_self
    rw [List.length_cons, show E.length + 1 + m = (E.length + m) + 1 by omega, List.cons_append, goU, lexc, if_neg (by simp [k0])]
    have ih := goU_skip A B m E (R ++ (nA A e.1).ps.zip (nA B e.2).ps) fun x hx => h x (List.mem_cons_of_mem _ hx)
    rw [List.append_assoc, ih]
    simp [chs, List.append_assoc]
theorem emb_adds {D : List Pr} : ∀ {cs rows q Q : List Pr} {k : Nat}, Emb D [] Q (rows.drop k) → (∀ x ∈ rows.take k, x ∈ D) → k ≤ rows.length → Emb D [] (Q ++ cs) ((addPs rows cs).drop k)
  | [], rows, q, Q, k, h, _, _ => by simpa [addPs] using h
  | c :: cs, rows, q, Q, k, h, hd, hk => by
    have e2 : addPs rows (c :: cs) = addPs (addP rows c) cs := rfl
    rw [e2, show Q ++ c :: cs = (Q ++ [c]) ++ cs by simp]
    by_cases hm : c ∈ rows
    · have ea : addP rows c = rows := by unfold addP; rw [if_pos hm]
      rw [ea]
      refine emb_adds (q := q) (h.app fun x hx => ?_) hd hk
      obtain rfl := List.mem_singleton.mp hx
      rw [← List.take_append_drop k rows] at hm
      rcases List.mem_append.mp hm with a | a
      · exact .inl (hd _ a)
      · exact .inr (.inr a)
    · have ea : addP rows c = rows ++ [c] := by unfold addP; rw [if_neg hm]
      rw [ea]
      refine emb_adds (q := q) ?_ ?_ (by simp; omega)
      · rw [List.drop_append_of_le_length hk]
        exact h.put
      · rw [List.take_append_of_le_length hk]
        exact hd
theorem go_goU {A B : List Nd} (hA : Gok A) (hB : Gok B) : ∀ (n : Nat) (rows Q : List Pr) (at_ : Nat), Rok A.length B.length rows → Dn A B (rows.take at_) rows → Emb (rows.take at_) [] Q (rows.drop at_) → go A B n rows at_ ≠ 0 → ∃ m, goU A B m Q = go A B n rows at_
  | 0, _, _, _, _, _, _, h => absurd rfl h
  | n + 1, rows, Q, at_, ok, dn, em, h => by
    rw [go] at h ⊢
    cases e : rows[at_]? with
    | none => rw [e] at h; exact absurd rfl h
    | some p =>
      obtain ⟨hi, hj⟩ := ok.in_ p (List.mem_of_getElem? e)
      rw [e] at h
      simp only [nA_at hi, nA_at hj] at h ⊢
      have hlt := (List.getElem?_eq_some_iff.mp e).1
      have hp := (List.getElem?_eq_some_iff.mp e).2
      rw [List.drop_eq_getElem_cons hlt, hp] at em
      obtain ⟨E, Q2, rfl, hE, em2⟩ := em.split rfl rfl
      have sk := fun m => goU_skip A B m E (p :: Q2) fun x hx => (dn x (hE x hx)).1
      by_cases c : kc (nA A p.1) (nA B p.2) = 0
      · rw [if_neg (by simp [c])] at h ⊢
        obtain ⟨nw, ea⟩ := addPs_pre ((nA A p.1).ps.zip (nA B p.2).ps) rows
        have ok2 := ok.adds (zip_in hA hB hi hj)
        have dn2 := dn.next e c ea
        have et : (rows ++ nw).take (at_ + 1) = rows.take at_ ++ [p] := by
          rw [List.take_append_of_le_length (by omega), List.take_add_one, e]
          rfl
        have et2 : rows.take (at_ + 1) = rows.take at_ ++ [p] := by rw [List.take_add_one, e]; rfl
        have em3 : Emb (rows.take at_ ++ [p]) [] Q2 (rows.drop (at_ + 1)) := em2.mono (fun x hx => List.mem_append_left _ hx) (fun x hx => .inl (List.mem_append_right _ hx))
        have em4 : Emb (rows.take at_ ++ [p]) [] (Q2 ++ chs A B E) (rows.drop (at_ + 1)) := em3.app fun x hx => by
          obtain ⟨f, hf, hx⟩ := List.mem_flatMap.mp hx
          have := (dn f (hE f hf)).2 x hx
          rw [← List.take_append_drop (at_ + 1) rows] at this
          rcases List.mem_append.mp this with a | a
          · exact .inl (by rw [← et2]; exact a)
          · exact .inr (.inr a)
        have em5 := emb_adds (q := []) (cs := (nA A p.1).ps.zip (nA B p.2).ps) em4 (fun x hx => by rw [← et2]; exact hx) (by omega)
        rw [ea] at em5 ok2 h ⊢
        rw [← et] at em5
        obtain ⟨m, hm⟩ := go_goU hA hB n _ _ _ ok2 dn2 em5 h
        refine ⟨E.length + (m + 1), ?_⟩
        rw [sk, List.cons_append, goU, lexc, if_neg (by simp [c])]
        exact hm
      · rw [if_pos c] at h ⊢
        refine ⟨E.length + 1, ?_⟩
        rw [sk, List.cons_append, goU, lexc, if_pos c]
theorem ans_zero {A B : List Nd} (hA : Gok A) (hB : Gok B) (lA : 0 < A.length) (lB : 0 < B.length) (h : ans A B = 0) : ∃ Z : Pr → Prop, Zb A B Z ∧ Z (0, 0) := by
  have l : A.length * B.length ≤ 910 * 910 := Nat.mul_le_mul hA.len hB.len
  obtain ⟨Z, z1, z2⟩ := go_zero hA hB 828101 [(0, 0)] 0 (Rok.one lA lB) (by simp) (by omega) (fun p hp => by simp at hp) h
  exact ⟨Z, z1, z2 _ (by simp)⟩
theorem ans_Z {A B : List Nd} {Z : Pr → Prop} (z : Zb A B Z) (h : Z (0, 0)) : ans A B = 0 := go_Z z _ _ _ fun p hp => by rw [List.mem_singleton.mp hp]; exact h
/-- compare tells the order of the trees, node by node -/
theorem ans_sq {A B : List Nd} (hA : Gok A) (hB : Gok B) (lA : 0 < A.length) (lB : 0 < B.length) : ∃ N, ∀ n, N ≤ n → ans A B = cmpL kc (sq A n [0]) (sq B n [0]) := by
  have e : ∀ n, cmpL kc (sq A n [0]) (sq B n [0]) = goU A B n [(0, 0)] := fun n => (goU_sq A B n [0] [0] rfl).symm
  by_cases h : ans A B = 0
  · obtain ⟨Z, z1, z2⟩ := ans_zero hA hB lA lB h
    refine ⟨0, fun n _ => ?_⟩
    rw [e, h, goU_Z z1 n _ fun p hp => by rw [List.mem_singleton.mp hp]; exact z2]
  · obtain ⟨m, hm⟩ := go_goU hA hB 828101 [(0, 0)] [(0, 0)] 0 (Rok.one lA lB) (fun p hp => by simp at hp) (.keep (.nil _)) h
    refine ⟨m, fun n hn => ?_⟩
    have q : goU A B m [(0, 0)] ≠ 0 := by rw [hm]; exact h
    rw [e, goU_more A B m n _ q hn, hm]
    rfl
theorem ans_tr {A B C : List Nd} (hA : Gok A) (hB : Gok B) (hC : Gok C) (lA : 0 < A.length) (lB : 0 < B.length) (lC : 0 < C.length) (h1 : ans A B ≤ 0) (h2 : ans B C ≤ 0) : ans A C ≤ 0 := by
  obtain ⟨N1, e1⟩ := ans_sq hA hB lA lB
  obtain ⟨N2, e2⟩ := ans_sq hB hC lB lC
  obtain ⟨N3, e3⟩ := ans_sq hA hC lA lC
  have f1 := e1 (N1 + N2 + N3) (by omega)
  have f2 := e2 (N1 + N2 + N3) (by omega)
  have f3 := e3 (N1 + N2 + N3) (by omega)
  rw [f3]
  exact cmpL_tr kc_cmp _ _ _ (by rw [← f1]; exact h1) (by rw [← f2]; exact h2)
/-- equal trees are in the same order -/
theorem ans_same {A A' B : List Nd} (hA : Gok A) (hA' : Gok A') (hB : Gok B) (lA : 0 < A.length) (lA' : 0 < A'.length) (lB : 0 < B.length) (h : ans A A' = 0) (hs : ∀ A B, ans A B = -1 ∨ ans A B = 0 ∨ ans A B = 1) : ans A' B = ans A B := by
  have t1 := ans_tr hA hA' hB lA lA' lB (by omega)
  have t2 := ans_tr hA' hA hB lA' lA lB (by rw [ans_sw]; omega)
  have t3 := ans_tr hB hA hA' lB lA lA'
  have t4 := ans_tr hB hA' hA lB lA' lA
  have s1 := ans_sw A B
  have s2 := ans_sw A' B
  have s3 := ans_sw A A'
  have v1 := hs A B
  have v2 := hs A' B
  omega
theorem kc_val (x y : Nd) : kc x y = -1 ∨ kc x y = 0 ∨ kc x y = 1 := by
  unfold kc
  repeat' split
  all_goals simp
theorem go_val (A B : List Nd) : ∀ (n : Nat) (rows : List Pr) (at_ : Nat), go A B n rows at_ = -1 ∨ go A B n rows at_ = 0 ∨ go A B n rows at_ = 1
  | 0, _, _ => .inr (.inl rfl)
  | n + 1, rows, at_ => by
    rw [go]
    split
    · exact .inr (.inl rfl)
    · split
      · split
        · exact kc_val _ _
        · exact go_val A B n _ _
      · exact .inr (.inl rfl)
theorem ans_val (A B : List Nd) : ans A B = -1 ∨ ans A B = 0 ∨ ans A B = 1 := go_val A B _ _ _
end Py.Gr
set_option linter.all false
set_option maxRecDepth 100000
set_option maxHeartbeats 1000000
/-! PlV: equal trees have the same least graph. -/
namespace Py.Gr
open Py
theorem kc_hk {x y : Nd} (h : kc x y = 0) : x.hk = y.hk := by
  obtain ⟨h1, h2, h3, h4⟩ := kc_zero h
  cases x <;> cases y <;> simp [Nd.rk] at h1 <;> simp_all [Nd.nm, Nd.tx, Nd.ls, Nd.hk]
theorem hk_kc {x y : Nd} (h : x.hk = y.hk) : kc x y = 0 := by
  have e : x.rk = y.rk ∧ x.nm = y.nm ∧ x.tx = y.tx ∧ x.ls = y.ls := by
    cases x <;> cases y <;> simp_all [Nd.nm, Nd.tx, Nd.ls, Nd.hk, Nd.rk]
  obtain ⟨h1, h2, h3, h4⟩ := e
  unfold kc
  rw [h1, h2, h3, h4]
  simp [lex_irr]
theorem Zb.swap {A B : List Nd} {Z : Pr → Prop} (z : Zb A B Z) : Zb B A fun p => Z (p.2, p.1) := by
  refine ⟨fun p hp => (z.lt _ hp).symm, fun p hp => ?_, fun p hp q hq => ?_⟩
  · have := z.kc0 _ hp
    rw [kc_swap]
    simp only at this ⊢
    omega
  · have e : (q.2, q.1) ∈ (nA A p.2).ps.zip (nA B p.1).ps := by
      rw [zip_sw]
      exact List.mem_map.mpr ⟨q, hq, rfl⟩
    exact z.cl _ hp _ e
theorem zip_get {α β : Type} {xs : List α} {ys : List β} {k : Nat} {x : α} {y : β} (h1 : xs[k]? = some x) (h2 : ys[k]? = some y) : (x, y) ∈ xs.zip ys :=
  List.mem_of_getElem? (i := k) (by rw [List.getElem?_zip_eq_some]; exact ⟨h1, h2⟩)
/-- nodes that stand for the same are of one class where their fellows are -/
theorem Zb.rel {A B : List Nd} {Z : Pr → Prop} (hA : Gok A) (hB : Gok B) (z : Zb A B Z) {a b a' b' : Nat} (ha : Z (a, a')) (hb : Z (b, b')) (h : (cls B)[a']? = (cls B)[b']?) : (cls A)[a]? = (cls A)[b]? := by
  obtain ⟨lB, bB⟩ := cls_bis hB.nd
  refine cls_max (R := fun i j => ∃ i' j', Z (i, i') ∧ Z (j, j') ∧ Sm (cls B) i' j') hA.nd ?_ (z.lt _ ha).1 (z.lt _ hb).1 ⟨a', b', ha, hb, by rw [lB]; exact (z.lt _ ha).2, by rw [lB]; exact (z.lt _ hb).2, h⟩
  rintro i j x y ⟨i', j', zi, zj, sm⟩ hx hy
  obtain ⟨li, li'⟩ := z.lt _ zi
  obtain ⟨lj, lj'⟩ := z.lt _ zj
  have ex : nA A i = x := by unfold nA; rw [hx]; rfl
  have ey : nA A j = y := by unfold nA; rw [hy]; rfl
  have k1 := z.kc0 _ zi
  have k2 := z.kc0 _ zj
  have c1 := z.cl _ zi
  have c2 := z.cl _ zj
  simp only at li li' lj lj'
  simp only [ex] at k1 c1
  simp only [ey] at k2 c2
  obtain ⟨b1, b2⟩ := bB i' j' _ _ sm (nA_at li') (nA_at lj')
  refine ⟨(kc_hk k1).trans (b1.trans (kc_hk k2).symm), fun k p q hp hq => ?_⟩
  have l1 := kc_ps k1
  have l2 := kc_ps k2
  have kp := (List.getElem?_eq_some_iff.mp hp).1
  have kq := (List.getElem?_eq_some_iff.mp hq).1
  have hp' : (nA B i').ps[k]? = some ((nA B i').ps[k]'(by omega)) := List.getElem?_eq_getElem (by omega)
  have hq' : (nA B j').ps[k]? = some ((nA B j').ps[k]'(by omega)) := List.getElem?_eq_getElem (by omega)
  exact ⟨_, _, c1 _ (zip_get hp hp'), c2 _ (zip_get hq hq'), b2 k _ _ hp' hq'⟩
theorem Zb.iff {A B : List Nd} {Z : Pr → Prop} (hA : Gok A) (hB : Gok B) (z : Zb A B Z) {a b a' b' : Nat} (ha : Z (a, a')) (hb : Z (b, b')) : (cls A)[a]?.getD 0 = (cls A)[b]?.getD 0 ↔ (cls B)[a']?.getD 0 = (cls B)[b']?.getD 0 := by
  have lA := (cls_bis hA.nd).1
  have lB := (cls_bis hB.nd).1
  obtain ⟨l1, l2⟩ := z.lt _ ha
  obtain ⟨l3, l4⟩ := z.lt _ hb
  simp only at l1 l2 l3 l4
  rw [getD_eq (by omega) (by omega), getD_eq (by omega) (by omega)]
  exact ⟨fun h => z.swap.rel hB hA (a := a') (b := b') (a' := a) (b' := b) ha hb h, z.rel hA hB ha hb⟩
/-- two rows, place by place -/
inductive Ez (Z : Pr → Prop) : List Nat → List Nat → Prop where
  | nil : Ez Z [] []
  | cons {a b : Nat} {x y : List Nat} : Z (a, b) → Ez Z x y → Ez Z (a :: x) (b :: y)
theorem Ez.app {Z : Pr → Prop} {x y u v : List Nat} (h : Ez Z x y) (h2 : Ez Z u v) : Ez Z (x ++ u) (y ++ v) := by
  induction h with
  | nil => exact h2
  | cons z _ ih => exact .cons z ih
theorem Ez.zip {Z : Pr → Prop} : ∀ {x y : List Nat}, x.length = y.length → (∀ q ∈ x.zip y, Z q) → Ez Z x y
  | [], [], _, _ => .nil
  | [], _ :: _, h, _ => by simp at h
  | _ :: _, [], h, _ => by simp at h
  | a :: x, b :: y, h, hz => .cons (hz (a, b) (by simp)) (Ez.zip (by simpa using h) fun q hq => hz q (by simp [hq]))
theorem Ez.map {α : Type} {Z : Pr → Prop} {F G : Nat → α} (hF : ∀ a b, Z (a, b) → F a = G b) {x y : List Nat} (h : Ez Z x y) : x.map F = y.map G := by
  induction h with
  | nil => rfl
  | cons z _ ih => simp only [List.map_cons, hF _ _ z, ih]
theorem Ez.mem {A B : List Nd} {Z : Pr → Prop} (hA : Gok A) (hB : Gok B) (z : Zb A B Z) {a b : Nat} (hz : Z (a, b)) {f g : List Nat} (h : Ez Z f g) :
    (cls A)[a]?.getD 0 ∈ f.map (fun c => (cls A)[c]?.getD 0) ↔ (cls B)[b]?.getD 0 ∈ g.map (fun c => (cls B)[c]?.getD 0) := by
  induction h with
  | nil => simp
  | cons h1 _ ih =>
    simp only [List.map_cons, List.mem_cons, ih, z.iff hA hB hz h1]
theorem Ez.idx {A B : List Nd} {Z : Pr → Prop} (hA : Gok A) (hB : Gok B) (z : Zb A B Z) {a b : Nat} (hz : Z (a, b)) {f g : List Nat} (h : Ez Z f g) :
    (f.map (fun c => (cls A)[c]?.getD 0)).idxOf ((cls A)[a]?.getD 0) = (g.map (fun c => (cls B)[c]?.getD 0)).idxOf ((cls B)[b]?.getD 0) := by
  induction h with
  | nil => rfl
  | cons h1 _ ih =>
    have e := z.iff hA hB h1 hz
    simp only [List.map_cons, List.idxOf_cons, ih]
    rw [Bool.eq_iff_iff.mpr (show ((cls A)[_]?.getD 0 == (cls A)[a]?.getD 0) = true ↔ ((cls B)[_]?.getD 0 == (cls B)[b]?.getD 0) = true by simpa using e)]
theorem Fst.move {A B : List Nd} {Z : Pr → Prop} (hA : Gok A) (hB : Gok B) (z : Zb A B Z) {S f R : List Nat} (h : Fst A (cls A) S f R) : ∀ {S' f' : List Nat}, Ez Z S S' → Ez Z f f' → ∃ R', Fst B (cls B) S' f' R' ∧ Ez Z R R' := by
  induction h with
  | nil f => intro S' f' hS hf; cases hS; exact ⟨f', .nil f', hf⟩
  | skip hm _ ih =>
    intro S' f' hS hf
    cases hS with
    | cons z1 hS =>
      obtain ⟨R', h1, h2⟩ := ih hS hf
      exact ⟨R', .skip ((Ez.mem hA hB z z1 hf).mp hm) h1, h2⟩
  | take hm _ ih =>
    intro S' f' hS hf
    cases hS with
    | cons z1 hS =>
      have l := kc_ps (z.kc0 _ z1)
      obtain ⟨R', h1, h2⟩ := ih (Ez.app (Ez.zip l (z.cl _ z1)) hS) (Ez.app hf (.cons z1 .nil))
      exact ⟨R', .take (fun q => hm ((Ez.mem hA hB z z1 hf).mpr q)) h1, h2⟩
/-- the same tree: the same least graph -/
theorem leastL_Z {A B : List Nd} {Z : Pr → Prop} (hA : Gok A) (hB : Gok B) (lA : 0 < A.length) (lB : 0 < B.length) (z : Zb A B Z) (h : Z (0, 0)) : leastL A = leastL B := by
  obtain ⟨fA, _⟩ := firsts_fst hA lA
  obtain ⟨fB, _⟩ := firsts_fst hB lB
  obtain ⟨R', h1, h2⟩ := fA.move hA hB z (.cons h .nil) .nil
  obtain rfl := fB.det h1
  refine h2.map fun a b zab => ?_
  have k := z.kc0 _ zab
  have l := kc_ps k
  have c := Ez.zip l (z.cl _ zab)
  obtain ⟨q1, q2, q3, q4⟩ := kc_zero k
  have e : ∀ x : Nat, A[x]?.getD (.var 0) = nA A x := fun _ => rfl
  have e2 : ∀ x : Nat, B[x]?.getD (.var 0) = nA B x := fun _ => rfl
  rw [e, e2]
  simp only at q1 q2 q3 q4 c
  have m := c.map fun p p' zp => Ez.idx hA hB z zp h2
  generalize nA A a = x at q1 q2 q3 q4 m
  generalize nA B b = y at q1 q2 q3 q4 m
  cases x <;> cases y <;> simp [Nd.rk] at q1 <;> simp_all [Nd.nm, Nd.tx, Nd.ls, Nd.re, Nd.ps]
/-- a graph and its least graph -/
theorem Zb_least {A : List Nd} (hA : Gok A) (h0 : 0 < A.length) : ∃ Z : Pr → Prop, Zb A (leastL A) Z ∧ Z (0, 0) := by
  obtain ⟨lA, bA⟩ := cls_bis hA.nd
  obtain ⟨fA, ok⟩ := firsts_fst hA h0
  have f0 : ∃ l, firsts A = 0 :: l := by
    cases fA with
    | skip hm _ => simp at hm
    | take _ h =>
      obtain ⟨l, e⟩ := h.pre
      exact ⟨l, by rw [← e]; rfl⟩
  obtain ⟨fl, ef⟩ := f0
  refine ⟨fun p => p.1 < A.length ∧ (cls A)[p.1]?.getD 0 ∈ (firsts A).map (fun b => (cls A)[b]?.getD 0) ∧ p.2 = rho A p.1, ⟨?_, ?_, ?_⟩, h0, ?_, ?_⟩
  · rintro ⟨p, q⟩ ⟨h1, h2, h3⟩
    obtain ⟨hl, _⟩ := rho_at h2
    simp only at h1 h3 ⊢
    exact ⟨h1, by rw [h3, leastL_len]; exact hl⟩
  · rintro ⟨p, q⟩ ⟨h1, h2, h3⟩
    obtain ⟨hl, e⟩ := rho_at h2
    simp only at h1 h3 hl e ⊢
    subst h3
    have hf := ok.f_ _ (List.getElem_mem hl)
    have n1 : nA (leastL A) (rho A p) = (nA A (firsts A)[rho A p]).re (rho A) := by
      show (leastL A)[rho A p]?.getD (.var 0) = _
      rw [leastL_at hl]
      rfl
    rw [n1]
    refine hk_kc ?_
    rw [re_hk]
    exact (bA p (firsts A)[rho A p] _ _ ⟨by omega, by omega, (getD_eq (by omega) (by omega)).mp e.symm⟩ (nA_at h1) (nA_at hf)).1
  · rintro ⟨p, q⟩ ⟨h1, h2, h3⟩ ⟨c, d⟩ hcd
    obtain ⟨hl, e⟩ := rho_at h2
    simp only at h1 h3 hl e hcd ⊢
    subst h3
    have hf := ok.f_ _ (List.getElem_mem hl)
    have n1 : nA (leastL A) (rho A p) = (nA A (firsts A)[rho A p]).re (rho A) := by
      show (leastL A)[rho A p]?.getD (.var 0) = _
      rw [leastL_at hl]
      rfl
    rw [n1, re_ps] at hcd
    obtain ⟨k, hk, ek⟩ := List.getElem_of_mem hcd
    have e1 : ((nA A p).ps.zip ((nA A (firsts A)[rho A p]).ps.map (rho A)))[k]? = some (c, d) := by rw [List.getElem?_eq_getElem hk, ek]
    rw [List.getElem?_zip_eq_some] at e1
    obtain ⟨e1, e2⟩ := e1
    simp only at e1 e2
    rw [List.getElem?_map] at e2
    obtain ⟨c2, e3, rfl⟩ := Option.map_eq_some_iff.mp e2
    have sm := (bA p (firsts A)[rho A p] _ _ ⟨by omega, by omega, (getD_eq (by omega) (by omega)).mp e.symm⟩ (nA_at h1) (nA_at hf)).2 k c c2 e1 e3
    have ee : (cls A)[c]?.getD 0 = (cls A)[c2]?.getD 0 := by rw [sm.2.2]
    have hc2 := firsts_met hA h0 (firsts A)[rho A p] (List.getElem_mem hl) c2 (List.mem_of_getElem? e3)
    refine ⟨by have := sm.1; omega, by rw [ee]; exact hc2, ?_⟩
    unfold rho
    rw [ee]
  · rw [ef]; simp
  · have hl : 0 < (firsts A).length := by rw [ef]; simp
    have r0 := rho_self hA h0 hl
    have g0 : (firsts A)[0] = 0 := by simp [ef]
    rw [g0] at r0
    exact r0.symm
theorem ans_least {A : List Nd} (hA : Gok A) (h0 : 0 < A.length) : ans A (leastL A) = 0 := by
  obtain ⟨Z, z, h⟩ := Zb_least hA h0
  exact ans_Z z h
/-- compare says 0 just for the same least graph -/
theorem ans_zero_iff {A B : List Nd} (hA : Gok A) (hB : Gok B) (lA : 0 < A.length) (lB : 0 < B.length) : ans A B = 0 ↔ leastL A = leastL B := by
  constructor
  · intro h
    obtain ⟨Z, z, h⟩ := ans_zero hA hB lA lB h
    exact leastL_Z hA hB lA lB z h
  · intro h
    have a1 := ans_least hA lA
    have a2 := ans_least hB lB
    have e := ans_same hA (leastL_ok hA lA) hB lA (leastL_pos hA lA) lB a1 ans_val
    rw [h] at e
    rw [← e, ans_sw, a2]
    rfl
theorem ans_least_left {A B : List Nd} (hA : Gok A) (hB : Gok B) (lA : 0 < A.length) (lB : 0 < B.length) : ans (leastL A) B = ans A B :=
  ans_same hA (leastL_ok hA lA) hB lA (leastL_pos hA lA) lB (ans_least hA lA) ans_val
end Py.Gr
set_option linter.all false
set_option maxRecDepth 100000
set_option maxHeartbeats 1000000
/-! PlS: graphs are told apart; a drawn graph and what else stands there. -/
namespace Py.Gr
open Py
theorem eqvs_dec {α : Type} [DecidableEq α] (h : α → D) (he : ∀ x y, eqv (h x) (h y) = decide (x = y)) : ∀ l m : List α, eqvs (l.map h) (m.map h) = decide (l = m)
  | [], [] => rfl
  | [], _ :: _ => rfl
  | _ :: _, [] => rfl
  | a :: l, b :: m => by
    simp only [List.map_cons, eqvs, he, eqvs_dec h he l m]
    rw [Bool.eq_iff_iff]
    simp
theorem nd_eqv_dec (x y : Nd) : eqv x.d y.d = decide (x = y) := by
  have e := eqvs_dec (fun p : Nat => D.int (p : Nat)) (fun x y => by simp only [eqv]; rw [Bool.eq_iff_iff]; simp; omega)
  have e2 : ∀ ps qs, eqvs (ndPs ps) (ndPs qs) = decide (ps = qs) := fun ps qs => e ps qs
  rw [Bool.eq_iff_iff]
  cases x <;> cases y <;> simp [Nd.d, eqv, eqvs, e2]
theorem gr_eqv_dec (A B : List Nd) : eqv (grD A) (grD B) = decide (A = B) := by
  simp only [grD, eqv]
  exact eqvs_dec Nd.d nd_eqv_dec A B
theorem gr_eq_dec (g : G) (A B : List Nd) : cmpop g .eq (.d (grD A)) (.d (grD B)) = some (decide (A = B)) := by
  have e : ∀ A, tr g 60 (grD A) = some (grD A) := fun A => gr_tr 56 A
  simp only [cmpop, trX, e, gr_eqv_dec]
theorem gr_ne_dec (g : G) (A B : List Nd) : cmpop g .ne (.d (grD A)) (.d (grD B)) = some (decide (A ≠ B)) := by
  have e : ∀ A, tr g 60 (grD A) = some (grD A) := fun A => gr_tr 56 A
  simp only [cmpop, trX, e, gr_eqv_dec]
  simp
section
variable {T : Tb} {ns : List Int} {l r k : Nat} {g : G}
theorem graphK_ {dr fa at_ nd gr : Nat} (hd : T.fn dr = some drawF) (hfa : T.fn fa = some (farF dr)) (hat : T.fn at_ = some (atomF dr)) (hnd : T.fn nd = some (nodeF dr fa at_)) (hF : T.fn gr = some (graphF dr nd)) {most : Int} (s : Strm ns l r g) (h0 : 0 < most) (h1 : most ≤ 200) : ∃ A g', runF T (k + 4) gr [.ref r, .int most] g = .ok (grD A) g' ∧ Gok A ∧ 0 < A.length ∧ (A.length : Int) ≤ most ∧ Strm ns l r g' ∧ Keep r g g' := by
  obtain ⟨v1, g1, e1, a1, b1, s1, k1⟩ := draw_ (k := k + 2) (many := most) hd s h0 (by omega)
  obtain ⟨m, hm1, hm2, em⟩ : ∃ m : Nat, 1 ≤ m ∧ m ≤ 200 ∧ 1 + v1 = (m : Int) := ⟨(1 + v1).toNat, by omega, by omega, by omega⟩
  obtain ⟨acc, g', e2, A, rfl, hl, hA, s2, kk⟩ : ∃ acc g', loopC (.rng 0 m) (.nm 3) (fun L g => (ev T (runF T (k + 3)) (.c (.bl true)) L g).test) (fun L g => (ev T (runF T (k + 3)) (.call nd (.cons (.v 0) (.cons (.v 2) .nil))) L g).lay) [some (.ref r), some (.int most), some (.int (m : Nat)), none] fuel 0 [] g1 = .ok acc g' ∧ ∃ A : List Nd, acc = A.map Nd.d ∧ A.length = m ∧ (∀ x ∈ A, x.ok m) ∧ Strm ns l r g' ∧ Keep r g1 g' := by
    refine loopC_ind (n := m) (fun i acc g' => ∃ A : List Nd, acc = A.map Nd.d ∧ A.length = i ∧ (∀ x ∈ A, x.ok m) ∧ Strm ns l r g' ∧ Keep r g1 g') (fun i acc g' hi ⟨A, ea, hl, hA, sg, kg⟩ => ?_) (fun acc g' p => by simp [turn]) fuel 0 [] g1 (Nat.zero_le _) (by unfold fuel; omega) ⟨[], rfl, rfl, by simp, s1, .refl _ _⟩
    subst ea
    obtain ⟨x, g2, e, hx, s2, k2⟩ := node_ (k := k) hd hfa hat hnd (many := m) sg (by omega) (by omega)
    refine ⟨.int i, _, by simp [turn, hi], rfl, by simp [line]; omega, .inl ⟨x.d, g', g2, by simp [evSs, evS, ev, evs, evI, Py.R.bind, ofO, isinst, truth, Py.R.test, Py.R.lay, lay, Py.R.toO, Py.O.then, asg, items, listOf, index, setIx, built1, built2, lenOf, cmpop, binop, augop, ordX, ltv, ltvs, alikeD, alikesD, D.isNon, keyed, isin, tr, trX, trL, eqv, eqvs, btype, bmok, bmeth, boolsOf, atI, ixN, small], ?_, A ++ [x], by simp, by simp [hl], fun y hy => ?_, s2, kg.trans k2⟩⟩
    · simp [ev, evs, e, Py.R.bind, Py.R.lay, lay, ofO, asg]
    · rcases List.mem_append.mp hy with q | q
      · exact hA y q
      · have : y = x := by simpa using q
        rw [this]
        exact hx
  refine ⟨A, g', runF_rt hF rfl ?_, ⟨by omega, fun x hx => by rw [hl]; exact hA x hx⟩, by omega, by omega, s2, k1.trans kk⟩
  have e3 : ev T (runF T (k + 3)) (graphC dr nd) [some (.ref r), some (.int most), some (.int (m : Nat)), none] g1 = .ok (.tmp (A.map Nd.d)) g' := by
    refine ev_comp (t := .nm 3) (s := .rng (.cons (.v 2) .nil)) (c := .c (.bl true)) (e := .call nd (.cons (.v 0) (.cons (.v 2) .nil))) (it := .rng 0 m) (g1 := g1) ?_ e2
    exact rng1n (by simp [ev, ofO]) (by omega)
  rw [← em] at e3
  simp [graphF, evSs, evS, ev, evs, e1, e3, Py.R.bind, Py.R.toO, Py.R.lay, Py.O.then, ofO, asg, lay, binop, built1, items, grD]
end
end Py.Gr
set_option linter.all false
set_option maxRecDepth 100000
set_option maxHeartbeats 1000000
/-! PlX: how many classes there are. -/
namespace Py.Gr
open Py
theorem dst_mono {F K : List Nat} (hl : F.length = K.length) (h : ∀ (i j : Nat), i < F.length → j < F.length → K[i]? = K[j]? → F[i]? = F[j]?) : dst F ≤ dst K := by
  have nd := nodup_ed _ ((F.map fun n => ((n : Nat) : Int))) (Nat.le_refl _)
  have at_ : ∀ u ∈ (F.map fun n => ((n : Nat) : Int)).eraseDups, ∃ hi : (F.map fun n => ((n : Nat) : Int)).idxOf u < F.length, ((F[(F.map fun n => ((n : Nat) : Int)).idxOf u] : Nat) : Int) = u := by
    intro u hu
    have hm := List.mem_eraseDups.mp hu
    have h1 := List.idxOf_lt_length_iff.mpr hm
    have h2 := List.getElem_idxOf h1
    rw [List.getElem_map] at h2
    exact ⟨by simpa using h1, h2⟩
  have := sub_len ((F.map fun n => ((n : Nat) : Int)).eraseDups.map fun u => ((K[(F.map fun n => ((n : Nat) : Int)).idxOf u]?.getD 0 : Nat) : Int)) (K.map fun n => ((n : Nat) : Int)).eraseDups ?_ ?_
  · rw [List.length_map] at this
    exact this
  · rw [List.nodup_iff_pairwise_ne, List.pairwise_map]
    refine (List.nodup_iff_pairwise_ne.mp nd).imp_of_mem fun {u v} hu hv ne e => ne ?_
    obtain ⟨h1, e1⟩ := at_ u hu
    obtain ⟨h2, e2⟩ := at_ v hv
    rw [← e1, ← e2]
    have k1 : K[(F.map fun n => ((n : Nat) : Int)).idxOf u]? = K[(F.map fun n => ((n : Nat) : Int)).idxOf v]? := by
      have a1 := List.getElem?_eq_getElem (show (F.map fun n => ((n : Nat) : Int)).idxOf u < K.length by omega)
      have a2 := List.getElem?_eq_getElem (show (F.map fun n => ((n : Nat) : Int)).idxOf v < K.length by omega)
      rw [a1, a2] at e ⊢
      simp only [Option.getD_some] at e
      rw [Int.ofNat_inj.mp e]
    have := h _ _ h1 h2 k1
    rw [List.getElem?_eq_getElem h1, List.getElem?_eq_getElem h2] at this
    rw [Option.some.inj this]
  · intro z hz
    obtain ⟨u, hu, rfl⟩ := List.mem_map.mp hz
    obtain ⟨h1, _⟩ := at_ u hu
    rw [List.getElem?_eq_getElem (by omega)]
    exact List.mem_eraseDups.mpr (List.mem_map.mpr ⟨_, List.getElem_mem _, rfl⟩)
theorem dst_next {A : List Nd} {F : List Nat} (hF : F.length = A.length) : dst F ≤ dst (num (cks F A)) := by
  refine dst_mono (by rw [num_len, cks_len, hF]) fun i j hi hj h => ?_
  exact (next_fine hF (by omega) (by omega) h).1
theorem dst_clsG {A : List Nd} : ∀ (n c : Nat) (F : List Nat), F.length = A.length → dst F ≤ dst (clsG A n c F)
  | 0, _, _, _ => Nat.le_refl _
  | n + 1, c, F, hF => by
    rw [clsG]
    split
    · exact Nat.le_trans (dst_next hF) (dst_clsG n _ _ (by rw [num_len, cks_len]))
    · exact Nat.le_refl _
theorem clsX_dst {A : List Nd} : ∀ (n c : Nat) (F : List Nat), F.length = A.length → A.length + 1 - c ≤ n → c ≤ A.length → c ≤ 400 → (clsX A n c F = true ↔ 400 < dst (clsG A n c F))
  | 0, c, F, hF, h1, h2, _ => by omega
  | n + 1, c, F, hF, h1, h2, h4 => by
    have hd := dst_le F
    rw [clsX, clsG]
    by_cases h : c < dst F
    · rw [if_pos h, if_pos h]
      by_cases h5 : 400 < dst F
      · rw [if_pos h5]
        have a := dst_next (A := A) hF
        have b := dst_clsG (A := A) n (dst F) (num (cks F A)) (by rw [num_len, cks_len])
        simp
        omega
      · rw [if_neg h5]
        exact clsX_dst n _ _ (by rw [num_len, cks_len]) (by omega) (by omega) (by omega)
    · rw [if_neg h, if_neg h]
      simp
      omega
theorem tooM_dst (A : List Nd) : tooM A = true ↔ 400 < dst (cls A) := clsX_dst _ _ _ (by rw [num_len]; simp) (by omega) (Nat.zero_le _) (by omega)
/-- every node is met from the first one -/
def Met (A : List Nd) : Prop := ∀ i, 0 < i → i < A.length → ∃ j, j < i ∧ i ∈ (nA A j).ps
theorem met_cls {A : List Nd} (hA : Gok A) (h0 : 0 < A.length) (hm : Met A) : ∀ (n i : Nat), i < n → i < A.length → (cls A)[i]?.getD 0 ∈ (firsts A).map fun b => (cls A)[b]?.getD 0
  | 0, i, h, _ => absurd h (Nat.not_lt_zero _)
  | n + 1, i, h, hi => by
    obtain ⟨lA, bA⟩ := cls_bis hA.nd
    obtain ⟨fA, ok⟩ := firsts_fst hA h0
    by_cases hz : i = 0
    · subst hz
      have f0 : ∃ l, firsts A = 0 :: l := by
        cases fA with
        | skip hm _ => simp at hm
        | take _ h =>
          obtain ⟨l, e⟩ := h.pre
          exact ⟨l, by rw [← e]; rfl⟩
      obtain ⟨l, e⟩ := f0
      rw [e]
      simp
    · obtain ⟨j, hj, hp⟩ := hm i (by omega) hi
      have ih := met_cls hA h0 hm n j (by omega) (by omega)
      obtain ⟨a, ha, e⟩ := List.mem_map.mp ih
      have hal := ok.f_ a ha
      obtain ⟨k, hk, ek⟩ := List.getElem_of_mem hp
      have hb := bA j a _ _ ⟨by omega, by omega, (getD_eq (by omega) (by omega)).mp e.symm⟩ (nA_at (by omega)) (nA_at hal)
      have hl := hk_len hb.1
      have e1 : (nA A j).ps[k]? = some i := by rw [List.getElem?_eq_getElem hk, ek]
      have e2 : (nA A a).ps[k]? = some ((nA A a).ps[k]'(by omega)) := List.getElem?_eq_getElem (by omega)
      have sm := hb.2 k _ _ e1 e2
      have hc := firsts_met hA h0 a ha ((nA A a).ps[k]'(by omega)) (List.getElem_mem _)
      rw [sm.2.2]
      exact hc
/-- just as many classes as nodes of the least graph -/
theorem dst_least {A : List Nd} (hA : Gok A) (h0 : 0 < A.length) (hm : Met A) : dst (cls A) = (leastL A).length := by
  obtain ⟨lA, bA⟩ := cls_bis hA.nd
  obtain ⟨_, ok⟩ := firsts_fst hA h0
  have nd1 : (((firsts A).map fun b => (cls A)[b]?.getD 0).map fun n => ((n : Nat) : Int)).Nodup := by
    rw [List.nodup_iff_pairwise_ne, List.pairwise_map]
    exact (List.nodup_iff_pairwise_ne.mp ok.nd).imp fun {x y} ne e => ne (Int.ofNat_inj.mp e)
  have nd2 := nodup_ed _ ((cls A).map fun n => ((n : Nat) : Int)) (Nat.le_refl _)
  have l1 := sub_len _ ((cls A).map fun n => ((n : Nat) : Int)).eraseDups nd1 fun x hx => by
    obtain ⟨y, hy, rfl⟩ := List.mem_map.mp hx
    obtain ⟨a, ha, rfl⟩ := List.mem_map.mp hy
    have hal := ok.f_ a ha
    rw [List.getElem?_eq_getElem (by omega)]
    exact List.mem_eraseDups.mpr (List.mem_map.mpr ⟨_, List.getElem_mem _, rfl⟩)
  have l2 := sub_len _ (((firsts A).map fun b => (cls A)[b]?.getD 0).map fun n => ((n : Nat) : Int)) nd2 fun x hx => by
    obtain ⟨y, hy, rfl⟩ := List.mem_map.mp (List.mem_eraseDups.mp hx)
    obtain ⟨i, hi, rfl⟩ := List.getElem_of_mem hy
    have := met_cls hA h0 hm (i + 1) i (by omega) (by omega)
    rw [List.getElem?_eq_getElem hi] at this
    exact List.mem_map.mpr ⟨_, this, rfl⟩
  rw [List.length_map, List.length_map] at l1 l2
  rw [leastL_len]
  unfold dst
  omega
theorem tooM_least {A : List Nd} (hA : Gok A) (h0 : 0 < A.length) (hm : Met A) : tooM A = true ↔ 400 < (leastL A).length := by
  rw [tooM_dst, dst_least hA h0 hm]
end Py.Gr
set_option linter.all false
set_option maxRecDepth 100000
set_option maxHeartbeats 1000000
/-! PlY: a tree that is cut: by pairs of a node and a level, and by all of them. -/
namespace Py.Gr
open Py
def cutA : Nd := .atom ['c', 'u', 't']
/-- what a pair leads to -/
def kids (A : List Nd) (d : Nat) (p : Pr) : List Pr := if p.2 = d then [] else (nA A p.1).ps.map fun q => (q, p.2 + 1)
/-- the node of a pair -/
def ent (A : List Nd) (d : Nat) (f : Pr → Nat) (p : Pr) : Nd :=
  match nA A p.1 with
  | .tup w ps => if p.2 = d then cutA else .tup w (ps.map fun q => f (q, p.2 + 1))
  | x => x
theorem ent_ps (A : List Nd) (d : Nat) (f : Pr → Nat) (p : Pr) : (ent A d f p).ps = (kids A d p).map f := by
  unfold ent kids
  cases h : nA A p.1 with
  | tup w ps =>
    by_cases e : p.2 = d
    · simp [e, cutA, Nd.ps]
    · simp [e, Nd.ps]
  | _ => by_cases e : p.2 = d <;> simp [e, Nd.ps]
theorem ent_hk (A : List Nd) (d : Nat) (f g : Pr → Nat) (p : Pr) : (ent A d f p).hk = (ent A d g p).hk := by
  unfold ent
  cases h : nA A p.1 with
  | tup w ps =>
    by_cases e : p.2 = d
    · simp [e]
    · simp [e, Nd.hk]
  | _ => rfl
/-- the pairs that are met, in their order -/
structure Rw (A : List Nd) (d : Nat) (rows : List Pr) : Prop where
  nd : rows.Nodup
  in_ : ∀ p ∈ rows, p.1 < A.length ∧ p.2 ≤ d
  hd : rows[0]? = some (0, 0)
  par : ∀ i, 0 < i → i < rows.length → ∃ j, j < i ∧ ∃ p q, rows[j]? = some p ∧ rows[i]? = some q ∧ q ∈ kids A d p
theorem Rw.ok {A : List Nd} {d : Nat} {rows : List Pr} (h : Rw A d rows) : Rok A.length (d + 1) rows := ⟨h.nd, fun p hp => ⟨(h.in_ p hp).1, by have := (h.in_ p hp).2; omega⟩⟩
theorem kids_in {A : List Nd} (hA : Gok A) {d : Nat} {p : Pr} (hp : p.1 < A.length ∧ p.2 ≤ d) : ∀ q ∈ kids A d p, q.1 < A.length ∧ q.2 ≤ d := by
  intro q hq
  unfold kids at hq
  split at hq
  · cases hq
  · obtain ⟨c, hc, rfl⟩ := List.mem_map.mp hq
    have := (A[p.1].ok_ps (hA.nd _ (List.getElem_mem hp.1))).2 c (by unfold nA at hc; rw [List.getElem?_eq_getElem hp.1] at hc; exact hc)
    exact ⟨this, by simp only; omega⟩
theorem Rw.addP {A : List Nd} (hA : Gok A) {d : Nat} {rows : List Pr} {p q : Pr} {i : Nat} (h : Rw A d rows) (hp : rows[i]? = some p) (hq : q ∈ kids A d p) : Rw A d (addP rows q) := by
  unfold Py.Gr.addP
  by_cases hm : q ∈ rows
  · rw [if_pos hm]; exact h
  · rw [if_neg hm]
    have hi := (List.getElem?_eq_some_iff.mp hp).1
    refine ⟨List.nodup_append.mpr ⟨h.nd, by simp, fun x hx y hy e => ?_⟩, fun r hr => ?_, ?_, fun k h0 hk => ?_⟩
    · obtain rfl := List.mem_singleton.mp hy
      subst e
      exact hm hx
    · rcases List.mem_append.mp hr with m | m
      · exact h.in_ r m
      · obtain rfl := List.mem_singleton.mp m
        exact kids_in hA (h.in_ p (List.mem_of_getElem? hp)) _ hq
    · rw [List.getElem?_append_left (by omega)]; exact h.hd
    · by_cases e : k < rows.length
      · obtain ⟨j, hj, a, b, h1, h2, h3⟩ := h.par k h0 e
        exact ⟨j, hj, a, b, by rw [List.getElem?_append_left (by omega)]; exact h1, by rw [List.getElem?_append_left e]; exact h2, h3⟩
      · simp only [List.length_append, List.length_singleton] at hk
        have ek : k = rows.length := by omega
        subst ek
        exact ⟨i, hi, p, q, by rw [List.getElem?_append_left hi]; exact hp, by simp, hq⟩
theorem Rw.adds {A : List Nd} (hA : Gok A) {d : Nat} {p : Pr} {i : Nat} : ∀ {qs : List Pr} {rows : List Pr}, Rw A d rows → rows[i]? = some p → (∀ q ∈ qs, q ∈ kids A d p) → Rw A d (addPs rows qs)
  | [], _, h, _, _ => h
  | q :: qs, rows, h, hp, hq => by
    obtain ⟨nw, e⟩ := addPs_pre [q] rows
    have e2 : Py.Gr.addP rows q = rows ++ nw := e
    have h2 := h.addP hA hp (hq q List.mem_cons_self)
    refine Rw.adds hA (i := i) (rows := Py.Gr.addP rows q) h2 ?_ fun x hx => hq x (List.mem_cons_of_mem _ hx)
    rw [e2, List.getElem?_append_left (List.getElem?_eq_some_iff.mp hp).1]
    exact hp
theorem Rw.one {A : List Nd} (h0 : 0 < A.length) (d : Nat) : Rw A d [(0, 0)] := ⟨by simp, fun p hp => by rw [List.mem_singleton.mp hp]; exact ⟨h0, Nat.zero_le _⟩, rfl, fun i h1 h2 => by simp at h2; omega⟩
/-- the cut graph, by its pairs -/
def cutF (A : List Nd) (d : Nat) (rows : List Pr) : List Nd := rows.map (ent A d rows.idxOf)
/-- all pairs: the law's graph -/
def allP (m d : Nat) : List Pr := (List.range (d + 1)).flatMap fun l => (List.range m).map fun n => (n, l)
def cutR (A : List Nd) (d : Nat) : List Nd := (allP A.length d).map (ent A d fun p => p.1 + A.length * p.2)
theorem allP_at (m : Nat) : ∀ (d n l : Nat), n < m → l ≤ d → (allP m d)[n + m * l]? = some (n, l) := by
  intro d
  induction d with
  | zero =>
    intro n l hn hl
    have : l = 0 := by omega
    subst this
    simp [allP, hn]
  | succ d ih =>
    intro n l hn hl
    have e : allP m (d + 1) = allP m d ++ (List.range m).map fun n => (n, d + 1) := by
      unfold allP
      rw [List.range_succ, List.flatMap_append]
      simp
    have len : ∀ d, (allP m d).length = m * (d + 1) := by
      intro d
      induction d with
      | zero => simp [allP]
      | succ d ih2 =>
        have e : allP m (d + 1) = allP m d ++ (List.range m).map fun n => (n, d + 1) := by
          unfold allP
          rw [List.range_succ, List.flatMap_append]
          simp
        rw [e, List.length_append, ih2]
        simp [Nat.mul_succ]
    rw [e]
    by_cases h : l ≤ d
    · have : n + m * l < m * (d + 1) := by
        have := Nat.mul_le_mul_left m (show l + 1 ≤ d + 1 by omega)
        rw [Nat.mul_succ] at this
        omega
      rw [List.getElem?_append_left (by rw [len]; exact this)]
      exact ih n l hn h
    · have hl2 : l = d + 1 := by omega
      subst hl2
      rw [List.getElem?_append_right (by rw [len]; omega), len]
      have : n + m * (d + 1) - m * (d + 1) = n := by omega
      rw [this]
      simp [hn]
theorem allP_len (m d : Nat) : (allP m d).length = m * (d + 1) := by
  induction d with
  | zero => simp [allP]
  | succ d ih2 =>
    have e : allP m (d + 1) = allP m d ++ (List.range m).map fun n => (n, d + 1) := by
      unfold allP
      rw [List.range_succ, List.flatMap_append]
      simp
    rw [e, List.length_append, ih2]
    simp [Nat.mul_succ]
theorem allP_mem {m d : Nat} {p : Pr} (h : p ∈ allP m d) : p.1 < m ∧ p.2 ≤ d := by
  unfold allP at h
  obtain ⟨l, hl, hp⟩ := List.mem_flatMap.mp h
  obtain ⟨n, hn, rfl⟩ := List.mem_map.mp hp
  exact ⟨List.mem_range.mp hn, by have := List.mem_range.mp hl; simp only; omega⟩
theorem nA_ok {A : List Nd} (hA : Gok A) {i : Nat} (hi : i < A.length) : (nA A i).ok A.length := by
  have := hA.nd _ (List.getElem_mem hi)
  unfold nA
  rw [List.getElem?_eq_getElem hi]
  exact this
theorem ent_ok {A : List Nd} (hA : Gok A) {d m : Nat} {f : Pr → Nat} {p : Pr} (hp : p.1 < A.length) (hf : ∀ q ∈ kids A d p, f q < m) : (ent A d f p).ok m := by
  have l := ent_ps A d f p
  have ok := nA_ok hA hp
  unfold ent at l ⊢
  cases h : nA A p.1 with
  | tup w ps =>
    rw [h] at ok
    simp only [h] at l ⊢
    by_cases e : p.2 = d
    · simp only [e, if_true]; trivial
    · simp only [e, if_false, Nd.ps] at l ⊢
      refine ⟨by rw [List.length_map]; exact ok.1, fun x hx => ?_⟩
      rw [l] at hx
      obtain ⟨q, hq, rfl⟩ := List.mem_map.mp hx
      exact hf q hq
  | _ => trivial
/-- closed under parts -/
def Cl (A : List Nd) (d : Nat) (rows : List Pr) : Prop := ∀ p ∈ rows, ∀ q ∈ kids A d p, q ∈ rows
section
variable {A : List Nd} {d : Nat} {rows : List Pr} (hA : Gok A) (h : Rw A d rows) (cl : Cl A d rows) (hm : A.length * (d + 1) ≤ 910)
include hA h hm
theorem cutF_ok (cl : Cl A d rows) : Gok (cutF A d rows) := by
  have l := h.ok.le
  refine ⟨by simp [cutF]; omega, fun x hx => ?_⟩
  obtain ⟨p, hp, rfl⟩ := List.mem_map.mp hx
  exact ent_ok hA (h.in_ p hp).1 fun q hq => by simp only [cutF, List.length_map]; exact List.idxOf_lt_length_iff.mpr (cl p hp q hq)
omit h in
theorem cutR_ok : Gok (cutR A d) := by
  refine ⟨by simp [cutR, allP_len]; omega, fun x hx => ?_⟩
  obtain ⟨p, hp, rfl⟩ := List.mem_map.mp hx
  have hp2 := allP_mem hp
  refine ent_ok hA hp2.1 fun q hq => ?_
  have hq2 := kids_in hA hp2 q hq
  simp only [cutR, List.length_map, allP_len]
  have := Nat.mul_le_mul_left A.length (show q.2 + 1 ≤ d + 1 by omega)
  rw [Nat.mul_succ] at this
  omega
omit hm hA in
theorem cutF_at {i : Nat} {p : Pr} (hp : rows[i]? = some p) : nA (cutF A d rows) i = ent A d rows.idxOf p := by
  unfold nA cutF
  rw [List.getElem?_map, hp]
  rfl
theorem cut_Z (cl : Cl A d rows) : Zb (cutF A d rows) (cutR A d) fun z => ∃ p ∈ rows, z.1 = rows.idxOf p ∧ z.2 = p.1 + A.length * p.2 := by
  have at_ : ∀ p ∈ rows, rows[rows.idxOf p]? = some p := fun p hp => by
    have := List.idxOf_lt_length_iff.mpr hp
    rw [List.getElem?_eq_getElem this, List.getElem_idxOf]
  have nR : ∀ p ∈ rows, nA (cutR A d) (p.1 + A.length * p.2) = ent A d (fun p => p.1 + A.length * p.2) p := fun p hp => by
    have := h.in_ p hp
    unfold nA cutR
    rw [List.getElem?_map, allP_at _ d p.1 p.2 this.1 this.2]
    rfl
  refine ⟨?_, ?_, ?_⟩
  · rintro ⟨i, j⟩ ⟨p, hp, h1, h2⟩
    simp only at h1 h2 ⊢
    have := h.in_ p hp
    have e := allP_at A.length d p.1 p.2 this.1 this.2
    have l := (List.getElem?_eq_some_iff.mp e).1
    exact ⟨by rw [h1]; simp only [cutF, List.length_map]; exact List.idxOf_lt_length_iff.mpr hp, by rw [h2]; simpa [cutR] using l⟩
  · rintro ⟨i, j⟩ ⟨p, hp, h1, h2⟩
    simp only at h1 h2 ⊢
    rw [h1, h2, cutF_at (A := A) h (at_ p hp), nR p hp]
    exact hk_kc (ent_hk A d _ _ p)
  · rintro ⟨i, j⟩ ⟨p, hp, h1, h2⟩ q hq
    simp only at h1 h2 hq
    rw [h1, h2, cutF_at (A := A) h (at_ p hp), nR p hp, ent_ps, ent_ps, List.zip_map'] at hq
    obtain ⟨r, hr, rfl⟩ := List.mem_map.mp hq
    exact ⟨r, cl p hp r hr, rfl, rfl⟩
theorem cut_least (h0 : 0 < A.length) (cl : Cl A d rows) : leastL (cutF A d rows) = leastL (cutR A d) := by
  have l0 : 0 < rows.length := (List.getElem?_eq_some_iff.mp h.hd).1
  have m0 : (0, 0) ∈ rows := List.mem_of_getElem? h.hd
  have i0 : rows.idxOf (0, 0) = 0 := by
    cases rows with
    | nil => simp at l0
    | cons a r =>
      have : a = (0, 0) := by simpa using h.hd
      subst this
      simp
  refine leastL_Z (cutF_ok hA h hm cl) (cutR_ok hA hm) (by simpa [cutF] using l0) (by simp only [cutR, List.length_map, allP_len]; exact Nat.mul_pos h0 (Nat.succ_pos _)) (cut_Z hA h hm cl) ⟨(0, 0), m0, i0.symm, by simp⟩
theorem cut_met (cl : Cl A d rows) : Met (cutF A d rows) := by
  intro i h1 h2
  obtain ⟨j, hj, p, q, e1, e2, hq⟩ := h.par i h1 (by simpa [cutF] using h2)
  refine ⟨j, hj, ?_⟩
  rw [cutF_at (A := A) h e1, ent_ps]
  refine List.mem_map.mpr ⟨q, hq, ?_⟩
  obtain ⟨hi, e3⟩ := List.getElem?_eq_some_iff.mp e2
  rw [← e3]
  exact h.nd.idxOf_getElem i hi
end
end Py.Gr
set_option linter.all false
set_option maxRecDepth 100000
set_option maxHeartbeats 1000000
/-! PlZ: cut, for any table. -/
namespace Py.Gr
open Py
def ctB0 : Ss := (.cons (.set (.nm 10) (.tup (.cons (.v 9) (.cons (.bin .add (.v 7) (.c (.int 1))) .nil)))) (.cons (.ifs (.cmp .notin (.v 10) (.v 2)) (.cons (.setI (.v 2) (.v 10) (.bi .len (.cons (.v 3) .nil))) (.cons (.ex (.bm .append (.v 3) (.cons (.v 10) .nil))) .nil)) .nil) (.cons (.ex (.bm .append (.v 8) (.cons (.ix (.v 2) (.v 10)) .nil))) .nil)))
def ctL1 : S := .for (.nm 9) (.it (.ix (.ix (.v 0) (.v 6)) (.c (.int 2)))) ctB0
def ctB2 : Ss := (.cons (.set (.tp [6, 7]) (.ix (.v 3) (.v 5))) (.cons (.aug 5 .add (.c (.int 1))) (.cons (.ifs (.and (.cmp .eq (.ix (.ix (.v 0) (.v 6)) (.c (.int 0))) (.c (.str ['t', 'u', 'p', 'l', 'e']))) (.cmp .eq (.v 7) (.v 1))) (.cons (.ex (.bm .append (.v 4) (.cons (.tup (.cons (.c (.str ['a', 't', 'o', 'm'])) (.cons (.c (.str ['c', 'u', 't'])) .nil))) .nil))) .nil) (.cons (.ifs (.cmp .eq (.ix (.ix (.v 0) (.v 6)) (.c (.int 0))) (.c (.str ['t', 'u', 'p', 'l', 'e']))) (.cons (.set (.nm 8) (.lst .nil)) (.cons ctL1 (.cons (.ex (.bm .append (.v 4) (.cons (.tup (.cons (.c (.str ['t', 'u', 'p', 'l', 'e'])) (.cons (.ix (.ix (.v 0) (.v 6)) (.c (.int 1))) (.cons (.bi .tuple (.cons (.v 8) .nil)) .nil)))) .nil))) .nil))) (.cons (.ex (.bm .append (.v 4) (.cons (.ix (.v 0) (.v 6)) .nil))) .nil)) .nil)) .nil)))
def ctW : S := .whl (.cmp .lt (.v 5) (.bi .len (.cons (.v 3) .nil))) ctB2
def ctF (ck : Nat) : Fn := ⟨2, 11, (.cons (.set (.nm 2) (.dic (.cons (.tup (.cons (.c (.int 0)) (.cons (.c (.int 0)) .nil))) (.cons (.c (.int 0)) .nil)))) (.cons (.set (.nm 3) (.lst (.cons (.tup (.cons (.c (.int 0)) (.cons (.c (.int 0)) .nil))) .nil))) (.cons (.set (.nm 4) (.lst .nil)) (.cons (.set (.nm 5) (.c (.int 0))) (.cons ctW (.cons (.ret (.call ck (.cons (.bi .tuple (.cons (.v 4) .nil)) .nil))) .nil))))))⟩
def chF (ls gM tm : Nat) : Fn := ⟨1, 2, (.cons (.set (.nm 1) (.call ls (.cons (.v 0) .nil))) (.cons (.ifs (.cmp .gt (.bi .len (.cons (.v 1) .nil)) (.g gM)) (.cons (.raise tm) .nil) .nil) (.cons (.ret (.v 1)) .nil)))⟩
/-- the order of the pairs -/
def ordP (rows : List Pr) : List (List KY × D) := rows.zipIdx.map fun p => ([.i (p.1.1 : Nat), .i (p.1.2 : Nat)], .int (p.2 : Nat))
theorem pk_inj {p q : Pr} : ([KY.i (p.1 : Nat), KY.i (p.2 : Nat)] = [KY.i (q.1 : Nat), KY.i (q.2 : Nat)]) ↔ p = q := by
  obtain ⟨a, b⟩ := p
  obtain ⟨c, d⟩ := q
  simp only [List.cons.injEq, KY.i.injEq, and_true, Prod.mk.injEq]
  omega
theorem ordP_look (rows : List Pr) (p : Pr) : look [KY.i (p.1 : Nat), KY.i (p.2 : Nat)] (ordP rows) = if p ∈ rows then some (.int (rows.idxOf p : Nat)) else none := by
  have gen : ∀ (rows : List Pr) (m : Nat), look [KY.i (p.1 : Nat), KY.i (p.2 : Nat)] ((rows.zipIdx m).map fun q => ([KY.i (q.1.1 : Nat), KY.i (q.1.2 : Nat)], D.int (q.2 : Nat))) = if p ∈ rows then some (.int (rows.idxOf p + m : Nat)) else none := by
    intro rows
    induction rows with
    | nil => intro m; rfl
    | cons q r ih =>
      intro m
      rw [List.zipIdx_cons, List.map_cons, look, List.idxOf_cons]
      by_cases h : q = p
      · subst h
        simp
      · have h2 : ¬ ([KY.i (q.1 : Nat), KY.i (q.2 : Nat)] = [KY.i (p.1 : Nat), KY.i (p.2 : Nat)]) := fun e => h (pk_inj.mp e)
        have h3 : (q == p) = false := by simpa using h
        have h4 : ¬ p = q := fun e => h e.symm
        rw [if_neg h2, ih, h3]
        simp only [List.mem_cons, h4, false_or, cond_false]
        split
        · congr 3; omega
        · rfl
  have := gen rows 0
  simpa [ordP] using this
theorem ordP_put {rows : List Pr} {p : Pr} (h : p ∉ rows) : putK [KY.i (p.1 : Nat), KY.i (p.2 : Nat)] (.int (rows.length : Nat)) (ordP rows) = ordP (rows ++ [p]) := by
  have hn : (ordP rows).any (fun q => decide (q.1 = [KY.i (p.1 : Nat), KY.i (p.2 : Nat)])) = false := by
    rw [List.any_eq_false]
    intro q hq
    obtain ⟨z, hz, rfl⟩ := List.mem_map.mp hq
    have hm : z.1 ∈ rows := by
      obtain ⟨h1, h2⟩ := List.mem_zipIdx' hz
      rw [h2]
      exact List.getElem_mem _
    simp only [decide_eq_true_eq]
    intro e
    have := pk_inj.mp e
    rw [this] at hm
    exact h hm
  unfold putK
  rw [hn]
  simp [ordP, List.zipIdx_append]
theorem ordP_len (rows : List Pr) : (ordP rows).length = rows.length := by simp [ordP]
theorem idx_pre {rows nw : List Pr} {p : Pr} (h : p ∈ rows) : (rows ++ nw).idxOf p = rows.idxOf p := by rw [List.idxOf_append, if_pos h]
section
variable {T : Tb} {cf : Cf} {k : Nat} {g : G}
/-- one part -/
theorem ct_b0 {GA : D} {rows : List Pr} {nums : List D} {o r nb a l : Nat} {m1 m4 m5 m6 m10 : Option D} (ho : g[o]? = some (.dt (ordP rows))) (hr : g[r]? = some (.lst (rows.map prD))) (hb : g[nb]? = some (.lst nums)) (n1 : o ≠ r) (n2 : o ≠ nb) (n3 : r ≠ nb) (hl : rows.length ≤ 1000) (hn : nums.length ≤ 1000) :
    ∃ m10', evSs T cf ctB0 [some GA, m1, some (.ref o), some (.ref r), m4, m5, m6, some (.int (l : Nat)), some (.ref nb), some (.int (a : Nat)), m10] g = .nx [some GA, m1, some (.ref o), some (.ref r), m4, m5, m6, some (.int (l : Nat)), some (.ref nb), some (.int (a : Nat)), m10'] (((g.set o (.dt (ordP (addP rows (a, l + 1))))).set r (.lst ((addP rows (a, l + 1)).map prD))).set nb (.lst (nums ++ [.int ((addP rows (a, l + 1)).idxOf (a, l + 1) : Nat)]))) := by
  have b1 : binop g .add (.d (.int (l : Nat))) (.d (.int 1)) = some (.d (.int ((l + 1 : Nat) : Int))) := by simp [binop]
  have l2 : 2 ≤ line := by decide
  have lo := ordP_look rows (a, l + 1)
  simp only at lo
  have ky : ∀ x y : Nat, keysOf [.int (x : Nat), .int (y : Nat)] = some [KY.i (x : Nat), KY.i (y : Nat)] := fun x y => rfl
  have s1 : evS T cf (ss0 ctB0) [some GA, m1, some (.ref o), some (.ref r), m4, m5, m6, some (.int (l : Nat)), some (.ref nb), some (.int (a : Nat)), m10] g = .nx [some GA, m1, some (.ref o), some (.ref r), m4, m5, m6, some (.int (l : Nat)), some (.ref nb), some (.int (a : Nat)), some (.tup [.int (a : Nat), .int ((l + 1 : Nat) : Int)])] g := by
    simp only [ctB0, ss0]
    generalize ((l + 1 : Nat) : Int) = z at b1
    simp [evS, ev, evs, b1, l2, Py.R.bind, Py.R.toO, Py.R.lay, Py.O.then, ofO, asg, lay]
  refine ⟨some (.tup [.int (a : Nat), .int ((l + 1 : Nat) : Int)]), (run_ss s1 rfl).trans ?_⟩
  clear s1 b1
  have rl := (List.getElem?_eq_some_iff.mp hr).1
  have nl : nums.length < 16777216 := by omega
  generalize l + 1 = l' at lo ⊢
  by_cases hm : (a, l') ∈ rows
  · rw [if_pos hm] at lo
    have ea : addP rows (a, l') = rows := by unfold addP; rw [if_pos hm]
    rw [ea, set_same ho, set_same hr]
    have i1 : isin g (.tup [.int (a : Nat), .int (l' : Nat)]) (.d (.ref o)) = some true := by simp only [isin, keyed, ho, ky, Option.map_some, lo]; rfl
    have x1 : index g (.d (.ref o)) (.tup [.int (a : Nat), .int (l' : Nat)]) = some (.int (rows.idxOf (a, l') : Nat)) := by simp only [index, ho, ky, Option.bind_some, lo]
    generalize (D.tup [.int (a : Nat), .int (l' : Nat)]) = K at i1 x1
    simp [ctB0, ss1, evSs, evS, ev, evs, cmpop, i1, x1, hb, nl, Py.R.bind, truth, Py.R.test, Py.R.toO, Py.R.lay, Py.O.then, ofO, asg, lay, btype, bmok, bmeth, line]
  · rw [if_neg hm] at lo
    have ea : addP rows (a, l') = rows ++ [(a, l')] := by unfold addP; rw [if_neg hm]
    have pu := ordP_put hm
    simp only at pu
    have ol : (ordP rows).length < 16777216 := by rw [ordP_len]; omega
    have rl2 : (rows.map prD).length < 16777216 := by rw [List.length_map]; omega
    have i1 : isin g (.tup [.int (a : Nat), .int (l' : Nat)]) (.d (.ref o)) = some false := by simp only [isin, keyed, ho, ky, Option.map_some, lo]; rfl
    have b2 : built1 g .len (.d (.ref r)) = some (.d (.int (rows.length : Nat))) := by simp [built1, lenOf, hr]
    have q1 : setIx g (.ref o) (.tup [.int (a : Nat), .int (l' : Nat)]) (.int (rows.length : Nat)) = some (g.set o (.dt (ordP (rows ++ [(a, l')])))) := by
      simp [setIx, ho, ky, ol, line, pu]
    have hr2 : (g.set o (.dt (ordP (rows ++ [(a, l')]))))[r]? = some (.lst (rows.map prD)) := by rw [List.getElem?_set_ne n1]; exact hr
    have ol2 := (List.getElem?_eq_some_iff.mp ho).1
    have pe : rows.map prD ++ [.tup [.int (a : Nat), .int (l' : Nat)]] = (rows ++ [(a, l')]).map prD := by simp [prD]
    have ho3 : ((g.set o (.dt (ordP (rows ++ [(a, l')])))).set r (.lst ((rows ++ [(a, l')]).map prD)))[o]? = some (.dt (ordP (rows ++ [(a, l')]))) := by rw [List.getElem?_set_ne (Ne.symm n1)]; exact List.getElem?_set_self ol2
    have hb3 : ((g.set o (.dt (ordP (rows ++ [(a, l')])))).set r (.lst ((rows ++ [(a, l')]).map prD)))[nb]? = some (.lst nums) := by rw [List.getElem?_set_ne n3, List.getElem?_set_ne n2]; exact hb
    have lo3 := ordP_look (rows ++ [(a, l')]) (a, l')
    simp only at lo3
    rw [if_pos (by simp)] at lo3
    have x1 : index ((g.set o (.dt (ordP (rows ++ [(a, l')])))).set r (.lst ((rows ++ [(a, l')]).map prD))) (.d (.ref o)) (.tup [.int (a : Nat), .int (l' : Nat)]) = some (.int ((rows ++ [(a, l')]).idxOf (a, l') : Nat)) := by simp only [index, ho3, ky, Option.bind_some, lo3]
    rw [ea]
    generalize (rows ++ [(a, l')]).idxOf (a, l') = ix at x1 ⊢
    have c1 : cmpop g .notin (.d (.tup [.int (a : Nat), .int (l' : Nat)])) (.d (.ref o)) = some true := by simp [cmpop, i1]
    clear ho3 lo lo3 i1 pu
    generalize g.set o (.dt (ordP (rows ++ [(a, l')]))) = g2 at q1 hr2 hb3 x1 ⊢
    generalize (D.tup [.int (a : Nat), .int (l' : Nat)]) = K at c1 q1 pe x1
    rw [← pe] at hb3 x1 ⊢
    generalize rows.map prD = RW at hr2 rl2 hb3 x1 ⊢
    generalize hg3 : g2.set r (.lst (RW ++ [K])) = g3 at hb3 x1 ⊢
    simp [ctB0, ss1, evSs, evS, ev, evs, c1, b2, q1, hr2, rl2, hg3, x1, hb3, nl, Py.R.bind, truth, Py.R.test, Py.R.toO, Py.R.lay, Py.O.then, ofO, asg, lay, btype, bmok, bmeth, line]
end
end Py.Gr
set_option linter.all false
set_option maxRecDepth 100000
set_option maxHeartbeats 1000000
/-! PlZa: cut, its walk. -/
namespace Py.Gr
open Py
theorem addPs_app (rows a b : List Pr) : addPs rows (a ++ b) = addPs (addPs rows a) b := by
  unfold addPs
  rw [List.foldl_append]
theorem ent_congr {A : List Nd} {d : Nat} {f h : Pr → Nat} {p : Pr} (e : ∀ q ∈ kids A d p, f q = h q) : ent A d f p = ent A d h p := by
  unfold ent kids at *
  cases hx : nA A p.1 with
  | tup w ps =>
    rw [hx] at e
    by_cases c : p.2 = d
    · simp [c]
    · simp only [c, if_false, Nd.ps, Nd.tup.injEq, true_and] at e ⊢
      exact List.map_congr_left fun q hq => e _ (List.mem_map.mpr ⟨q, hq, rfl⟩)
  | _ => rfl
theorem found_step {A : List Nd} {d at_ : Nat} {rows nw : List Pr} {p : Pr} (hc : ∀ p ∈ rows.take at_, ∀ q ∈ kids A d p, q ∈ rows) (hp : rows[at_]? = some p) :
    (rows.take at_).map (ent A d rows.idxOf) ++ [ent A d (rows ++ nw).idxOf p] = ((rows ++ nw).take (at_ + 1)).map (ent A d (rows ++ nw).idxOf) := by
  have hl := (List.getElem?_eq_some_iff.mp hp).1
  rw [List.take_append_of_le_length (by omega), List.take_add_one, hp, List.map_append]
  congr 1
  exact List.map_congr_left fun q hq => ent_congr fun z hz => (idx_pre (hc q hq z hz)).symm
section
variable {T : Tb} {cf : Cf} {k : Nat} {g : G}
/-- the parts of a node -/
theorem ct_in {A : List Nd} {n l : Nat} {rows : List Pr} {w : Tx} {ps : List Nat} {o r nb : Nat} {m1 m4 m5 m9 m10 : Option D} (hx : A[n]? = some (.tup w ps)) (hps : ps.length ≤ 100) (ho : g[o]? = some (.dt (ordP rows))) (hr : g[r]? = some (.lst (rows.map prD))) (hb : g[nb]? = some (.lst [])) (n1 : o ≠ r) (n2 : o ≠ nb) (n3 : r ≠ nb)
    (hl : ∀ j, (addPs rows ((ps.map fun q => (q, l + 1)).take j)).length ≤ 1000) :
    ∃ g' m9' m10', evS T cf ctL1 [some (grD A), m1, some (.ref o), some (.ref r), m4, m5, some (.int (n : Nat)), some (.int (l : Nat)), some (.ref nb), m9, m10] g = .nx [some (grD A), m1, some (.ref o), some (.ref r), m4, m5, some (.int (n : Nat)), some (.int (l : Nat)), some (.ref nb), m9', m10'] g' ∧
      (∀ z, z ≠ o → z ≠ r → z ≠ nb → g'[z]? = g[z]?) ∧ g'[o]? = some (.dt (ordP (addPs rows (ps.map fun q => (q, l + 1))))) ∧ g'[r]? = some (.lst ((addPs rows (ps.map fun q => (q, l + 1))).map prD)) ∧ g'[nb]? = some (.lst (ps.map fun q => .int ((addPs rows (ps.map fun q => (q, l + 1))).idxOf (q, l + 1) : Nat))) := by
  have ol := (List.getElem?_eq_some_iff.mp ho).1
  have rl := (List.getElem?_eq_some_iff.mp hr).1
  have bl := (List.getElem?_eq_some_iff.mp hb).1
  obtain ⟨L', g', e, ⟨m9', m10', rfl⟩, hk, ho', hr', hb'⟩ : ∃ L' g', loopF (.vals (ndPs ps)) (.nm 9) (fun L g => evSs T cf ctB0 L g) fuel 0 [some (grD A), m1, some (.ref o), some (.ref r), m4, m5, some (.int (n : Nat)), some (.int (l : Nat)), some (.ref nb), m9, m10] g = .nx L' g' ∧
      ((∃ m9 m10, L' = [some (grD A), m1, some (.ref o), some (.ref r), m4, m5, some (.int (n : Nat)), some (.int (l : Nat)), some (.ref nb), m9, m10]) ∧ (∀ z, z ≠ o → z ≠ r → z ≠ nb → g'[z]? = g[z]?) ∧ g'[o]? = some (.dt (ordP (addPs rows ((ps.map fun q => (q, l + 1)).take ps.length)))) ∧ g'[r]? = some (.lst ((addPs rows ((ps.map fun q => (q, l + 1)).take ps.length)).map prD)) ∧ g'[nb]? = some (.lst ((ps.take ps.length).map fun q => .int ((addPs rows (ps.map fun q => (q, l + 1))).idxOf (q, l + 1) : Nat)))) := by
    refine loopF_ind (n := ps.length) (fun j L g' => (∃ m9 m10, L = [some (grD A), m1, some (.ref o), some (.ref r), m4, m5, some (.int (n : Nat)), some (.int (l : Nat)), some (.ref nb), m9, m10]) ∧ (∀ z, z ≠ o → z ≠ r → z ≠ nb → g'[z]? = g[z]?) ∧ g'[o]? = some (.dt (ordP (addPs rows ((ps.map fun q => (q, l + 1)).take j)))) ∧ g'[r]? = some (.lst ((addPs rows ((ps.map fun q => (q, l + 1)).take j)).map prD)) ∧ g'[nb]? = some (.lst ((ps.take j).map fun q => .int ((addPs rows (ps.map fun q => (q, l + 1))).idxOf (q, l + 1) : Nat))))
      (fun j L g' hj ⟨⟨m9, m10, eL⟩, hk, ho', hr', hb'⟩ => ?_) (fun L g' _ => by simp [turn, ndPs]) fuel 0 _ _ (Nat.zero_le _) (by unfold fuel; omega) ⟨⟨m9, m10, rfl⟩, fun _ _ _ _ => rfl, ho, hr, hb⟩
    subst eL
    obtain ⟨m10', e⟩ := ct_b0 (T := T) (cf := cf) (GA := grD A) (a := ps[j]) (l := l) (m1 := m1) (m4 := m4) (m5 := m5) (m6 := some (.int (n : Nat))) (m10 := m10) ho' hr' hb' n1 n2 n3 (hl j) (by simp; omega)
    have hkj : (ps.map fun q => (q, l + 1))[j]? = some (ps[j], l + 1) := by simp [hj]
    have tk : (ps.map fun q => (q, l + 1)).take (j + 1) = (ps.map fun q => (q, l + 1)).take j ++ [(ps[j], l + 1)] := by rw [List.take_add_one, hkj]; rfl
    have ad : addPs rows ((ps.map fun q => (q, l + 1)).take (j + 1)) = addP (addPs rows ((ps.map fun q => (q, l + 1)).take j)) (ps[j], l + 1) := by rw [tk, addPs_app]; rfl
    obtain ⟨nw, ew⟩ := addPs_pre ((ps.map fun q => (q, l + 1)).drop (j + 1)) (addPs rows ((ps.map fun q => (q, l + 1)).take (j + 1)))
    rw [← addPs_app, List.take_append_drop] at ew
    have im : (ps[j], l + 1) ∈ addPs rows ((ps.map fun q => (q, l + 1)).take (j + 1)) := addPs_mem.mpr (.inr (by rw [tk]; simp))
    have ix : (addP (addPs rows ((ps.map fun q => (q, l + 1)).take j)) (ps[j], l + 1)).idxOf (ps[j], l + 1) = (addPs rows (ps.map fun q => (q, l + 1))).idxOf (ps[j], l + 1) := by rw [ew, idx_pre im, ad]
    rw [ix] at e
    have ol' := (List.getElem?_eq_some_iff.mp ho').1
    have rl' := (List.getElem?_eq_some_iff.mp hr').1
    have bl' := (List.getElem?_eq_some_iff.mp hb').1
    refine ⟨.int (ps[j] : Nat), _, by simp [turn, ndPs, hj], rfl, _, _, .inl e, ⟨_, _, rfl⟩, fun z h1 h2 h3 => ?_, ?_, ?_, ?_⟩
    · rw [List.getElem?_set_ne (Ne.symm h3), List.getElem?_set_ne (Ne.symm h2), List.getElem?_set_ne (Ne.symm h1)]
      exact hk z h1 h2 h3
    · rw [ad, List.getElem?_set_ne (Ne.symm n2), List.getElem?_set_ne (Ne.symm n1), List.getElem?_set_self ol']
    · rw [ad, List.getElem?_set_ne (Ne.symm n3), List.getElem?_set_self (by simpa using rl')]
    · rw [List.getElem?_set_self (by simpa using bl'), List.take_add_one, List.getElem?_eq_getElem hj, List.map_append]
      rfl
  rw [List.take_of_length_le (by simp)] at ho' hr'
  rw [List.take_length] at hb'
  refine ⟨g', m9', m10', ?_, hk, ho', hr', hb'⟩
  have x1 : index g (.d (grD A)) (.int (n : Nat)) = some (Nd.tup w ps).d := at_gr hx
  have x2 : index g (.d (Nd.tup w ps).d) (.int 2) = some (.tup (ndPs ps)) := by simp [Nd.d, index, atI, ixN]
  refine ev_for (t := .nm 9) (s := .it (.ix (.ix (.v 0) (.v 6)) (.c (.int 2)))) (b := ctB0) (it := .vals (ndPs ps)) (g1 := g) ?_ e
  generalize (Nd.tup w ps).d = xd at x1 x2
  simp [evI, ev, x1, x2, Py.R.bind, ofO]
/-- a pair begins -/
theorem ct_pre {GA : D} {rows : List Pr} {at_ r : Nat} {p : Pr} {m1 m2 m4 m6 m7 m8 m9 m10 : Option D} (hr : g[r]? = some (.lst (rows.map prD))) (hp : rows[at_]? = some p) :
    evSs T cf ctB2 [some GA, m1, m2, some (.ref r), m4, some (.int (at_ : Nat)), m6, m7, m8, m9, m10] g = evSs T cf (ss1 (ss1 ctB2)) [some GA, m1, m2, some (.ref r), m4, some (.int ((at_ + 1 : Nat) : Int)), some (.int (p.1 : Nat)), some (.int (p.2 : Nat)), m8, m9, m10] g := by
  have x1 := at_rows hr hp
  simp [ctB2, ss1, evSs, evS, ev, evs, x1, Py.R.bind, Py.R.toO, Py.R.lay, Py.O.then, ofO, asg, lay, items, prD, augop]
theorem ct_leaf {GA xd : D} {at1 n l d o r fo : Nat} {fs : List D} {z : Tx} {m8 m9 m10 : Option D} (x1 : index g (.d GA) (.int (n : Nat)) = some xd) (x2 : index g (.d xd) (.int 0) = some (.str z)) (hz : z ≠ ['t', 'u', 'p', 'l', 'e']) (hf : g[fo]? = some (.lst fs)) (hl : fs.length < 16777216) :
    evSs T cf (ss1 (ss1 ctB2)) [some GA, some (.int (d : Nat)), some (.ref o), some (.ref r), some (.ref fo), some (.int (at1 : Nat)), some (.int (n : Nat)), some (.int (l : Nat)), m8, m9, m10] g = .nx [some GA, some (.int (d : Nat)), some (.ref o), some (.ref r), some (.ref fo), some (.int (at1 : Nat)), some (.int (n : Nat)), some (.int (l : Nat)), m8, m9, m10] (g.set fo (.lst (fs ++ [xd]))) := by
  simp [ctB2, ss1, evSs, evS, ev, evs, x1, x2, hz, hf, hl, cmpop, trX, tr, eqv, Py.R.bind, truth, Py.R.test, Py.R.toO, Py.R.lay, Py.O.then, ofO, asg, lay, btype, bmok, bmeth, line]
theorem ct_cut {GA xd : D} {at1 n l o r fo : Nat} {fs : List D} {m8 m9 m10 : Option D} (x1 : index g (.d GA) (.int (n : Nat)) = some xd) (x2 : index g (.d xd) (.int 0) = some (.str ['t', 'u', 'p', 'l', 'e'])) (hf : g[fo]? = some (.lst fs)) (hl : fs.length < 16777216) :
    evSs T cf (ss1 (ss1 ctB2)) [some GA, some (.int (l : Nat)), some (.ref o), some (.ref r), some (.ref fo), some (.int (at1 : Nat)), some (.int (n : Nat)), some (.int (l : Nat)), m8, m9, m10] g = .nx [some GA, some (.int (l : Nat)), some (.ref o), some (.ref r), some (.ref fo), some (.int (at1 : Nat)), some (.int (n : Nat)), some (.int (l : Nat)), m8, m9, m10] (g.set fo (.lst (fs ++ [cutA.d]))) := by
  have l2 : 2 ≤ line := by decide
  simp [ctB2, ss1, evSs, evS, ev, evs, x1, x2, hf, hl, l2, cutA, Nd.d, cmpop, trX, tr, eqv, Py.R.bind, truth, Py.R.test, Py.R.toO, Py.R.lay, Py.O.then, ofO, asg, lay, btype, bmok, bmeth]
  simp [line, hl]
theorem ct_tup {GA xd : D} {at1 n l d o r fo : Nat} {fs ns : List D} {w : Tx} {m8 m9 m10 m9' m10' : Option D} {g2 : G} (x1 : ∀ g : G, index g (.d GA) (.int (n : Nat)) = some xd) (x2 : ∀ g : G, index g (.d xd) (.int 0) = some (.str ['t', 'u', 'p', 'l', 'e'])) (x3 : ∀ g : G, index g (.d xd) (.int 1) = some (.str w)) (hne : l ≠ d)
    (e : evS T cf ctL1 [some GA, some (.int (d : Nat)), some (.ref o), some (.ref r), some (.ref fo), some (.int (at1 : Nat)), some (.int (n : Nat)), some (.int (l : Nat)), some (.ref g.length), m9, m10] (g ++ [.lst []]) = .nx [some GA, some (.int (d : Nat)), some (.ref o), some (.ref r), some (.ref fo), some (.int (at1 : Nat)), some (.int (n : Nat)), some (.int (l : Nat)), some (.ref g.length), m9', m10'] g2)
    (hn : g2[g.length]? = some (.lst ns)) (hf : g2[fo]? = some (.lst fs)) (hl : fs.length < 16777216) :
    evSs T cf (ss1 (ss1 ctB2)) [some GA, some (.int (d : Nat)), some (.ref o), some (.ref r), some (.ref fo), some (.int (at1 : Nat)), some (.int (n : Nat)), some (.int (l : Nat)), m8, m9, m10] g = .nx [some GA, some (.int (d : Nat)), some (.ref o), some (.ref r), some (.ref fo), some (.int (at1 : Nat)), some (.int (n : Nat)), some (.int (l : Nat)), some (.ref g.length), m9', m10'] (g2.set fo (.lst (fs ++ [.tup [.str ['t', 'u', 'p', 'l', 'e'], .str w, .tup ns]]))) := by
  have l3 : 3 ≤ line := by decide
  have c1 : ∀ g : G, cmpop g .eq (.d (.int (l : Nat))) (.d (.int (d : Nat))) = some false := fun g => by
    simp [cmpop, trX, tr, eqv]
    omega
  have c2 : ∀ g : G, cmpop g .eq (.d (.str ['t', 'u', 'p', 'l', 'e'])) (.d (.str ['t', 'u', 'p', 'l', 'e'])) = some true := fun g => by simp [cmpop, trX, tr, eqv]
  have ll : fs.length < line := hl
  simp only [ctB2, ss1]
  generalize ctL1 = W at e ⊢
  simp [evSs, evS, ev, evs, x1, x2, x3, c1, c2, e, hn, hf, ll, l3, Py.R.bind, truth, Py.R.test, Py.R.toO, Py.R.lay, Py.O.then, ofO, asg, lay, btype, bmok, bmeth, built1, items]
end
end Py.Gr
set_option linter.all false
set_option maxRecDepth 100000
set_option maxHeartbeats 1000000
/-! PlZb: cut, what it answers. -/
namespace Py.Gr
open Py
section
variable {T : Tb} {cf : Cf} {k : Nat} {g : G}
/-- one pair -/
theorem ct_turn {A : List Nd} {d N at_ o r fo : Nat} {rows : List Pr} {p : Pr} {m6 m7 m8 m9 m10 : Option D} (hA : Gok A) (hm : A.length * (d + 1) ≤ 910) (hrw : Rw A d rows) (hc : ∀ p ∈ rows.take at_, ∀ q ∈ kids A d p, q ∈ rows) (hp : rows[at_]? = some p)
    (ho : g[o]? = some (.dt (ordP rows))) (hr : g[r]? = some (.lst (rows.map prD))) (hf : g[fo]? = some (.lst (((rows.take at_).map (ent A d rows.idxOf)).map Nd.d))) (n1 : o ≠ r) (n2 : o ≠ fo) (n3 : r ≠ fo) (l1 : N ≤ o) (l2 : N ≤ r) (l3 : N ≤ fo) :
    ∃ g' nw m6' m7' m8' m9' m10', evSs T cf ctB2 [some (grD A), some (.int (d : Nat)), some (.ref o), some (.ref r), some (.ref fo), some (.int (at_ : Nat)), m6, m7, m8, m9, m10] g = .nx [some (grD A), some (.int (d : Nat)), some (.ref o), some (.ref r), some (.ref fo), some (.int ((at_ + 1 : Nat) : Int)), m6', m7', m8', m9', m10'] g' ∧ Old N g g' ∧
      Rw A d (rows ++ nw) ∧ (∀ p ∈ (rows ++ nw).take (at_ + 1), ∀ q ∈ kids A d p, q ∈ rows ++ nw) ∧ g'[o]? = some (.dt (ordP (rows ++ nw))) ∧ g'[r]? = some (.lst ((rows ++ nw).map prD)) ∧ g'[fo]? = some (.lst ((((rows ++ nw).take (at_ + 1)).map (ent A d (rows ++ nw).idxOf)).map Nd.d)) := by
  have hin := hrw.in_ p (List.mem_of_getElem? hp)
  have hlt := (List.getElem?_eq_some_iff.mp hp).1
  have fl := (List.getElem?_eq_some_iff.mp hf).1
  have rl := (List.getElem?_eq_some_iff.mp hr).1
  have hx : A[p.1]? = some (nA A p.1) := nA_at hin.1
  have x1 : ∀ g : G, index g (.d (grD A)) (.int (p.1 : Nat)) = some (nA A p.1).d := fun g => at_gr hx
  have lr := hrw.ok.le
  have fsl : (((rows.take at_).map (ent A d rows.idxOf)).map Nd.d).length < 16777216 := by simp; omega
  have pre := ct_pre (T := T) (cf := cf) (GA := grD A) (m1 := some (.int (d : Nat))) (m2 := some (.ref o)) (m4 := some (.ref fo)) (m6 := m6) (m7 := m7) (m8 := m8) (m9 := m9) (m10 := m10) hr hp
  -- no parts: the rows stay
  have stay : kids A d p = [] → ∀ y : Nd, ent A d rows.idxOf p = y → ∀ (L : Lc) , evSs T cf (ss1 (ss1 ctB2)) [some (grD A), some (.int (d : Nat)), some (.ref o), some (.ref r), some (.ref fo), some (.int ((at_ + 1 : Nat) : Int)), some (.int (p.1 : Nat)), some (.int (p.2 : Nat)), m8, m9, m10] g = .nx [some (grD A), some (.int (d : Nat)), some (.ref o), some (.ref r), some (.ref fo), some (.int ((at_ + 1 : Nat) : Int)), some (.int (p.1 : Nat)), some (.int (p.2 : Nat)), m8, m9, m10] (g.set fo (.lst (((rows.take at_).map (ent A d rows.idxOf)).map Nd.d ++ [y.d]))) →
      ∃ g' nw m6' m7' m8' m9' m10', evSs T cf ctB2 [some (grD A), some (.int (d : Nat)), some (.ref o), some (.ref r), some (.ref fo), some (.int (at_ : Nat)), m6, m7, m8, m9, m10] g = .nx [some (grD A), some (.int (d : Nat)), some (.ref o), some (.ref r), some (.ref fo), some (.int ((at_ + 1 : Nat) : Int)), m6', m7', m8', m9', m10'] g' ∧ Old N g g' ∧
      Rw A d (rows ++ nw) ∧ (∀ p ∈ (rows ++ nw).take (at_ + 1), ∀ q ∈ kids A d p, q ∈ rows ++ nw) ∧ g'[o]? = some (.dt (ordP (rows ++ nw))) ∧ g'[r]? = some (.lst ((rows ++ nw).map prD)) ∧ g'[fo]? = some (.lst ((((rows ++ nw).take (at_ + 1)).map (ent A d (rows ++ nw).idxOf)).map Nd.d)) := by
    intro hk y hy _ e
    have fs := found_step (nw := []) hc hp
    rw [List.append_nil] at fs
    refine ⟨_, [], _, _, _, _, _, pre.trans e, Old.set l3, by rw [List.append_nil]; exact hrw, fun q hq z hz => ?_, ?_, ?_, ?_⟩
    · rw [List.append_nil] at hq ⊢
      rw [List.take_add_one, hp] at hq
      rcases List.mem_append.mp hq with m | m
      · exact hc q m z hz
      · have : q = p := by simpa using m
        subst this
        rw [hk] at hz
        cases hz
    · rw [List.append_nil, List.getElem?_set_ne (Ne.symm n2)]; exact ho
    · rw [List.append_nil, List.getElem?_set_ne (Ne.symm n3)]; exact hr
    · rw [List.append_nil, List.getElem?_set_self fl, ← fs, List.map_append, hy]
      rfl
  cases hn : nA A p.1 with
  | tup w ps =>
    rw [hn] at x1 hx
    have ok := nA_ok hA hin.1
    rw [hn] at ok
    have x2 : ∀ g : G, index g (.d (Nd.tup w ps).d) (.int 0) = some (.str ['t', 'u', 'p', 'l', 'e']) := fun g => by simp [Nd.d, index, atI, ixN]
    by_cases hd : p.2 = d
    · have hk : kids A d p = [] := by unfold kids; rw [if_pos hd]
      have he : ent A d rows.idxOf p = cutA := by unfold ent; rw [hn]; simp [hd]
      refine stay hk _ he [] ?_
      have := ct_cut (T := T) (cf := cf) (l := p.2) (n := p.1) (at1 := at_ + 1) (o := o) (r := r) (m8 := m8) (m9 := m9) (m10 := m10) (x1 g) (x2 g) hf fsl
      rw [hd] at this ⊢
      exact this
    · have x3 : ∀ g : G, index g (.d (Nd.tup w ps).d) (.int 1) = some (.str w) := fun g => by simp [Nd.d, index, atI, ixN]
      have hk : kids A d p = ps.map fun q => (q, p.2 + 1) := by unfold kids; rw [if_neg hd, hn]; rfl
      obtain ⟨nw, ew⟩ := addPs_pre (ps.map fun q => (q, p.2 + 1)) rows
      have rw2 : Rw A d (rows ++ nw) := by rw [← ew]; exact hrw.adds hA hp fun q hq => by rw [hk]; exact hq
      have ho2 : (g ++ [Ob.lst []])[o]? = some (.dt (ordP rows)) := by rw [List.getElem?_append_left (List.getElem?_eq_some_iff.mp ho).1]; exact ho
      have hr2 : (g ++ [Ob.lst []])[r]? = some (.lst (rows.map prD)) := by rw [List.getElem?_append_left rl]; exact hr
      have ol := (List.getElem?_eq_some_iff.mp ho).1
      obtain ⟨g2, m9', m10', e, hkp, ho3, hr3, hb3⟩ := ct_in (T := T) (cf := cf) (n := p.1) (l := p.2) (m1 := some (.int (d : Nat))) (m4 := some (.ref fo)) (m5 := some (.int ((at_ + 1 : Nat) : Int))) (m9 := m9) (m10 := m10) (nb := g.length) hx ok.1 ho2 hr2 (by simp) n1 (by omega) (by omega) (fun j => by
        have := (hrw.adds (qs := (ps.map fun q => (q, p.2 + 1)).take j) hA hp fun q hq => by rw [hk]; exact List.mem_of_mem_take hq).ok.le
        omega)
      have hf3 : g2[fo]? = some (.lst (((rows.take at_).map (ent A d rows.idxOf)).map Nd.d)) := by rw [hkp fo (Ne.symm n2) (Ne.symm n3) (by omega), List.getElem?_append_left fl]; exact hf
      have e2 := ct_tup (T := T) (cf := cf) (m8 := m8) x1 x2 x3 hd e hb3 hf3 fsl
      have fs := found_step (nw := nw) hc hp
      have fl3 := (List.getElem?_eq_some_iff.mp hf3).1
      rw [ew] at ho3 hr3 e2
      refine ⟨_, nw, _, _, _, _, _, pre.trans e2, ?_, rw2, fun q hq z hz => ?_, ?_, ?_, ?_⟩
      · refine Old.trans (fun n hn => ?_) (Old.set l3)
        rw [hkp n (by omega) (by omega) (by omega), List.getElem?_append_left (by omega)]
      · rw [List.take_append_of_le_length (by omega), List.take_add_one, hp] at hq
        rcases List.mem_append.mp hq with m | m
        · exact List.mem_append_left _ (hc q m z hz)
        · have : q = p := by simpa using m
          subst this
          rw [hk] at hz
          rw [← ew]
          exact addPs_mem.mpr (.inr hz)
      · rw [List.getElem?_set_ne (Ne.symm n2)]; exact ho3
      · rw [List.getElem?_set_ne (Ne.symm n3)]; exact hr3
      · rw [List.getElem?_set_self fl3, ← fs, List.map_append]
        have he : ent A d (rows ++ nw).idxOf p = .tup w (ps.map fun q => (rows ++ nw).idxOf (q, p.2 + 1)) := by unfold ent; rw [hn]; simp [hd]
        rw [he]
        simp [Nd.d, ndPs]
  | _ =>
    have hk : kids A d p = [] := by unfold kids; rw [hn]; split <;> rfl
    have he : ent A d rows.idxOf p = nA A p.1 := by unfold ent; rw [hn]
    refine stay hk _ he [] ?_
    have x1' := x1 g
    rw [hn] at x1' ⊢
    exact ct_leaf (T := T) (cf := cf) (z := _) x1' rfl (by simp) hf fsl
/-- all pairs -/
theorem ct_loop {A : List Nd} {d N o r fo : Nat} {m6 m7 m8 m9 m10 : Option D} (hA : Gok A) (h0 : 0 < A.length) (hm : A.length * (d + 1) ≤ 910) (ho : g[o]? = some (.dt (ordP [(0, 0)]))) (hr : g[r]? = some (.lst ([((0 : Nat), (0 : Nat))].map prD))) (hf : g[fo]? = some (.lst [])) (n1 : o ≠ r) (n2 : o ≠ fo) (n3 : r ≠ fo) (l1 : N ≤ o) (l2 : N ≤ r) (l3 : N ≤ fo) :
    ∃ rows g' L', evS T cf ctW [some (grD A), some (.int (d : Nat)), some (.ref o), some (.ref r), some (.ref fo), some (.int 0), m6, m7, m8, m9, m10] g = .nx L' g' ∧ (∃ m5 m6 m7 m8 m9 m10, L' = [some (grD A), some (.int (d : Nat)), some (.ref o), some (.ref r), some (.ref fo), m5, m6, m7, m8, m9, m10]) ∧ Old N g g' ∧ Rw A d rows ∧ Cl A d rows ∧ g'[fo]? = some (.lst ((cutF A d rows).map Nd.d)) := by
  have key := loopW_ind (c := fun L g => (ev T cf (.cmp .lt (.v 5) (.bi .len (.cons (.v 3) .nil))) L g).test) (body := fun L g => evSs T cf ctB2 L g)
    (Q := fun o' => ∃ rows g' L', o' = .nx L' g' ∧ (∃ m5 m6 m7 m8 m9 m10, L' = [some (grD A), some (.int (d : Nat)), some (.ref o), some (.ref r), some (.ref fo), m5, m6, m7, m8, m9, m10]) ∧ Old N g g' ∧ Rw A d rows ∧ Cl A d rows ∧ g'[fo]? = some (.lst ((cutF A d rows).map Nd.d)))
    (fun m L g' => ∃ rows at_ m6 m7 m8 m9 m10, L = [some (grD A), some (.int (d : Nat)), some (.ref o), some (.ref r), some (.ref fo), some (.int ((at_ : Nat) : Int)), m6, m7, m8, m9, m10] ∧ Old N g g' ∧ Rw A d rows ∧ (∀ p ∈ rows.take at_, ∀ q ∈ kids A d p, q ∈ rows) ∧ at_ ≤ rows.length ∧ g'[o]? = some (.dt (ordP rows)) ∧ g'[r]? = some (.lst (rows.map prD)) ∧ g'[fo]? = some (.lst (((rows.take at_).map (ent A d rows.idxOf)).map Nd.d)) ∧ m = A.length * (d + 1) - at_)
    (fun m L g' ⟨rows, at_, m6, m7, m8, m9, m10, eL, hold, hrw, hc, hat, ho, hr, hf, hm'⟩ => ?_) fuel (A.length * (d + 1)) _ g (by unfold fuel; omega) ⟨[(0, 0)], 0, m6, m7, m8, m9, m10, rfl, .refl _ _, Rw.one h0 d, fun p hp => by simp at hp, by simp, ho, hr, by simpa using hf, by omega⟩
  · obtain ⟨rows, g', L', h1, h2⟩ := key
    exact ⟨rows, g', L', by rw [ctW, evS]; exact h1, h2⟩
  subst eL
  have lr := hrw.ok.le
  have hl1 : rows.length ≤ 16777216 := by omega
  by_cases hlt : at_ < rows.length
  · right
    obtain ⟨p, hp⟩ : ∃ p, rows[at_]? = some p := ⟨_, List.getElem?_eq_getElem hlt⟩
    obtain ⟨g2, nw, m6', m7', m8', m9', m10', e, hold2, hrw2, hc2, ho2, hr2, hf2⟩ := ct_turn (T := T) (cf := cf) (m6 := m6) (m7 := m7) (m8 := m8) (m9 := m9) (m10 := m10) hA hm hrw hc hp ho hr hf n1 n2 n3 l1 l2 l3
    refine ⟨g', ?_, .inl ⟨A.length * (d + 1) - (at_ + 1), _, g2, .inl e, by omega, rows ++ nw, at_ + 1, m6', m7', m8', m9', m10', rfl, hold.trans hold2, hrw2, hc2, by simp; omega, ho2, hr2, hf2, rfl⟩⟩
    simp [ev, evs, hr, hl1, line, hlt, cmpop, built1, lenOf, Py.R.bind, Py.R.lay, lay, ofO, Py.R.test, truth]
  · left
    have ea : at_ = rows.length := by omega
    subst ea
    rw [List.take_length] at hc hf
    refine ⟨g', ?_, rows, g', _, rfl, ⟨_, _, _, _, _, _, rfl⟩, hold, hrw, hc, hf⟩
    simp [ev, evs, hr, hl1, line, cmpop, built1, lenOf, Py.R.bind, Py.R.lay, lay, ofO, Py.R.test, truth]
theorem checked_ {A : List Nd} {ck ls cl hd nb gM tm pt : Nat} (hCk : T.fn ck = some (chF ls gM tm)) (hL : T.fn ls = some (leastF pt cl)) (hC : T.fn cl = some (classesF pt hd nb gM tm)) (hP : T.fn pt = some partsF) (hH : T.fn hd = some headF) (hN : T.fn nb = some numberedF) (hM : T.gl gM = some (.int 400)) (hA : Gok A) (h0 : 0 < A.length) (hm : Met A) :
    ∃ g', Old g.length g g' ∧ if 400 < (leastL A).length then runF T (k + 4) ck [grD A] g = .ex ⟨tm, []⟩ g' else runF T (k + 4) ck [grD A] g = .ok (grD (leastL A)) g' := by
  have tm_ := tooM_least hA h0 hm
  by_cases hX : tooM A = true
  · obtain ⟨g', e, ho⟩ := least_ex (T := T) (k := k) (g := g) hL hC hP hH hN hM hA hX
    refine ⟨g', ho, ?_⟩
    rw [if_pos (tm_.mp hX)]
    refine runF_ex (L := [some (grD A), none]) hCk rfl ?_
    simp [chF, evSs, evS, ev, evs, e, Py.R.bind, Py.R.toO, Py.R.lay, Py.O.then, ofO, asg, lay]
  · have hX' : tooM A = false := by simpa using hX
    obtain ⟨g', e, ho, _, _⟩ := least_y (T := T) (k := k) (g := g) hL hC hP hH hN hM hA h0 hX'
    have hl : ¬ 400 < (leastL A).length := fun q => hX (tm_.mpr q)
    refine ⟨g', ho, ?_⟩
    rw [if_neg hl]
    refine runF_rt hCk rfl ?_
    have bl : built1 g' .len (.d (grD (leastL A))) = some (.d (.int ((leastL A).length : Nat))) := by simp [built1, lenOf, items, grD]
    have c1 : cmpop g' .gt (.d (.int ((leastL A).length : Nat))) (.d (.int 400)) = some false := by
      simp [cmpop]
      omega
    generalize grD (leastL A) = GB at e bl ⊢
    generalize (((leastL A).length : Nat) : Int) = z at bl c1
    simp [chF, evSs, evS, ev, evs, e, bl, hM, c1, Py.R.bind, truth, Py.R.test, Py.R.toO, Py.R.lay, Py.O.then, ofO, asg, lay]
end
end Py.Gr
set_option linter.all false
set_option maxRecDepth 100000
set_option maxHeartbeats 1000000
/-! PlZc: cut. -/
namespace Py.Gr
open Py
section
variable {T : Tb} {cf : Cf} {k : Nat} {g : G}
theorem ct_body {ck : Nat} {GA : D} {d : Nat} {W : S} {L' : Lc} {g2 : G} {FS : List D} {Q : O → Prop}
    (e : evS T cf W [some GA, some (.int (d : Nat)), some (.ref g.length), some (.ref (g.length + 1)), some (.ref (g.length + 2)), some (.int 0), none, none, none, none, none] (g ++ [.dt (ordP [(0, 0)])] ++ [.lst ([((0 : Nat), (0 : Nat))].map prD)] ++ [.lst []]) = .nx L' g2)
    (hL : L'[4]? = some (some (.ref (g.length + 2)))) (hf : g2[g.length + 2]? = some (.lst FS)) (hq : Q (match cf ck [.tup FS] g2 with | .ok v g => .rt v g | .ex x g => .ex x L' g | .bad => .bad)) :
    Q (evSs T cf (.cons (.set (.nm 2) (.dic (.cons (.tup (.cons (.c (.int 0)) (.cons (.c (.int 0)) .nil))) (.cons (.c (.int 0)) .nil)))) (.cons (.set (.nm 3) (.lst (.cons (.tup (.cons (.c (.int 0)) (.cons (.c (.int 0)) .nil))) .nil))) (.cons (.set (.nm 4) (.lst .nil)) (.cons (.set (.nm 5) (.c (.int 0))) (.cons W (.cons (.ret (.call ck (.cons (.bi .tuple (.cons (.v 4) .nil)) .nil))) .nil)))))) [some GA, some (.int (d : Nat)), none, none, none, none, none, none, none, none, none] g) := by
  have ed : dicOf [.tup [.int 0, .int 0]] [.int 0] = some (.dt (ordP [((0 : Nat), (0 : Nat))])) := rfl
  have l1 : 1 ≤ line := by decide
  have l2 : 2 ≤ line := by decide
  have pr : ([((0 : Nat), (0 : Nat))].map prD) = [D.tup [.int 0, .int 0]] := rfl
  have s1 : evS T cf (.set (.nm 2) (.dic (.cons (.tup (.cons (.c (.int 0)) (.cons (.c (.int 0)) .nil))) (.cons (.c (.int 0)) .nil)))) [some GA, some (.int (d : Nat)), none, none, none, none, none, none, none, none, none] g = .nx [some GA, some (.int (d : Nat)), some (.ref g.length), none, none, none, none, none, none, none, none] (g ++ [.dt (ordP [(0, 0)])]) := by
    simp [evS, ev, evs, evens, odds, ed, l2, Py.R.bind, Py.R.toO, Py.R.lay, Py.O.then, ofO, asg, lay]
  have s2 : evS T cf (.set (.nm 3) (.lst (.cons (.tup (.cons (.c (.int 0)) (.cons (.c (.int 0)) .nil))) .nil))) [some GA, some (.int (d : Nat)), some (.ref g.length), none, none, none, none, none, none, none, none] (g ++ [.dt (ordP [(0, 0)])]) = .nx [some GA, some (.int (d : Nat)), some (.ref g.length), some (.ref (g.length + 1)), none, none, none, none, none, none, none] (g ++ [.dt (ordP [(0, 0)])] ++ [.lst ([((0 : Nat), (0 : Nat))].map prD)]) := by
    rw [pr]
    simp [evS, ev, evs, l1, l2, Py.R.bind, Py.R.toO, Py.R.lay, Py.O.then, ofO, asg, lay]
  have s3 : evS T cf (.set (.nm 4) (.lst .nil)) [some GA, some (.int (d : Nat)), some (.ref g.length), some (.ref (g.length + 1)), none, none, none, none, none, none, none] (g ++ [.dt (ordP [(0, 0)])] ++ [.lst ([((0 : Nat), (0 : Nat))].map prD)]) = .nx [some GA, some (.int (d : Nat)), some (.ref g.length), some (.ref (g.length + 1)), some (.ref (g.length + 2)), none, none, none, none, none, none] (g ++ [.dt (ordP [(0, 0)])] ++ [.lst ([((0 : Nat), (0 : Nat))].map prD)] ++ [.lst []]) := by
    simp [evS, ev, evs, Py.R.bind, Py.R.toO, Py.R.lay, Py.O.then, ofO, asg, lay]
  have s4 : evS T cf (.set (.nm 5) (.c (.int 0))) [some GA, some (.int (d : Nat)), some (.ref g.length), some (.ref (g.length + 1)), some (.ref (g.length + 2)), none, none, none, none, none, none] (g ++ [.dt (ordP [(0, 0)])] ++ [.lst ([((0 : Nat), (0 : Nat))].map prD)] ++ [.lst []]) = .nx [some GA, some (.int (d : Nat)), some (.ref g.length), some (.ref (g.length + 1)), some (.ref (g.length + 2)), some (.int 0), none, none, none, none, none] (g ++ [.dt (ordP [(0, 0)])] ++ [.lst ([((0 : Nat), (0 : Nat))].map prD)] ++ [.lst []]) := by
    simp [evS, ev, Py.R.bind, Py.R.toO, Py.R.lay, Py.O.then, ofO, asg, lay]
  rw [run_ss (b := .cons _ _) s1 rfl]
  simp only [ss1]
  rw [run_ss (b := .cons _ _) s2 rfl]
  simp only [ss1]
  rw [run_ss (b := .cons _ _) s3 rfl]
  simp only [ss1]
  rw [run_ss (b := .cons _ _) s4 rfl]
  simp only [ss1]
  rw [run_ss (b := .cons _ _) e rfl]
  simp only [ss1]
  have fin : evSs T cf (.cons (.ret (.call ck (.cons (.bi .tuple (.cons (.v 4) .nil)) .nil))) .nil) L' g2 = (match cf ck [.tup FS] g2 with | .ok v g => .rt v g | .ex x g => .ex x L' g | .bad => .bad) := by
    simp only [evSs, evS, ev, evs, hL, hf, built1, items, Py.R.bind, Py.R.lay, lay, Py.R.toO, ofO, Option.map_some]
    cases cf ck [.tup FS] g2 <;> rfl
  rw [fin]
  exact hq
/-- cut -/
theorem cut_ {A : List Nd} {d ct ck ls cl hd nb gM tm pt : Nat} (hCt : T.fn ct = some (ctF ck)) (hCk : T.fn ck = some (chF ls gM tm)) (hL : T.fn ls = some (leastF pt cl)) (hC : T.fn cl = some (classesF pt hd nb gM tm)) (hP : T.fn pt = some partsF) (hH : T.fn hd = some headF) (hN : T.fn nb = some numberedF) (hM : T.gl gM = some (.int 400)) (hA : Gok A) (h0 : 0 < A.length) (hm : A.length * (d + 1) ≤ 910) :
    ∃ g', Old g.length g g' ∧ if 400 < (leastL (cutR A d)).length then runF T (k + 5) ct [grD A, .int (d : Nat)] g = .ex ⟨tm, []⟩ g' else runF T (k + 5) ct [grD A, .int (d : Nat)] g = .ok (grD (leastL (cutR A d))) g' := by
  obtain ⟨rows, g2, L', e, ⟨m5, m6, m7, m8, m9, m10, eL⟩, ho, hrw, hcl, hf⟩ := ct_loop (T := T) (cf := runF T (k + 4)) (g := g ++ [.dt (ordP [(0, 0)])] ++ [.lst ([((0 : Nat), (0 : Nat))].map prD)] ++ [.lst []]) (d := d) (N := g.length) (o := g.length) (r := g.length + 1) (fo := g.length + 2) (m6 := none) (m7 := none) (m8 := none) (m9 := none) (m10 := none) hA h0 hm (by simp) (by simp) (by simp) (by omega) (by omega) (by omega) (Nat.le_refl _) (by omega) (by omega)
  have hF := cutF_ok hA hrw hm hcl
  have l0 : 0 < rows.length := (List.getElem?_eq_some_iff.mp hrw.hd).1
  have hF0 : 0 < (cutF A d rows).length := by simpa [cutF] using l0
  have hl := cut_least hA hrw hm h0 hcl
  have hmet := cut_met hA hrw hm hcl
  obtain ⟨g3, o3, h3⟩ := checked_ (T := T) (k := k) (g := g2) hCk hL hC hP hH hN hM hF hF0 hmet
  rw [hl] at h3
  have ol : Old g.length g g2 := (((Old.push (Nat.le_refl _)).trans (Old.push (by simp))).trans (Old.push (by simp))).trans ho
  have g2l : g.length ≤ g2.length := by have := (List.getElem?_eq_some_iff.mp hf).1; omega
  refine ⟨g3, ol.trans (o3.le g2l), ?_⟩
  have hL4 : L'[4]? = some (some (.ref (g.length + 2))) := by rw [eL]; rfl
  have gr : (D.tup ((cutF A d rows).map Nd.d)) = grD (cutF A d rows) := rfl
  by_cases h : 400 < (leastL (cutR A d)).length
  · rw [if_pos h] at h3 ⊢
    refine runF_ex (L := L') hCt rfl ?_
    rw [ctF]
    refine ct_body (cf := runF T (k + 4)) (W := ctW) (Q := fun o => o = .ex ⟨tm, []⟩ L' g3) e hL4 hf ?_
    rw [gr, h3]
  · rw [if_neg h] at h3 ⊢
    refine runF_rt hCt rfl ?_
    rw [ctF]
    refine ct_body (cf := runF T (k + 4)) (W := ctW) (Q := fun o => o = .rt (grD (leastL (cutR A d))) g3) e hL4 hf ?_
    rw [gr, h3]
end
end Py.Gr
set_option linter.all false
set_option maxRecDepth 100000
set_option maxHeartbeats 1000000
/-! PlL: the laws' least graphs, for any table (turned from k02's walk by pll.py). -/
namespace Py.Gr
open Py
def lpF : Fn := ⟨1, 1, (.cons (.ifs (.cmp .eq (.ix (.v 0) (.c (.int 0))) (.c (.str ['t', 'u', 'p', 'l', 'e']))) (.cons (.ret (.bi .list (.cons (.ix (.v 0) (.c (.int 2))) .nil))) .nil) .nil) (.cons (.ret (.lst .nil)) .nil))⟩
def kdC : E := .comp (.nm 8) (.it (.ix (.v 6) (.c (.int 2)))) (.c (.bl true)) (.ix (.v 1) (.v 8))
def kdB1 : Ss := (.cons (.set (.nm 7) (.v 6)) (.cons (.ifs (.cmp .eq (.ix (.v 6) (.c (.int 0))) (.c (.str ['t', 'u', 'p', 'l', 'e']))) (.cons (.set (.nm 7) (.bin .add (.slH (.v 6) (.c (.int 2))) (.bi .tuple (.cons kdC .nil)))) .nil) .nil) (.cons (.ifs (.cmp .notin (.v 7) (.v 4)) (.cons (.setI (.v 4) (.v 7) (.bi .len (.cons (.v 4) .nil))) .nil) .nil) (.cons (.ex (.bm .append (.v 5) (.cons (.ix (.v 4) (.v 7)) .nil))) .nil))))
def kdL : S := .for (.nm 6) (.it (.v 0)) kdB1
def kdB3 : Ss := (.cons (.set (.nm 2) (.v 3)) (.cons (.set (.nm 4) .dnt) (.cons (.set (.nm 5) (.lst .nil)) (.cons kdL (.cons (.set (.nm 1) (.v 5)) (.cons (.set (.nm 3) (.bi .len (.cons (.v 4) .nil))) .nil))))))
def kdW : S := .whl (.cmp .gt (.v 3) (.v 2)) kdB3
def kdF : Fn := ⟨1, 9, (.cons (.set (.nm 1) (.bin .mul (.lst (.cons (.c (.int 0)) .nil)) (.bi .len (.cons (.v 0) .nil)))) (.cons (.set (.nm 2) (.c (.int 0))) (.cons (.set (.nm 3) (.c (.int 1))) (.cons kdW (.cons (.ret (.v 1)) .nil)))))⟩
def mtB (mt : Nat) : Ss := (.cons (.ex (.call mt (.cons (.v 0) (.cons (.v 1) (.cons (.v 4) (.cons (.v 3) .nil)))))) .nil)
def mtL (lp : Nat) (mt : Nat) : S := .for (.nm 4) (.it (.call lp (.cons (.ix (.v 0) (.v 2)) .nil))) (mtB mt)
def mtF (lp : Nat) (mt : Nat) : Fn := ⟨4, 5, (.cons (.ifs (.cmp .isin (.ix (.v 1) (.v 2)) (.v 3)) (.cons (.ret (.c (.non))) .nil) .nil) (.cons (.setI (.v 3) (.ix (.v 1) (.v 2)) (.tup (.cons (.bi .len (.cons (.v 3) .nil)) (.cons (.v 2) .nil)))) (.cons (mtL lp mt) (.cons (.ret (.c (.non))) .nil))))⟩
def lwC : E := .comp (.nm 6) (.it (.ix (.v 5) (.c (.int 2)))) (.c (.bl true)) (.ix (.ix (.v 2) (.ix (.v 1) (.v 6))) (.c (.int 0)))
def lwB : Ss := (.cons (.set (.nm 5) (.ix (.v 0) (.ix (.ix (.v 2) (.v 4)) (.c (.int 1))))) (.cons (.ifs (.cmp .eq (.ix (.v 5) (.c (.int 0))) (.c (.str ['t', 'u', 'p', 'l', 'e']))) (.cons (.set (.nm 5) (.bin .add (.slH (.v 5) (.c (.int 2))) (.tup (.cons (.bi .tuple (.cons lwC .nil)) .nil)))) .nil) .nil) (.cons (.ex (.bm .append (.v 3) (.cons (.v 5) .nil))) .nil)))
def lwL : S := .forD (.nm 4) 2 lwB
def lwF (kd : Nat) (mt : Nat) : Fn := ⟨1, 7, (.cons (.set (.nm 1) (.call kd (.cons (.v 0) .nil))) (.cons (.set (.nm 2) .dnk) (.cons (.ex (.call mt (.cons (.v 0) (.cons (.v 1) (.cons (.c (.int 0)) (.cons (.v 2) .nil)))))) (.cons (.set (.nm 3) (.lst .nil)) (.cons lwL (.cons (.ret (.bi .tuple (.cons (.v 3) .nil))) .nil))))))⟩
section
variable {T : Tb} {lp mt kd lw : Nat}
/-! ### the law's parts -/
theorem lparts (hL : T.fn lp = some lpF) {k : Nat} {g : G} (x : Nd) (hx : x.ps.length ≤ 100) : runF T (k + 1) lp [x.d] g = .ok (.ref g.length) (g ++ [.lst (natsD x.ps)]) := by
  refine runF_rt hL rfl ?_
  cases x <;> simp [lpF, evSs, evS, ev, evs, evI, Py.R.bind, ofO, isinst, truth, Py.R.test, Py.R.lay, lay, Py.R.toO, Py.O.then, asg, items, listOf, index, setIx, built1, built2, lenOf, cmpop, binop, augop, ordX, ltv, ltvs, alikeD, alikesD, D.isNon, keyed, isin, tr, trX, trL, eqv, eqvs, btype, bmok, bmeth, boolsOf, atI, ixN, small, Nd.d, Nd.ps, ndPs, natsD, line]
/-! ### what the law's recursion has found -/
def fnd (K : List Nat) (f : List Nat) : List (KY × D) := f.zipIdx.map fun p => (.i ((K[p.1]?.getD 0 : Nat) : Int), .tup [.int (p.2 : Nat), .int (p.1 : Nat)])
theorem fnd_len (K f : List Nat) : (fnd K f).length = f.length := by simp [fnd]
theorem fnd_look (K f : List Nat) (n : Nat) : (look (KY.i (n : Nat)) (fnd K f)).isSome = decide (n ∈ f.map fun b => K[b]?.getD 0) := by
  have gen : ∀ (f : List Nat) (m : Nat), (look (KY.i (n : Nat)) ((f.zipIdx m).map fun p => (KY.i ((K[p.1]?.getD 0 : Nat) : Int), D.tup [.int (p.2 : Nat), .int (p.1 : Nat)]))).isSome = decide (n ∈ f.map fun b => K[b]?.getD 0) := by
    intro f
    induction f with
    | nil => intro m; rfl
    | cons b f ih =>
      intro m
      rw [List.zipIdx_cons, List.map_cons, look]
      by_cases h : K[b]?.getD 0 = n
      · subst h
        simp
      · have h2 : ¬ (KY.i ((K[b]?.getD 0 : Nat) : Int)) = KY.i (n : Nat) := fun q => h (by simp at q; omega)
        have h3 : ¬ n = K[b]?.getD 0 := fun q => h q.symm
        rw [if_neg h2, ih]
        simp [h3]
  exact gen f 0
theorem fnd_put {K f : List Nat} {a : Nat} (h : K[a]?.getD 0 ∉ f.map fun b => K[b]?.getD 0) : putK (KY.i ((K[a]?.getD 0 : Nat) : Int)) (.tup [.int (f.length : Nat), .int (a : Nat)]) (fnd K f) = fnd K (f ++ [a]) := by
  have hn : (fnd K f).any (fun p => decide (p.1 = KY.i ((K[a]?.getD 0 : Nat) : Int))) = false := by
    rw [List.any_eq_false]
    intro p hp
    obtain ⟨q, hq, rfl⟩ := List.mem_map.mp hp
    have hm : q.1 ∈ f := by
      obtain ⟨h1, h2⟩ := List.mem_zipIdx' hq
      rw [h2]
      exact List.getElem_mem _
    simp
    intro e
    exact h (List.mem_map.mpr ⟨q.1, hm, by omega⟩)
  unfold putK
  rw [hn]
  simp [fnd, List.zipIdx_append]
theorem metR_one (A : List Nd) (K : List Nat) (n a : Nat) (f : List Nat) : metR A K (n + 1) [a] f = if K[a]?.getD 0 ∈ f.map (fun b => K[b]?.getD 0) then f else metR A K n (A[a]?.getD (.var 0)).ps (f ++ [a]) := rfl
theorem metR_snoc (A : List Nd) (K : List Nat) (n : Nat) (S : List Nat) (a : Nat) (f : List Nat) : metR A K n (S ++ [a]) f = metR A K n [a] (metR A K n S f) := by
  cases n with
  | zero => rfl
  | succ n => simp only [metR, List.foldl_append]
theorem met (hL : T.fn lp = some lpF) (hMt : T.fn mt = some (mtF lp mt)) {A : List Nd} {K : List Nat} {kr r : Nat} (hA : Gok A) (hK : K.length = A.length) (hne : kr ≠ r) {M : Nat → List Nat → Nat}
    (hM : ∀ (a : Nat) (f : List Nat) (p : Nat) (f' : List Nat), a < A.length → FOk A K (f ++ [a]) → p ∈ (A[a]?.getD (.var 0)).ps → f.length < f'.length → FOk A K f' → M p f' < M a f) :
    ∀ (d n k a : Nat) (f : List Nat) (g : G), g[kr]? = some (.lst (natsD K)) → g[r]? = some (.dk (fnd K f)) → FOk A K f → a < A.length → A.length - f.length < n → M a f < d →
    ∃ g', runF T (k + d + 1) mt [grD A, .ref kr, .int (a : Nat), .ref r] g = .ok .non g' ∧ Keep r g g' ∧ g'[r]? = some (.dk (fnd K (metR A K n [a] f)))
  | 0, _, _, _, _, _, _, _, _, _, _, h => absurd h (Nat.not_lt_zero _)
  | _ + 1, 0, _, _, _, _, _, _, _, _, h, _ => absurd h (Nat.not_lt_zero _)
  | d + 1, n + 1, k, a, f, g, hk, hr, ok, ha, h, hd => by
    have hlen := hA.len
    have hx : A[a]? = some A[a] := List.getElem?_eq_getElem ha
    obtain ⟨p1, p2⟩ := A[a].ok_ps (hA.nd _ (List.getElem_mem ha))
    have hKa : K[a]? = some (K[a]'(by omega)) := List.getElem?_eq_getElem (by omega)
    have x1 : index g (.d (.ref kr)) (.int (a : Nat)) = some (.int (K[a]'(by omega) : Nat)) := at_ints hk hKa
    have lk := fnd_look K f (K[a]'(by omega))
    have fl := ok.len
    rw [metR_one]
    by_cases hc : K[a]?.getD 0 ∈ f.map (fun b => K[b]?.getD 0)
    · rw [if_pos hc]
      refine ⟨g, runF_rt hMt rfl ?_, .refl _ _, hr⟩
      rw [hKa] at hc
      simp only [Option.getD_some] at hc
      have i1 : isin g (.int (K[a]'(by omega) : Nat)) (.d (.ref r)) = some true := by
        simp only [isin, keyed, hr, kyOf, Option.map_some, lk]
        simpa using hc
      simp [mtF, evSs, evS, ev, evs, x1, i1, cmpop, Py.R.bind, truth, Py.R.test, Py.R.toO, Py.R.lay, Py.O.then, ofO, asg, lay]
    · rw [if_neg hc]
      have ok2 := ok.take ha hc
      have l2 := ok2.len
      simp only [List.length_append, List.length_singleton] at l2
      have pu := fnd_put hc
      rw [hKa] at hc pu
      simp only [Option.getD_some] at hc pu
      have i1 : isin g (.int (K[a]'(by omega) : Nat)) (.d (.ref r)) = some false := by
        simp only [isin, keyed, hr, kyOf, Option.map_some, lk]
        simpa using hc
      have hr' := (List.getElem?_eq_some_iff.mp hr).1
      have b1 : built1 g .len (.d (.ref r)) = some (.d (.int (f.length : Nat))) := by simp [built1, lenOf, hr, fnd_len]
      have fll : (fnd K f).length < 16777216 := by rw [fnd_len]; omega
      have q1 : setIx g (.ref r) (.int (K[a]'(by omega) : Nat)) (.tup [.int (f.length : Nat), .int (a : Nat)]) = some (g.set r (Ob.dk (fnd K (f ++ [a])))) := by
        simp [setIx, hr, kyOf, fll, line, pu]
      have x2 : index (g.set r (Ob.dk (fnd K (f ++ [a])))) (.d (grD A)) (.int (a : Nat)) = some A[a].d := at_gr hx
      have lpE := lparts hL (k := k + d) (g := g.set r (Ob.dk (fnd K (f ++ [a])))) A[a] p1
      have e0 : (A[a]?.getD (.var 0)).ps = A[a].ps := by rw [hx]; rfl
      rw [e0]
      have k1 : Keep r g (g.set r (Ob.dk (fnd K (f ++ [a]))) ++ [Ob.lst (natsD A[a].ps)]) := fun m o hm e => by
        have := (List.getElem?_eq_some_iff.mp e).1
        rw [List.getElem?_append_left (by simpa using this), List.getElem?_set_ne (fun q => hm q.symm)]
        exact e
      obtain ⟨L', g3, e3, ⟨m4, rfl⟩, kp, hr3⟩ : ∃ L' g3, loopF (.lst (g.set r (Ob.dk (fnd K (f ++ [a])))).length) (.nm 4) (fun L g => evSs T (runF T (k + d + 1)) (mtB mt) L g) fuel 0 [some (grD A), some (.ref kr), some (.int (a : Nat)), some (.ref r), none] (g.set r (Ob.dk (fnd K (f ++ [a]))) ++ [Ob.lst (natsD A[a].ps)]) = .nx L' g3 ∧
          ((∃ m4, L' = [some (grD A), some (.ref kr), some (.int (a : Nat)), some (.ref r), m4]) ∧ Keep r (g.set r (Ob.dk (fnd K (f ++ [a]))) ++ [Ob.lst (natsD A[a].ps)]) g3 ∧ g3[r]? = some (.dk (fnd K (metR A K n (A[a].ps.take A[a].ps.length) (f ++ [a]))))) := by
        refine loopF_ind (n := A[a].ps.length) (fun i L g' => (∃ m4, L = [some (grD A), some (.ref kr), some (.int (a : Nat)), some (.ref r), m4]) ∧ Keep r (g.set r (Ob.dk (fnd K (f ++ [a]))) ++ [Ob.lst (natsD A[a].ps)]) g' ∧ g'[r]? = some (.dk (fnd K (metR A K n (A[a].ps.take i) (f ++ [a]))))) (fun i L g' hi ⟨⟨m4, eL⟩, kp, hr2⟩ => ?_) (fun L g' ⟨_, kp, _⟩ => ?_) fuel 0 _ _ (Nat.zero_le _) (by unfold fuel; omega) ⟨⟨none, rfl⟩, .refl _ _, ?_⟩
        · have z : metR A K n [] (f ++ [a]) = f ++ [a] := by cases n <;> rfl
          rw [List.take_zero, z, List.getElem?_append_left (by simpa using hr'), List.getElem?_set_self hr']
        · subst eL
          have hl : g'[(g.set r (Ob.dk (fnd K (f ++ [a])))).length]? = some (.lst (natsD A[a].ps)) := kp _ _ (by simp; omega) (by simp)
          have hkk : g'[kr]? = some (.lst (natsD K)) := kp _ _ hne (k1 _ _ hne hk)
          obtain ⟨o1, o2, _⟩ := met_fst (K := K) hA n (A[a].ps.take i) (f ++ [a]) ok2 (fun b hb => p2 b (List.mem_of_mem_take hb)) (by simp only [List.length_append, List.length_singleton]; omega)
          simp only [List.length_append, List.length_singleton] at o2
          have hps : A[a].ps[i] ∈ (A[a]?.getD (.var 0)).ps := by rw [e0]; exact List.getElem_mem hi
          obtain ⟨g4, e4, k4, r4⟩ := met hL hMt hA hK hne hM d n k A[a].ps[i] _ g' hkk hr2 o1 (p2 _ (List.getElem_mem hi)) (by omega) (by have := hM a f A[a].ps[i] _ ha ok2 hps (by omega) o1; omega)
          refine ⟨.int (A[a].ps[i] : Nat), _, by rw [turn, hl]; simp [natsD, hi], rfl, _, g4, .inl ?_, ⟨some (.int (A[a].ps[i] : Nat)), rfl⟩, kp.trans k4, ?_⟩
          · simp [mtB, evSs, evS, ev, evs, e4, Py.R.bind, Py.R.toO, Py.R.lay, Py.O.then, ofO, asg, lay]
          · rw [List.take_add_one, List.getElem?_eq_getElem hi]
            simp only [Option.toList_some, metR_snoc]
            exact r4
        · have hl : g'[(g.set r (Ob.dk (fnd K (f ++ [a])))).length]? = some (.lst (natsD A[a].ps)) := kp _ _ (by simp; omega) (by simp)
          rw [turn, hl]
          simp [natsD]
      rw [List.take_length] at hr3
      refine ⟨g3, runF_rt hMt rfl ?_, k1.trans kp, hr3⟩
      have e5 : evS T (runF T (k + d + 1)) (mtL lp mt) [some (grD A), some (.ref kr), some (.int (a : Nat)), some (.ref r), none] (g.set r (Ob.dk (fnd K (f ++ [a])))) = .nx [some (grD A), some (.ref kr), some (.int (a : Nat)), some (.ref r), m4] g3 := by
        refine ev_for (t := .nm 4) (s := .it (.call lp (.cons (.ix (.v 0) (.v 2)) .nil))) (b := (mtB mt)) (it := .lst (g.set r (Ob.dk (fnd K (f ++ [a])))).length) (g1 := g.set r (Ob.dk (fnd K (f ++ [a]))) ++ [Ob.lst (natsD A[a].ps)]) ?_ e3
        simp [evI, ev, evs, x2, lpE, Py.R.bind, Py.R.lay, lay, ofO]
      rw [show k + d + 1 = k + (d + 1) from rfl] at e5
      have c1 : cmpop g .isin (.d (.int (K[a]'(by omega) : Nat))) (.d (.ref r)) = some false := by simp [cmpop, i1]
      simp [mtF, evSs, evS, ev, evs, x1, c1, b1, q1, e5, line, Py.R.bind, truth, Py.R.test, Py.R.toO, Py.R.lay, Py.O.then, ofO, asg, lay]
/-! ### the law's classes -/
/-- one node of a round: its number -/
theorem kind_turn {k : Nat} {g : G} {A : List Nd} {F : List Nat} {ks : List KeyL} {kr tb fo : Nat} {x : Nd} {out : List Nat} {l2 l3 l7 l8 : Option D} (hk : g[kr]? = some (.lst (natsD F))) (ht : g[tb]? = some (.dt (tbD (tabK ks)))) (ho : g[fo]? = some (.lst (natsD (num ks)))) (hne : tb ≠ fo) (hF : F.length = A.length) (hx : x.ok A.length) (hl : ks.length ≤ 910) :
    ∃ m7 m8, evSs T (runF T (k + 1)) kdB1 [some (grD A), some (.ref kr), l2, l3, some (.ref tb), some (.ref fo), some x.d, l7, l8] g = .nx [some (grD A), some (.ref kr), l2, l3, some (.ref tb), some (.ref fo), some x.d, m7, m8] ((g.set tb (.dt (tbD (tabK (ks ++ [lk F x]))))).set fo (.lst (natsD (num (ks ++ [lk F x]))))) := by
  have tl := tabK_len ks
  have hll : (tbD (tabK ks)).length < 16777216 := by rw [tbD_len]; omega
  have nl : (natsD (num ks)).length < 16777216 := by simp [natsD, num_len]; omega
  have kk := keysOf_kd (lk F x)
  have l1 := tbD_look (tabK ks) (lk F x)
  have htl := (List.getElem?_eq_some_iff.mp ht).1
  -- the two last statements, from the key on
  have last : ∀ m8, evSs T (runF T (k + 1)) (.cons (.ifs (.cmp .notin (.v 7) (.v 4)) (.cons (.setI (.v 4) (.v 7) (.bi .len (.cons (.v 4) .nil))) .nil) .nil) (.cons (.ex (.bm .append (.v 5) (.cons (.ix (.v 4) (.v 7)) .nil))) .nil)) [some (grD A), some (.ref kr), l2, l3, some (.ref tb), some (.ref fo), some x.d, some (kd (lk F x)), m8] g = .nx [some (grD A), some (.ref kr), l2, l3, some (.ref tb), some (.ref fo), some x.d, some (kd (lk F x)), m8] ((g.set tb (.dt (tbD (tabK (ks ++ [lk F x]))))).set fo (.lst (natsD (num (ks ++ [lk F x]))))) := by
    intro m8
    have nn : natsD (num ks) ++ [.int (((addK (tabK ks) (lk F x)).idxOf (lk F x) : Nat) : Int)] = natsD (num (ks ++ [lk F x])) := by rw [num_snoc]; simp [natsD]
    rw [← nn, tabK_snoc]
    generalize lk F x = key at kk l1
    by_cases hm : key ∈ tabK ks
    · rw [if_pos hm] at l1
      have ad : addK (tabK ks) key = tabK ks := by unfold addK; rw [if_pos hm]
      rw [ad, set_same ht]
      simp [evSs, evS, ev, evs, cmpop, isin, keyed, ht, ho, kd, kk, l1, index, btype, bmok, bmeth, nl, line, Py.R.bind, truth, Py.R.test, Py.R.toO, Py.R.lay, Py.O.then, ofO, asg, lay]
    · rw [if_neg hm] at l1
      have ad : addK (tabK ks) key = tabK ks ++ [key] := by unfold addK; rw [if_neg hm]
      have pt := tbD_put hm
      have ix : (tabK ks ++ [key]).idxOf key = (tabK ks).length := by rw [List.idxOf_append, if_neg hm]; simp
      have l2' := tbD_look (tabK ks ++ [key]) key
      rw [if_pos (by simp), ix] at l2'
      rw [ad, ix]
      have ho2 : (g.set tb (.dt (tbD (tabK ks ++ [key]))))[fo]? = some (.lst (natsD (num ks))) := by rw [List.getElem?_set_ne hne]; exact ho
      have ht2 : (g.set tb (.dt (tbD (tabK ks ++ [key]))))[tb]? = some (.dt (tbD (tabK ks ++ [key]))) := List.getElem?_set_self htl
      have q1 : setIx g (.ref tb) (kd key) (.int ((tabK ks).length : Nat)) = some (g.set tb (.dt (tbD (tabK ks ++ [key])))) := by
        simp [setIx, ht, kd, kk, line, hll, pt]
      have b1 : built1 g .len (.d (.ref tb)) = some (.d (.int ((tabK ks).length : Nat))) := by simp [built1, lenOf, ht, tbD_len]
      have c1 : cmpop g .notin (.d (kd key)) (.d (.ref tb)) = some true := by simp [cmpop, isin, keyed, ht, kd, kk, l1]
      have x1 : index (g.set tb (.dt (tbD (tabK ks ++ [key])))) (.d (.ref tb)) (kd key) = some (.int ((tabK ks).length : Nat)) := by simp only [index, ht2, kd, kk, Option.bind_some, l2']
      generalize g.set tb (.dt (tbD (tabK ks ++ [key]))) = g2 at ho2 q1 x1 ⊢
      simp [evSs, evS, ev, evs, c1, b1, q1, x1, ho2, btype, bmok, bmeth, nl, line, Py.R.bind, truth, Py.R.test, Py.R.toO, Py.R.lay, Py.O.then, ofO, asg, lay]
  by_cases htp : ∃ w ps, x = .tup w ps
  · obtain ⟨w, ps, rfl⟩ := htp
    obtain ⟨hp1, hp2⟩ := hx
    have x2 : index g (.d (Nd.tup w ps).d) (.int 0) = some (.str ['t', 'u', 'p', 'l', 'e']) := by simp [Nd.d, index, atI, ixN]
    have x4 : index g (.d (Nd.tup w ps).d) (.int 2) = some (.tup (ndPs ps)) := by simp [Nd.d, index, atI, ixN]
    have e1 : ∀ m7, ev T (runF T (k + 1)) kdC [some (grD A), some (.ref kr), l2, l3, some (.ref tb), some (.ref fo), some (Nd.tup w ps).d, m7, l8] g = .ok (.tmp ((ndPs ps).map fun d => match d with | .int p => .int ((F[p.toNat]?.getD 0 : Nat) : Int) | _ => .non)) g := by
      intro m7
      refine ev_comp (t := .nm 8) (s := .it (.ix (.v 6) (.c (.int 2)))) (c := .c (.bl true)) (e := .ix (.v 1) (.v 8)) (it := .vals (ndPs ps)) (g1 := g) (by simp [evI, ev, x4, Py.R.bind, ofO]) ?_
      refine loopC_map _ (by simp [ndPs, line]; omega) (fun L => by simp [ev, Py.R.test, truth, ofO, Py.R.bind]) fun d hd => ?_
      obtain ⟨p, hp, rfl⟩ := List.mem_map.mp hd
      have h1 : F[p]? = some (F[p]'(by have := hp2 p hp; omega)) := List.getElem?_eq_getElem (by have := hp2 p hp; omega)
      have h2 := at_ints hk h1
      simp [ev, h2, h1, Py.R.bind, Py.R.lay, lay, ofO]
    have e2 : kd (lk F (Nd.tup w ps)) = .tup ([.str ['t', 'u', 'p', 'l', 'e'], .str w] ++ (ndPs ps).map fun d => match d with | .int p => .int ((F[p.toNat]?.getD 0 : Nat) : Int) | _ => .non) := by
      simp [lk, kd, kyD, ndPs]
    have sh : slice g (.d (Nd.tup w ps).d) none (some 2) = some (.d (.tup [.str ['t', 'u', 'p', 'l', 'e'], .str w])) := by simp [Nd.d, slice, cut, sIx]
    have pl : ((ndPs ps).map fun d => match d with | .int p => D.int ((F[p.toNat]?.getD 0 : Nat) : Int) | _ => .non).length ≤ 100 := by simp [ndPs]; exact hp1
    have ls := last l8
    rw [e2] at ls
    generalize ((ndPs ps).map fun d => match d with | .int p => D.int ((F[p.toNat]?.getD 0 : Nat) : Int) | _ => .non) = PS at e1 ls pl
    refine ⟨some (.tup ([.str ['t', 'u', 'p', 'l', 'e'], .str w] ++ PS)), l8, ?_⟩
    rw [← ls]
    generalize hss : (Ss.cons (.ifs (.cmp .notin (.v 7) (.v 4)) _ .nil) _) = rest at ls ⊢
    rw [kdB1, hss]
    generalize (Nd.tup w ps).d = xd at x2 e1 sh ⊢
    have pl2 : 2 + PS.length ≤ 16777216 := by omega
    have pl3 : PS.length ≤ 16777216 := by omega
    simp [evSs, evS, ev, evs, x2, e1, sh, cmpop, trX, tr, eqv, binop, built1, items, line, pl2, pl3, Py.R.bind, truth, Py.R.test, Py.R.toO, Py.R.lay, Py.O.then, ofO, asg, lay]
  · obtain ⟨z, x2, hz⟩ : ∃ z : Tx, index g (.d x.d) (.int 0) = some (.str z) ∧ z ≠ ['t', 'u', 'p', 'l', 'e'] := by
      cases x with
      | tup w ps => exact absurd ⟨w, ps, rfl⟩ htp
      | _ => exact ⟨_, rfl, by simp⟩
    have e2 : kd (lk F x) = x.d := by
      cases x with
      | tup w ps => exact absurd ⟨w, ps, rfl⟩ htp
      | _ => rfl
    have ls := last l8
    rw [e2] at ls
    refine ⟨some x.d, l8, ?_⟩
    rw [← ls]
    generalize hss : (Ss.cons (.ifs (.cmp .notin (.v 7) (.v 4)) _ .nil) _) = rest at ls ⊢
    rw [kdB1, hss]
    generalize x.d = xd at x2
    simp [evSs, evS, ev, evs, x2, hz, cmpop, trX, tr, eqv, Py.R.bind, truth, Py.R.test, Py.R.toO, Py.R.lay, Py.O.then, ofO, asg, lay]
/-- one round: all nodes -/
theorem kind_round {k : Nat} {g : G} {A : List Nd} {F : List Nat} {kr : Nat} {l2 l3 l6 l7 l8 : Option D} (hA : Gok A) (hk : g[kr]? = some (.lst (natsD F))) (hF : F.length = A.length) :
    ∃ m6 m7 m8, evS T (runF T (k + 1)) kdL [some (grD A), some (.ref kr), l2, l3, some (.ref g.length), some (.ref (g.length + 1)), l6, l7, l8] (g ++ [Ob.dt []] ++ [Ob.lst []]) = .nx [some (grD A), some (.ref kr), l2, l3, some (.ref g.length), some (.ref (g.length + 1)), m6, m7, m8] (g ++ [Ob.dt (tbD (tabK (A.map (lk F))))] ++ [Ob.lst (natsD (num (A.map (lk F))))]) := by
  have hlen := hA.len
  have hkl := (List.getElem?_eq_some_iff.mp hk).1
  obtain ⟨L', g', e, ⟨m6, m7, m8, rfl⟩, rfl⟩ : ∃ L' g', loopF (.vals (A.map Nd.d)) (.nm 6) (fun L g => evSs T (runF T (k + 1)) kdB1 L g) fuel 0 [some (grD A), some (.ref kr), l2, l3, some (.ref g.length), some (.ref (g.length + 1)), l6, l7, l8] (g ++ [Ob.dt []] ++ [Ob.lst []]) = .nx L' g' ∧
      ((∃ m6 m7 m8, L' = [some (grD A), some (.ref kr), l2, l3, some (.ref g.length), some (.ref (g.length + 1)), m6, m7, m8]) ∧ g' = g ++ [Ob.dt (tbD (tabK ((A.map (lk F)).take A.length)))] ++ [Ob.lst (natsD (num ((A.map (lk F)).take A.length)))]) := by
    refine loopF_ind (n := A.length) (fun i L g' => (∃ m6 m7 m8, L = [some (grD A), some (.ref kr), l2, l3, some (.ref g.length), some (.ref (g.length + 1)), m6, m7, m8]) ∧ g' = g ++ [Ob.dt (tbD (tabK ((A.map (lk F)).take i)))] ++ [Ob.lst (natsD (num ((A.map (lk F)).take i)))]) (fun i L g' hi ⟨⟨m6, m7, m8, eL⟩, eg⟩ => ?_) (fun L g' _ => by simp [turn]) fuel 0 _ _ (Nat.zero_le _) (by unfold fuel; omega) ⟨⟨_, _, _, rfl⟩, rfl⟩
    subst eL eg
    obtain ⟨m7', m8', e⟩ := kind_turn (T := T) (k := k) (g := g ++ [Ob.dt (tbD (tabK ((A.map (lk F)).take i)))] ++ [Ob.lst (natsD (num ((A.map (lk F)).take i)))]) (A := A) (F := F) (ks := (A.map (lk F)).take i) (kr := kr) (tb := g.length) (fo := g.length + 1) (x := A[i]) (out := []) (l2 := l2) (l3 := l3) (l7 := m7) (l8 := m8) (by rw [List.append_assoc, List.getElem?_append_left hkl]; exact hk) (by simp) (by rw [List.getElem?_append_right (by simp)]; simp) (by omega) hF (hA.nd _ (List.getElem_mem hi)) (by simp; omega)
    refine ⟨A[i].d, _, by simp [turn, hi], rfl, _, _, .inl e, ⟨_, _, _, rfl⟩, ?_⟩
    have tk : (A.map (lk F)).take (i + 1) = (A.map (lk F)).take i ++ [lk F A[i]] := by rw [List.take_add_one]; simp [hi]
    rw [tk]
    rw [List.set_append_left _ _ (by simp), List.set_append_right _ _ (Nat.le_refl _), List.set_append_right _ _ (by simp)]
    simp
  refine ⟨m6, m7, m8, ?_⟩
  have tl : (A.map (lk F)).take A.length = A.map (lk F) := by rw [List.take_of_length_le (by simp)]
  rw [tl] at e
  exact ev_for (t := .nm 6) (s := .it (.v 0)) (b := kdB1) (it := .vals (A.map Nd.d)) (g1 := g ++ [Ob.dt []] ++ [Ob.lst []]) (by simp [evI, ev, grD, Py.R.bind]) e
theorem kinds_loop {k : Nat} {g : G} {A : List Nd} {N kr : Nat} {F R : List Nat} {b c : Nat} {l4 l5 l6 l7 l8 : Option D} (hA : Gok A) (hN : N ≤ g.length) (hk : g[kr]? = some (.lst (natsD F))) (hkN : N ≤ kr) (hF : F.length = A.length) (hc : c ≤ A.length) {n : Nat} (hn : A.length + 1 - b < n) (hR : lkG A n b c F = R) :
    ∃ g' kr' m2 m3 m4 m5 m6 m7 m8, N ≤ kr' ∧ g'[kr']? = some (.lst (natsD R)) ∧ R.length = A.length ∧ Old N g g' ∧ evS T (runF T (k + 1)) kdW [some (grD A), some (.ref kr), some (.int (b : Nat)), some (.int (c : Nat)), l4, l5, l6, l7, l8] g = .nx [some (grD A), some (.ref kr'), m2, m3, m4, m5, m6, m7, m8] g' := by
  have hlen := hA.len
  have key := loopW_ind (c := fun L g => (ev T (runF T (k + 1)) (.cmp .gt (.v 3) (.v 2)) L g).test) (body := fun L g => evSs T (runF T (k + 1)) kdB3 L g)
    (Q := fun o' => ∃ g' kr' m2 m3 m4 m5 m6 m7 m8, N ≤ kr' ∧ g'[kr']? = some (.lst (natsD R)) ∧ R.length = A.length ∧ Old N g g' ∧ o' = .nx [some (grD A), some (.ref kr'), m2, m3, m4, m5, m6, m7, m8] g')
    (fun m L g' => ∃ kr b c F l4 l5 l6 l7 l8, L = [some (grD A), some (.ref kr), some (.int ((b : Nat) : Int)), some (.int ((c : Nat) : Int)), l4, l5, l6, l7, l8] ∧ N ≤ g'.length ∧ g'[kr]? = some (.lst (natsD F)) ∧ N ≤ kr ∧ F.length = A.length ∧ c ≤ A.length ∧ Old N g g' ∧ (∃ n, m < n ∧ lkG A n b c F = R) ∧ m = A.length + 1 - b)
    (fun m L g' ⟨kr, b, c, F, l4, l5, l6, l7, l8, eL, hN, hk, hkN, hF, hc, ho, ⟨n, hn, hR⟩, hm⟩ => ?_) fuel (A.length + 1 - b) _ g (by unfold fuel; omega) ⟨kr, b, c, F, l4, l5, l6, l7, l8, rfl, hN, hk, hkN, hF, hc, .refl N g, ⟨n, hn, hR⟩, rfl⟩
  · obtain ⟨g', kr', m2, m3, m4, m5, m6, m7, m8, h1, h2, h3, h4, h5⟩ := key
    exact ⟨g', kr', m2, m3, m4, m5, m6, m7, m8, h1, h2, h3, h4, by simpa only [kdW, evS] using h5⟩
  subst eL
  obtain ⟨n, rfl⟩ : ∃ n', n = n' + 1 := ⟨n - 1, by omega⟩
  rw [lkG] at hR
  by_cases hlt : b < c
  · right
    rw [if_pos hlt] at hR
    obtain ⟨m6, m7, m8, e⟩ := kind_round (T := T) (k := k) (g := g') (A := A) (F := F) (kr := kr) (l2 := some (.int (c : Nat))) (l3 := some (.int (c : Nat))) (l6 := l6) (l7 := l7) (l8 := l8) hA hk hF
    have tl := tabK_len (A.map (lk F))
    rw [List.length_map] at tl
    have b1 : built1 (g' ++ [Ob.dt (tbD (tabK (A.map (lk F))))] ++ [Ob.lst (natsD (num (A.map (lk F))))]) .len (.d (.ref g'.length)) = some (.d (.int ((tabK (A.map (lk F))).length : Nat))) := by simp [built1, lenOf, tbD_len]
    refine ⟨g', ?_, .inl ⟨A.length + 1 - c, _, g' ++ [Ob.dt (tbD (tabK (A.map (lk F))))] ++ [Ob.lst (natsD (num (A.map (lk F))))], .inl ?_, by omega, g'.length + 1, c, (tabK (A.map (lk F))).length, num (A.map (lk F)), some (.ref g'.length), some (.ref (g'.length + 1)), m6, m7, m8, rfl, by simp; omega, by rw [List.getElem?_append_right (by simp)]; simp, by omega, by rw [num_len]; simp, tl, (ho.trans (Old.push hN)).trans (Old.push (by simp; omega)), ⟨n, by omega, hR⟩, rfl⟩⟩
    · have : (b : Int) < (c : Int) := by omega
      simp [ev, cmpop, this, Py.R.bind, Py.R.test, truth, ofO]
    · simp only [List.append_assoc, List.cons_append, List.nil_append] at e b1 ⊢
      simp [kdB3, evSs, evS, ev, evs, e, b1, Py.R.bind, truth, Py.R.test, Py.R.toO, Py.R.lay, Py.O.then, ofO, asg, lay]
  · left
    rw [if_neg hlt] at hR
    subst hR
    have : ¬ (b : Int) < (c : Int) := by omega
    exact ⟨g', by simp [ev, cmpop, this, Py.R.bind, Py.R.test, truth, ofO], g', kr, _, _, _, _, _, _, _, hkN, hk, hF, ho, rfl⟩
theorem kinds_s1 {cf : Cf} {GA : D} {g : G} {Z : List D} {m2 m3 m4 m5 m6 m7 m8 : Option D} {n : Int} (b1 : built1 g .len (.d GA) = some (.d (.int n))) (b2 : binop g .mul (.tmp [.int 0]) (.d (.int n)) = some (.tmp Z)) :
    evS T cf (.set (.nm 1) (.bin .mul (.lst (.cons (.c (.int 0)) .nil)) (.bi .len (.cons (.v 0) .nil)))) [some GA, none, m2, m3, m4, m5, m6, m7, m8] g = .nx [some GA, some (.ref g.length), m2, m3, m4, m5, m6, m7, m8] (g ++ [Ob.lst Z]) := by
  have ln : 1 ≤ line := by decide
  simp [evS, ev, evs, b1, b2, ln, Py.R.bind, Py.R.toO, Py.R.lay, Py.O.then, ofO, asg, lay]
theorem law_kinds (hKd : T.fn kd = some kdF) {k : Nat} {g : G} {A : List Nd} (hA : Gok A) (h0 : 0 < A.length) : ∃ g' kr, runF T (k + 2) kd [grD A] g = .ok (.ref kr) g' ∧ g.length ≤ kr ∧ g'[kr]? = some (.lst (natsD (lcls A))) ∧ Old g.length g g' := by
  have hlen := hA.len
  obtain ⟨g', kr, m2, m3, m4, m5, m6, m7, m8, h1, h2, h3, h4, e⟩ := kinds_loop (T := T) (k := k) (g := g ++ [Ob.lst (natsD (List.replicate A.length 0))]) (A := A) (N := g.length) (kr := g.length) (F := List.replicate A.length 0) (R := lcls A) (b := 0) (c := 1) (l4 := none) (l5 := none) (l6 := none) (l7 := none) (l8 := none) hA (by simp) (by simp) (Nat.le_refl _) (by simp) h0 (n := A.length + 2) (by omega) (by unfold lcls; rfl)
  refine ⟨g', kr, runF_rt hKd rfl ?_, h1, h2, (Old.push (Nat.le_refl _)).trans h4⟩
  have b1 : built1 g .len (.d (grD A)) = some (.d (.int (A.length : Nat))) := by simp [built1, lenOf, items, grD]
  have b2 : binop g .mul (.tmp [.int 0]) (.d (.int (A.length : Nat))) = some (.tmp (natsD (List.replicate A.length 0))) := by
    have : A.length ≤ 16777216 := by omega
    have h2 : (A.length : Int) < 4611686018427387904 := by omega
    simp [binop, listOf, natsD, line, this, h2]
  have z0 : ((0 : Nat) : Int) = 0 := rfl
  have z1 : ((1 : Nat) : Int) = 1 := rfl
  rw [z0, z1] at e
  generalize natsD (List.replicate A.length 0) = Z at b2 e
  generalize grD A = GA at b1 e ⊢
  have s1 := kinds_s1 (T := T) (cf := runF T (k + 1)) (m2 := none) (m3 := none) (m4 := none) (m5 := none) (m6 := none) (m7 := none) (m8 := none) b1 b2
  show evSs T (runF T (k + 1)) kdF.body [some GA, none, none, none, none, none, none, none, none] g = _
  rw [kdF]
  rw [run_ss (b := .cons _ _) s1 rfl]
  simp only [ss1]
  generalize kdW = W at e ⊢
  simp [evSs, evS, ev, evs, e, Py.R.bind, Py.R.toO, Py.R.lay, Py.O.then, ofO, asg, lay]
theorem fnd_find (K f : List Nat) {n : Nat} (h : n ∈ f.map fun b => K[b]?.getD 0) : look (KY.i (n : Nat)) (fnd K f) = some (.tup [.int ((f.map fun b => K[b]?.getD 0).idxOf n : Nat), .int ((f[(f.map fun b => K[b]?.getD 0).idxOf n]?.getD 0 : Nat) : Int)]) := by
  have gen : ∀ (f : List Nat) (m : Nat), n ∈ (f.map fun b => K[b]?.getD 0) → look (KY.i (n : Nat)) ((f.zipIdx m).map fun p => (KY.i ((K[p.1]?.getD 0 : Nat) : Int), D.tup [.int (p.2 : Nat), .int (p.1 : Nat)])) = some (.tup [.int (((f.map fun b => K[b]?.getD 0).idxOf n + m : Nat) : Int), .int ((f[(f.map fun b => K[b]?.getD 0).idxOf n]?.getD 0 : Nat) : Int)]) := by
    intro f
    induction f with
    | nil => intro m h; simp at h
    | cons b f ih =>
      intro m h
      rw [List.zipIdx_cons, List.map_cons, look, List.map_cons, List.idxOf_cons]
      by_cases e : K[b]?.getD 0 = n
      · subst e
        simp
      · have h2 : ¬ (KY.i ((K[b]?.getD 0 : Nat) : Int)) = KY.i (n : Nat) := fun q => e (by simp at q; omega)
        have h4 : (K[b]?.getD 0 == n) = false := by simpa using e
        rw [if_neg h2, h4]
        have h5 : n ∈ f.map fun b => K[b]?.getD 0 := by
          rcases List.mem_cons.mp (by simpa using h : n ∈ (K[b]?.getD 0) :: f.map fun b => K[b]?.getD 0) with q | q
          · exact absurd q.symm e
          · exact q
        rw [ih (m + 1) h5]
        simp
        omega
  exact gen f 0 h
theorem fnd_keys (K f : List Nat) : (fnd K f).map (fun p => kyV p.1) = f.map fun b => .int ((K[b]?.getD 0 : Nat) : Int) := by
  unfold fnd
  rw [List.map_map]
  have : ((fun p : KY × D => kyV p.1) ∘ fun p : Nat × Nat => (KY.i ((K[p.1]?.getD 0 : Nat) : Int), D.tup [.int (p.2 : Nat), .int (p.1 : Nat)])) = (fun b : Nat => D.int ((K[b]?.getD 0 : Nat) : Int)) ∘ Prod.fst := rfl
  rw [this, ← List.map_map, List.zipIdx_map_fst]
/-- one class of the law's least graph -/
theorem lw_out {k : Nat} {g : G} {A : List Nd} {K f : List Nat} {kr r fo a : Nat} {l5 l6 : Option D} {x : Nd} {out : List Nd} (hk : g[kr]? = some (.lst (natsD K))) (hr : g[r]? = some (.fz (fnd K f))) (hfo : g[fo]? = some (.lst (out.map Nd.d)))
    (ha : a ∈ f) (hn : (f.map fun b => K[b]?.getD 0).Nodup) (hx : A[a]? = some x) (hp : x.ok A.length) (hK : K.length = A.length) (hc : ∀ p ∈ x.ps, K[p]?.getD 0 ∈ f.map fun b => K[b]?.getD 0) (hl : out.length ≤ 1000) :
    ∃ m5 m6, evSs T (runF T (k + 1)) lwB [some (grD A), some (.ref kr), some (.ref r), some (.ref fo), some (.int ((K[a]?.getD 0 : Nat) : Int)), l5, l6] g = .nx [some (grD A), some (.ref kr), some (.ref r), some (.ref fo), some (.int ((K[a]?.getD 0 : Nat) : Int)), m5, m6] (g.set fo (.lst ((out ++ [x.re fun p => (f.map fun b => K[b]?.getD 0).idxOf (K[p]?.getD 0)]).map Nd.d))) := by
  have x1 : index g (.d (grD A)) (.int (a : Nat)) = some x.d := at_gr hx
  have ol : (out.map Nd.d).length < 16777216 := by simp; omega
  have fin : ∀ y : Nd, out.map Nd.d ++ [y.d] = (out ++ [y]).map Nd.d := fun y => by simp
  obtain ⟨i, hi, rfl⟩ := List.getElem_of_mem ha
  have hid : (f.map fun b => K[b]?.getD 0).idxOf (K[f[i]]?.getD 0) = i := by
    have := hn.idxOf_getElem i (by simpa using hi)
    simpa using this
  have fd := fnd_find K f (n := K[f[i]]?.getD 0) (List.mem_map.mpr ⟨_, ha, rfl⟩)
  rw [hid, List.getElem?_eq_getElem hi, Option.getD_some] at fd
  have y1 : index g (.d (.ref r)) (.int ((K[f[i]]?.getD 0 : Nat) : Int)) = some (.tup [.int (i : Nat), .int (f[i] : Nat)]) := by simp only [index, hr, kyOf, Option.bind_some, fd]
  have y2 : index g (.d (.tup [.int (i : Nat), .int (f[i] : Nat)])) (.int 1) = some (.int (f[i] : Nat)) := by simp [index, atI, ixN]
  generalize K[f[i]]?.getD 0 = c at y1 ⊢
  by_cases ht : ∃ w ps, x = .tup w ps
  · obtain ⟨wd, ps, rfl⟩ := ht
    obtain ⟨hp1, hp2⟩ := hp
    simp only [Nd.ps] at hc
    have x2 : index g (.d (Nd.tup wd ps).d) (.int 0) = some (.str ['t', 'u', 'p', 'l', 'e']) := by simp [Nd.d, index, atI, ixN]
    have x4 : index g (.d (Nd.tup wd ps).d) (.int 2) = some (.tup (ndPs ps)) := by simp [Nd.d, index, atI, ixN]
    have sh : slice g (.d (Nd.tup wd ps).d) none (some 2) = some (.d (.tup [.str ['t', 'u', 'p', 'l', 'e'], .str wd])) := by simp [Nd.d, slice, cut, sIx]
    have e1 : ev T (runF T (k + 1)) lwC [some (grD A), some (.ref kr), some (.ref r), some (.ref fo), some (.int (c : Nat)), some (Nd.tup wd ps).d, l6] g = .ok (.tmp ((ndPs ps).map fun d => match d with | .int p => .int (((f.map fun b => K[b]?.getD 0).idxOf (K[p.toNat]?.getD 0) : Nat) : Int) | _ => .non)) g := by
      refine ev_comp (t := .nm 6) (s := .it (.ix (.v 5) (.c (.int 2)))) (c := .c (.bl true)) (e := .ix (.ix (.v 2) (.ix (.v 1) (.v 6))) (.c (.int 0))) (it := .vals (ndPs ps)) (g1 := g) (by simp [evI, ev, x4, Py.R.bind, ofO]) ?_
      refine loopC_map _ (by simp [ndPs, line]; omega) (fun L => by simp [ev, Py.R.test, truth, ofO, Py.R.bind]) fun d hd => ?_
      obtain ⟨p, hp, rfl⟩ := List.mem_map.mp hd
      have hpK : p < K.length := by have := hp2 p hp; omega
      have h1 : K[p]? = some K[p] := List.getElem?_eq_getElem hpK
      have h2 := at_ints hk h1
      have h3 := hc p hp
      rw [h1] at h3
      simp only [Option.getD_some] at h3
      have lk := fnd_find K f h3
      have h4 : index g (.d (.ref r)) (.int (K[p] : Nat)) = some (.tup [.int ((f.map fun b => K[b]?.getD 0).idxOf K[p] : Nat), .int ((f[(f.map fun b => K[b]?.getD 0).idxOf K[p]]?.getD 0 : Nat) : Int)]) := by simp only [index, hr, kyOf, Option.bind_some, lk]
      generalize (f[(f.map fun b => K[b]?.getD 0).idxOf K[p]]?.getD 0) = z at h4
      have h5 : ∀ (u : Int), index g (.d (.tup [.int u, .int (z : Nat)])) (.int 0) = some (.int u) := fun u => by simp [index, atI, ixN]
      simp [ev, h2, h4, h5, h1, Py.R.bind, Py.R.lay, lay, ofO]
    have e2 : (Nd.re (fun p => (f.map fun b => K[b]?.getD 0).idxOf (K[p]?.getD 0)) (Nd.tup wd ps)).d = .tup ([.str ['t', 'u', 'p', 'l', 'e'], .str wd] ++ [.tup ((ndPs ps).map fun d => match d with | .int p => .int (((f.map fun b => K[b]?.getD 0).idxOf (K[p.toNat]?.getD 0) : Nat) : Int) | _ => .non)]) := by
      simp [Nd.re, Nd.d, ndPs]
    have pl : ((ndPs ps).map fun d => match d with | .int p => D.int (((f.map fun b => K[b]?.getD 0).idxOf (K[p.toNat]?.getD 0) : Nat) : Int) | _ => .non).length ≤ 100 := by simp [ndPs]; exact hp1
    have f2 := fin ((Nd.tup wd ps).re fun p => (f.map fun b => K[b]?.getD 0).idxOf (K[p]?.getD 0))
    rw [← f2, e2]
    generalize (Nd.tup wd ps).d = xd at x1 x2 sh e1
    generalize ((ndPs ps).map fun d => match d with | .int p => D.int (((f.map fun b => K[b]?.getD 0).idxOf (K[p.toNat]?.getD 0) : Nat) : Int) | _ => .non) = PS at e1 pl ⊢
    generalize out.map Nd.d = OUT at hfo ol ⊢
    have pl3 : PS.length ≤ 16777216 := by omega
    have b2 : ∀ g : G, binop g .add (.d (.tup [.str ['t', 'u', 'p', 'l', 'e'], .str wd])) (.d (.tup [.tup PS])) = some (.d (.tup ([.str ['t', 'u', 'p', 'l', 'e'], .str wd] ++ [.tup PS]))) := fun g => by simp [binop, line]
    refine ⟨some (.tup ([.str ['t', 'u', 'p', 'l', 'e'], .str wd] ++ [.tup PS])), l6, ?_⟩
    generalize ([.str ['t', 'u', 'p', 'l', 'e'], .str wd] ++ [.tup PS] : List D) = RW at b2 ⊢
    simp [lwB, evSs, evS, ev, evs, y1, y2, x1, x2, sh, e1, b2, hfo, ol, cmpop, trX, tr, eqv, Py.R.bind, truth, Py.R.test, Py.R.toO, Py.R.lay, Py.O.then, ofO, asg, lay, built1, items, btype, bmok, bmeth, line]
  · obtain ⟨z, x2, hz⟩ : ∃ z : Tx, index g (.d x.d) (.int 0) = some (.str z) ∧ z ≠ ['t', 'u', 'p', 'l', 'e'] := by
      cases x with
      | tup w ps => exact absurd ⟨w, ps, rfl⟩ ht
      | _ => exact ⟨_, rfl, by simp⟩
    have e2 : x.re (fun p => (f.map fun b => K[b]?.getD 0).idxOf (K[p]?.getD 0)) = x := by
      cases x with
      | tup w ps => exact absurd ⟨w, ps, rfl⟩ ht
      | _ => rfl
    rw [e2, ← fin x]
    generalize x.d = xd at x1 x2
    generalize out.map Nd.d = OUT at hfo ol ⊢
    refine ⟨some xd, l6, ?_⟩
    simp [lwB, evSs, evS, ev, evs, y1, y2, x1, x2, hz, hfo, ol, cmpop, trX, tr, eqv, Py.R.bind, truth, Py.R.test, Py.R.toO, Py.R.lay, Py.O.then, ofO, asg, lay, built1, items, btype, bmok, bmeth, line]
theorem Keep.old {r N : Nat} {g g' : G} (h : Keep r g g') (hr : N ≤ r) (hN : N ≤ g.length) : Old N g g' := fun n hn => by
  obtain ⟨o, e⟩ : ∃ o, g[n]? = some o := ⟨g[n]'(by omega), List.getElem?_eq_getElem (by omega)⟩
  rw [e]
  exact h n o (by omega) e
theorem least_body {cf : Cf} {GA : D} {LL : List D} {g g1 g2 gz : G} {kr : Nat} {m4 m5 m6 : Option D} {W : S} (e1 : cf kd [GA] g = .ok (.ref kr) g1) (e2 : cf mt [GA, .ref kr, .int 0, .ref g1.length] (g1 ++ [Ob.dk []]) = .ok .non g2)
  (e5 : evS T cf W [some GA, some (.ref kr), some (.ref g1.length), some (.ref g2.length), none, none, none] (g2 ++ [.lst []]) = .nx [some GA, some (.ref kr), some (.ref g1.length), some (.ref g2.length), m4, m5, m6] gz) (hf : gz[g2.length]? = some (.lst LL)) :
  evSs T cf (.cons (.set (.nm 1) (.call kd (.cons (.v 0) .nil))) (.cons (.set (.nm 2) .dnk) (.cons (.ex (.call mt (.cons (.v 0) (.cons (.v 1) (.cons (.c (.int 0)) (.cons (.v 2) .nil)))))) (.cons (.set (.nm 3) (.lst .nil)) (.cons W (.cons (.ret (.bi .tuple (.cons (.v 3) .nil))) .nil)))))) [some GA, none, none, none, none, none, none] g = .rt (.tup LL) gz := by
  simp [evSs, evS, ev, evs, e1, e2, e5, hf, Py.R.bind, Py.R.toO, Py.R.lay, Py.O.then, ofO, asg, lay, built1, items, line]
/-- the law's least graph is the program's -/
theorem law_least_d (hL : T.fn lp = some lpF) (hMt : T.fn mt = some (mtF lp mt)) (hKd : T.fn kd = some kdF) (hLw : T.fn lw = some (lwF kd mt)) {k dp : Nat} {g : G} {A : List Nd} (hA : Gok A) (h0 : 0 < A.length) {M : Nat → List Nat → Nat}
    (hM : ∀ (a : Nat) (f : List Nat) (p : Nat) (f' : List Nat), a < A.length → FOk A (lcls A) (f ++ [a]) → p ∈ (A[a]?.getD (.var 0)).ps → f.length < f'.length → FOk A (lcls A) f' → M p f' < M a f) (hM0 : M 0 [] < dp) : ∃ g', runF T (k + dp + 3) lw [grD A] g = .ok (grD (leastL A)) g' ∧ Old g.length g g' := by
  have hlen := hA.len
  obtain ⟨g1, kr, e1, n1, hk, o1⟩ := law_kinds hKd (k := k + dp) (g := g) hA h0
  have hkl := (List.getElem?_eq_some_iff.mp hk).1
  obtain ⟨lK, _⟩ := lcls_len_bis hA.nd h0
  have gl : g.length ≤ g1.length := by omega
  have f0 : fnd (lcls A) [] = [] := rfl
  obtain ⟨g2, e2, k2, hr⟩ := met hL hMt (K := lcls A) (kr := kr) (r := g1.length) hA lK (by omega) hM (dp + 1) (A.length + 1) k 0 [] (g1 ++ [Ob.dk []]) (by rw [List.getElem?_append_left hkl]; exact hk) (by rw [f0]; simp) ⟨by simp, by simp⟩ h0 (by simp) (by omega)
  rw [met_firsts hA h0 (Nat.lt_succ_self _)] at hr
  obtain ⟨fl, ok⟩ := firsts_fst hA h0
  have ok3 : LsOk A (lcls A) (firsts A) [] := by
    obtain ⟨h1, h2, h3⟩ := met_fst (K := lcls A) hA (A.length + 1) [0] [] ⟨by simp, by simp⟩ (fun a ha => by simp at ha; omega) (by simp)
    rw [met_firsts hA h0 (Nat.lt_succ_self _)] at h1
    refine ⟨h1.nd, fun a ha => ok.f_ a ha, by simp, ?_⟩
    intro a ha p hp
    have hal := ok.f_ a ha
    have hpl : p < A.length := by
      rw [List.getElem?_eq_getElem hal] at hp
      exact (A[a].ok_ps (hA.nd _ (List.getElem_mem hal))).2 p hp
    rcases ok.cl a ha p hp with q | q
    · exact .inl ((mem_rel lK (cls_bis hA.nd).1 (fun i j hi hj => lcls_cls hA.nd h0 hi hj) ok.f_ hpl).mpr q)
    · exact .inr q
  have hfl := ok3.len
  have hrl := (List.getElem?_eq_some_iff.mp hr).1
  have hk2 : g2[kr]? = some (.lst (natsD (lcls A))) := k2 _ _ (by omega) (by rw [List.getElem?_append_left hkl]; exact hk)
  have G0 : (g2.set g1.length (.fz (fnd (lcls A) (firsts A))))[g1.length]? = some (.fz (fnd (lcls A) (firsts A))) := List.getElem?_set_self hrl
  have Gk : (g2.set g1.length (.fz (fnd (lcls A) (firsts A))))[kr]? = some (.lst (natsD (lcls A))) := by rw [List.getElem?_set_ne (by omega)]; exact hk2
  have Gl : (g2.set g1.length (.fz (fnd (lcls A) (firsts A)))).length = g2.length := by simp
  have GS : ∀ x : Ob, (g2 ++ [x]).set g1.length (.fz (fnd (lcls A) (firsts A))) = g2.set g1.length (.fz (fnd (lcls A) (firsts A))) ++ [x] := fun x => by rw [List.set_append_left _ _ hrl]
  have klt : kr < g2.length := (List.getElem?_eq_some_iff.mp hk2).1
  have GO : Old g.length g2 (g2.set g1.length (.fz (fnd (lcls A) (firsts A)))) := Old.set gl
  have key : ∀ gg : G, gg = g2.set g1.length (.fz (fnd (lcls A) (firsts A))) → ∃ L' g', loopF (.vals ((firsts A).map fun b => .int (((lcls A)[b]?.getD 0 : Nat) : Int))) (.nm 4) (fun L g => evSs T (runF T (k + dp + 2)) lwB L g) fuel 0 [some (grD A), some (.ref kr), some (.ref g1.length), some (.ref g2.length), none, none, none] (gg ++ [.lst []]) = .nx L' g' ∧
      ((∃ m4 m5 m6, L' = [some (grD A), some (.ref kr), some (.ref g1.length), some (.ref g2.length), m4, m5, m6]) ∧ g' = gg ++ [.lst (((leastW A).take (firsts A).length).map Nd.d)]) := by
    intro gg eg
    rw [← eg] at G0 Gk Gl
    refine loopF_ind (n := (firsts A).length) (fun i L g' => (∃ m4 m5 m6, L = [some (grD A), some (.ref kr), some (.ref g1.length), some (.ref g2.length), m4, m5, m6]) ∧ g' = gg ++ [.lst (((leastW A).take i).map Nd.d)]) (fun i L g' hi ⟨⟨m4, m5, m6, eL⟩, eg⟩ => ?_) (fun L g' ⟨_, eg⟩ => by simp [turn]) fuel 0 _ _ (Nat.zero_le _) (by unfold fuel; omega) ⟨⟨none, none, none, rfl⟩, rfl⟩
    subst eL eg
    have ha := ok3.f_ _ (List.getElem_mem hi)
    have kg : kr < gg.length := by omega
    have rg' : g1.length < gg.length := by omega
    have hx : A[(firsts A)[i]]? = some A[(firsts A)[i]] := List.getElem?_eq_getElem ha
    have hc : ∀ p ∈ A[(firsts A)[i]].ps, (lcls A)[p]?.getD 0 ∈ (firsts A).map fun b => (lcls A)[b]?.getD 0 := fun p hp => by
      rcases ok3.cl _ (List.getElem_mem hi) p (by rw [hx]; exact hp) with q | q
      · exact q
      · cases q
    have lt : ((leastW A).take i).length ≤ 1000 := by simp; omega
    obtain ⟨m5', m6', e⟩ := lw_out (T := T) (k := k + dp + 1) (kr := kr) (l5 := m5) (l6 := m6) (g := gg ++ [Ob.lst (((leastW A).take i).map Nd.d)]) (r := g1.length) (fo := g2.length) (f := firsts A) (by rw [List.getElem?_append_left (by omega)]; exact Gk) (by rw [List.getElem?_append_left (by omega)]; exact G0) (by rw [← Gl]; simp) (List.getElem_mem hi) ok3.nd hx (hA.nd _ (List.getElem_mem ha)) lK hc lt
    have se : ∀ x y : Ob, (gg ++ [x]).set g2.length y = gg ++ [y] := fun x y => by rw [← Gl]; exact set_end _ _ _
    rw [se, show k + dp + 1 + 1 = k + dp + 2 from rfl] at e
    refine ⟨.int (((lcls A)[(firsts A)[i]]?.getD 0 : Nat) : Int), _, by simp [turn, hi], rfl, _, _, .inl e, ⟨_, _, _, rfl⟩, ?_⟩
    have li : (leastW A)[i]? = some (A[(firsts A)[i]].re fun p => ((firsts A).map fun b => (lcls A)[b]?.getD 0).idxOf ((lcls A)[p]?.getD 0)) := by
      simp [leastW, hi, hx]
    rw [List.take_add_one, li]
    rfl
  obtain ⟨L', g', e4, ⟨m4, m5, m6, rfl⟩, eg'⟩ := key _ rfl
  have ll : (leastW A).length = (firsts A).length := by simp [leastW]
  rw [← ll, List.take_length, leastW_eq hA h0] at eg'
  have e5 : evS T (runF T (k + dp + 2)) lwL [some (grD A), some (.ref kr), some (.ref g1.length), some (.ref g2.length), none, none, none] (g2 ++ [.lst []]) = .nx [some (grD A), some (.ref kr), some (.ref g1.length), some (.ref g2.length), m4, m5, m6] (g'.set g1.length (.dk (fnd (lcls A) (firsts A)))) := by
    have hr2 : (g2 ++ [Ob.lst []])[g1.length]? = some (.dk (fnd (lcls A) (firsts A))) := by rw [List.getElem?_append_left hrl]; exact hr
    have hz : g'[g1.length]? = some (.fz (fnd (lcls A) (firsts A))) := by rw [eg', List.getElem?_append_left (by omega)]; exact G0
    rw [lwL, evS]
    show (match (g2 ++ [Ob.lst []])[g1.length]? with
      | some (.dk kvs) => _
      | _ => O.bad) = _
    rw [hr2]
    simp only []
    rw [fnd_keys, GS, e4, unfz, hz]
  have fin : ∃ g'', evSs T (runF T (k + dp + 2)) (lwF kd mt).body [some (grD A), none, none, none, none, none, none] g = .rt (grD (leastL A)) g'' ∧ Old g.length g g'' := by
    have hf : (g'.set g1.length (.dk (fnd (lcls A) (firsts A))))[g2.length]? = some (.lst ((leastL A).map Nd.d)) := by
      rw [List.getElem?_set_ne (by omega), eg', ← Gl]
      simp
    have old : Old g.length g (g'.set g1.length (.dk (fnd (lcls A) (firsts A)))) := by
      refine (((o1.trans (Old.push gl)).trans (Keep.old k2 gl (by simp; omega))).trans ?_).trans (Old.set gl)
      rw [eg']
      exact GO.trans (Old.push (by rw [Gl]; omega))
    generalize g'.set g1.length (.dk (fnd (lcls A) (firsts A))) = gz at e5 hf old
    refine ⟨gz, ?_, old⟩
    have z0 : ((0 : Nat) : Int) = 0 := rfl
    rw [show k + (dp + 1) + 1 = k + dp + 2 by omega, z0] at e2
    exact least_body e1 e2 e5 hf
  obtain ⟨g'', e6, old⟩ := fin
  exact ⟨g'', runF_rt hLw rfl e6, old⟩
/-- .. of a graph of any shape: the depth by the nodes -/
theorem law_least_n (hL : T.fn lp = some lpF) (hMt : T.fn mt = some (mtF lp mt)) (hKd : T.fn kd = some kdF) (hLw : T.fn lw = some (lwF kd mt)) {k : Nat} {g : G} {A : List Nd} (hA : Gok A) (h0 : 0 < A.length) : ∃ g', runF T (k + A.length + 4) lw [grD A] g = .ok (grD (leastL A)) g' ∧ Old g.length g g' :=
  law_least_d hL hMt hKd hLw (k := k) (dp := A.length + 1) hA h0 (M := fun _ f => A.length - f.length) (fun a f p f' _ _ _ h ok => by have := ok.len; omega) (by simp)

end
end Py.Gr
set_option linter.all false
set_option maxRecDepth 100000
set_option maxHeartbeats 1000000
namespace K06
open Py Py.Gr
theorem tf0 : T.fn 0 = some fn0 := rfl
theorem tf1 : T.fn 1 = some fn1 := rfl
theorem tf2 : T.fn 2 = some fn2 := rfl
theorem tf3 : T.fn 3 = some fn3 := rfl
theorem tf4 : T.fn 4 = some fn4 := rfl
theorem tf5 : T.fn 5 = some fn5 := rfl
theorem tf6 : T.fn 6 = some fn6 := rfl
theorem tf7 : T.fn 7 = some fn7 := rfl
theorem tf8 : T.fn 8 = some fn8 := rfl
theorem tf9 : T.fn 9 = some fn9 := rfl
theorem tf10 : T.fn 10 = some fn10 := rfl
theorem tf11 : T.fn 11 = some fn11 := rfl
theorem tf12 : T.fn 12 = some fn12 := rfl
theorem tf13 : T.fn 13 = some fn13 := rfl
theorem tf14 : T.fn 14 = some fn14 := rfl
theorem tf15 : T.fn 15 = some fn15 := rfl
theorem tf16 : T.fn 16 = some fn16 := rfl
theorem tf17 : T.fn 17 = some fn17 := rfl
theorem tf18 : T.fn 18 = some fn18 := rfl
theorem tf19 : T.fn 19 = some fn19 := rfl
theorem tf20 : T.fn 20 = some fn20 := rfl
theorem tf21 : T.fn 21 = some fn21 := rfl
theorem tf22 : T.fn 22 = some fn22 := rfl
theorem tf23 : T.fn 23 = some fn23 := rfl
/-- the levels below l -/
def preP (m l : Nat) : List Pr := (List.range l).flatMap fun l => (List.range m).map fun n => (n, l)
theorem preP_succ (m l : Nat) : preP m (l + 1) = preP m l ++ (List.range m).map fun n => (n, l) := by
  unfold preP
  rw [List.range_succ, List.flatMap_append]
  simp
theorem preP_len (m l : Nat) : (preP m l).length = m * l := by
  induction l with
  | zero => simp [preP]
  | succ l ih => rw [preP_succ, List.length_append, ih]; simp [Nat.mul_succ]
def fR (m : Nat) (p : Pr) : Nat := p.1 + m * p.2
theorem eq_nats (g : G) (a b : Nat) : cmpop g .eq (.d (.int (a : Nat))) (.d (.int (b : Nat))) = some (decide (a = b)) := by
  have : decide ((a : Int) = (b : Int)) = decide (a = b) := by
    rw [Bool.eq_iff_iff, decide_eq_true_eq, decide_eq_true_eq]
    omega
  simp only [cmpop, trX, tr, eqv, this]
theorem small_nat {n : Nat} (h : n ≤ 100000) : small (n : Int) = true := by
  have h1 : -(2 ^ 64 : Int) < (n : Int) := by omega
  have h2 : (n : Int) < 2 ^ 64 := by omega
  simp only [small, Bool.and_eq_true, decide_eq_true_eq]
  exact ⟨h1, h2⟩
section
variable {k : Nat} {g : G}
theorem lc_part0 {cf : Cf} {m0 m1 m2 m5 : Option D} {a b c y z w : Int} (b1 : binop g .add (.d (.int b)) (.d (.int 1)) = some (.d (.int y))) (b2 : binop g .mul (.d (.int a)) (.d (.int y)) = some (.d (.int z))) (b3 : binop g .add (.d (.int c)) (.d (.int z)) = some (.d (.int w))) : (ev T cf (.bin .add (.v 6) (.bin .mul (.v 3) (.bin .add (.v 4) (.c (.int 1))))) [m0, m1, m2, some (.int a), some (.int b), m5, some (.int c)] g).lay = .ok (.int w) g := by
  simp [ev, b1, b2, b3, Py.R.bind, Py.R.lay, lay, ofO]
theorem lc_b1_ {l : Nat} : binop g .add (.d (.int (l : Nat))) (.d (.int 1)) = some (.d (.int ((l : Int) + 1))) := by simp [binop]
theorem lc_b2_ {m l : Nat} (hm : m ≤ 100000) : binop g .mul (.d (.int (m : Nat))) (.d (.int ((l : Int) + 1))) = some (.d (.int ((m : Int) * ((l : Int) + 1)))) := by simp [binop, small_nat hm]
theorem lc_b3_ {m l p : Nat} : binop g .add (.d (.int (p : Nat))) (.d (.int ((m : Int) * ((l : Int) + 1)))) = some (.d (.int ((p : Int) + (m : Int) * ((l : Int) + 1)))) := by simp [binop]
theorem lc_part {cf : Cf} {m0 m1 m2 m5 : Option D} {m l p : Nat} (hm : m ≤ 100000) : (ev T cf (.bin .add (.v 6) (.bin .mul (.v 3) (.bin .add (.v 4) (.c (.int 1))))) [m0, m1, m2, some (.int (m : Nat)), some (.int (l : Nat)), m5, some (.int (p : Nat))] g).lay = .ok (.int ((p : Int) + (m : Int) * ((l : Int) + 1))) g :=
  lc_part0 lc_b1_ (lc_b2_ hm) lc_b3_
/-- one node at one level -/
theorem lc_b1 {cf : Cf} {A : List Nd} {d l i ro : Nat} {x : Nd} {rs : List D} {m6 : Option D} (hx : A[i]? = some x) (hp : x.ps.length ≤ 100) (hA : A.length ≤ 910) (hl' : l ≤ 1000) (hr : g[ro]? = some (.lst rs)) (hl : rs.length < 16777216) :
    ∃ m5' m6', evSs T cf fn19_b1 [some (grD A), some (.int (d : Nat)), some (.ref ro), some (.int (A.length : Nat)), some (.int (l : Nat)), some x.d, m6] g = .nx [some (grD A), some (.int (d : Nat)), some (.ref ro), some (.int (A.length : Nat)), some (.int (l : Nat)), m5', m6'] (g.set ro (.lst (rs ++ [(ent A d (fR A.length) (i, l)).d]))) := by
  have hn : nA A i = x := by unfold nA; rw [hx]; rfl
  have l2 : 2 ≤ line := by decide
  have l1 : 1 ≤ line := by decide
  have ll : rs.length < line := hl
  have c1 := fun g : G => eq_nats g l d
  have c2 : ∀ g : G, cmpop g .eq (.d (.str ['t', 'u', 'p', 'l', 'e'])) (.d (.str ['t', 'u', 'p', 'l', 'e'])) = some true := fun g => by simp [cmpop, trX, tr, eqv]
  by_cases ht : ∃ w ps, x = .tup w ps
  · obtain ⟨w, ps, rfl⟩ := ht
    have x2 : ∀ g : G, index g (.d (Nd.tup w ps).d) (.int 0) = some (.str ['t', 'u', 'p', 'l', 'e']) := fun g => by simp [Nd.d, index, atI, ixN]
    have x4 : ∀ g : G, index g (.d (Nd.tup w ps).d) (.int 2) = some (.tup (ndPs ps)) := fun g => by simp [Nd.d, index, atI, ixN]
    have sh : ∀ g : G, slice g (.d (Nd.tup w ps).d) none (some 2) = some (.d (.tup [.str ['t', 'u', 'p', 'l', 'e'], .str w])) := fun g => by simp [Nd.d, slice, cut, sIx]
    by_cases hd : l = d
    · have he : ent A d (fR A.length) (i, l) = cutA := by unfold ent; rw [hn]; simp [hd]
      rw [he]
      have dv : decide (l = d) = true := by simpa using hd
      rw [dv] at c1
      refine ⟨some cutA.d, m6, ?_⟩
      generalize (Nd.tup w ps).d = xd at x2
      generalize grD A = GA
      simp [fn19_b1, evSs, evS, ev, evs, x2, c1, c2, hr, ll, l2, cutA, Nd.d, Py.R.bind, truth, Py.R.test, Py.R.toO, Py.R.lay, Py.O.then, ofO, asg, lay, btype, bmok, bmeth]
    · have he : ent A d (fR A.length) (i, l) = .tup w (ps.map fun q => q + A.length * (l + 1)) := by unfold ent; rw [hn]; simp [hd, fR]
      rw [he]
      have dv : decide (l = d) = false := by simpa using hd
      rw [dv] at c1
      have e1 : ev T cf fn19_c0 [some (grD A), some (.int (d : Nat)), some (.ref ro), some (.int (A.length : Nat)), some (.int (l : Nat)), some (Nd.tup w ps).d, m6] g = .ok (.tmp ((ndPs ps).map fun z => match z with | .int p => .int (p + (A.length : Int) * ((l : Int) + 1)) | _ => .non)) g := by
        refine ev_comp (t := .nm 6) (s := .it (.ix (.v 5) (.c (.int 2)))) (c := .c (.bl true)) (e := .bin .add (.v 6) (.bin .mul (.v 3) (.bin .add (.v 4) (.c (.int 1))))) (it := .vals (ndPs ps)) (g1 := g) (by simp [evI, ev, x4, Py.R.bind, ofO]) ?_
        refine loopC_map _ (by simp only [Nd.ps] at hp; simp [ndPs, line]; omega) (fun L => by simp [ev, Py.R.test, truth, ofO, Py.R.bind]) fun z hz => ?_
        obtain ⟨p, hp, rfl⟩ := List.mem_map.mp hz
        exact lc_part (by omega)
      have e2 : (Nd.tup w (ps.map fun q => q + A.length * (l + 1))).d = .tup ([.str ['t', 'u', 'p', 'l', 'e'], .str w] ++ [.tup ((ndPs ps).map fun z => match z with | .int p => .int (p + (A.length : Int) * ((l : Int) + 1)) | _ => .non)]) := by
        simp [Nd.d, ndPs]
      rw [e2]
      have pl : ((ndPs ps).map fun z => match z with | .int p => D.int (p + (A.length : Int) * ((l : Int) + 1)) | _ => .non).length ≤ 100 := by simp only [Nd.ps] at hp; simp [ndPs]; exact hp
      generalize (Nd.tup w ps).d = xd at x2 sh e1
      generalize ((ndPs ps).map fun z => match z with | .int p => D.int (p + (A.length : Int) * ((l : Int) + 1)) | _ => .non) = PS at e1 pl ⊢
      have b2 : ∀ g : G, binop g .add (.d (.tup [.str ['t', 'u', 'p', 'l', 'e'], .str w])) (.d (.tup [.tup PS])) = some (.d (.tup ([.str ['t', 'u', 'p', 'l', 'e'], .str w] ++ [.tup PS]))) := fun g => by simp [binop, line]
      refine ⟨some (.tup ([.str ['t', 'u', 'p', 'l', 'e'], .str w] ++ [.tup PS])), m6, ?_⟩
      generalize ([.str ['t', 'u', 'p', 'l', 'e'], .str w] ++ [.tup PS] : List D) = RW at b2 ⊢
      generalize grD A = GA at e1
      generalize hc0 : fn19_c0 = C0 at e1
      simp [fn19_b1, hc0, evSs, evS, ev, evs, x2, sh, e1, b2, c1, c2, hr, ll, l1, Py.R.bind, truth, Py.R.test, Py.R.toO, Py.R.lay, Py.O.then, ofO, asg, lay, btype, bmok, bmeth, built1, items]
  · obtain ⟨z, x2, hz⟩ : ∃ z : Tx, index g (.d x.d) (.int 0) = some (.str z) ∧ z ≠ ['t', 'u', 'p', 'l', 'e'] := by
      cases x with
      | tup w ps => exact absurd ⟨w, ps, rfl⟩ ht
      | _ => exact ⟨_, rfl, by simp⟩
    have he : ent A d (fR A.length) (i, l) = x := by
      unfold ent
      rw [hn]
      cases x with
      | tup w ps => exact absurd ⟨w, ps, rfl⟩ ht
      | _ => rfl
    rw [he]
    generalize x.d = xd at x2
    refine ⟨some xd, m6, ?_⟩
    simp [fn19_b1, evSs, evS, ev, evs, x2, hz, hr, ll, cmpop, trX, tr, eqv, Py.R.bind, truth, Py.R.test, Py.R.toO, Py.R.lay, Py.O.then, ofO, asg, lay, btype, bmok, bmeth]
end
end K06
set_option linter.all false
set_option maxRecDepth 100000
set_option maxHeartbeats 1000000
namespace K06
open Py Py.Gr
/-- the rows behind some nodes of a level -/
def rwP (A : List Nd) (d l i : Nat) : List D := ((preP A.length l ++ (List.range i).map fun n => (n, l)).map (ent A d (fR A.length))).map Nd.d
theorem rwP_next (A : List Nd) (d l i : Nat) : rwP A d l i ++ [(ent A d (fR A.length) (i, l)).d] = rwP A d l (i + 1) := by
  unfold rwP
  rw [List.range_succ]
  simp
theorem rwP_level (A : List Nd) (d l : Nat) : rwP A d l A.length = rwP A d (l + 1) 0 := by
  unfold rwP
  rw [preP_succ]
  simp
theorem rwP_end (A : List Nd) (d : Nat) : rwP A d (d + 1) 0 = (cutR A d).map Nd.d := by
  unfold rwP cutR allP preP fR
  simp
theorem rwP_len (A : List Nd) (d l i : Nat) : (rwP A d l i).length = A.length * l + i := by
  unfold rwP
  simp [preP_len]
section
variable {k : Nat} {g : G}
theorem lc_l2 {cf : Cf} {A : List Nd} {d l ro : Nat} {m5 m6 : Option D} (hA : Gok A) (hl : l ≤ 1000) (hr : g[ro]? = some (.lst (rwP A d l 0))) :
    ∃ m5' m6', evS T cf fn19_l2 [some (grD A), some (.int (d : Nat)), some (.ref ro), some (.int (A.length : Nat)), some (.int (l : Nat)), m5, m6] g = .nx [some (grD A), some (.int (d : Nat)), some (.ref ro), some (.int (A.length : Nat)), some (.int (l : Nat)), m5', m6'] (g.set ro (.lst (rwP A d (l + 1) 0))) := by
  have hlen := hA.len
  have rl := (List.getElem?_eq_some_iff.mp hr).1
  have ml : A.length * l ≤ 910 * 1000 := Nat.mul_le_mul hlen hl
  obtain ⟨L', g', e, ⟨m5', m6', rfl⟩, rfl⟩ : ∃ L' g', loopF (.vals (A.map Nd.d)) (.nm 5) (fun L g => evSs T cf fn19_b1 L g) fuel 0 [some (grD A), some (.int (d : Nat)), some (.ref ro), some (.int (A.length : Nat)), some (.int (l : Nat)), m5, m6] g = .nx L' g' ∧ ((∃ m5 m6, L' = [some (grD A), some (.int (d : Nat)), some (.ref ro), some (.int (A.length : Nat)), some (.int (l : Nat)), m5, m6]) ∧ g' = g.set ro (.lst (rwP A d l A.length))) := by
    refine loopF_ind (n := A.length) (fun i L g' => (∃ m5 m6, L = [some (grD A), some (.int (d : Nat)), some (.ref ro), some (.int (A.length : Nat)), some (.int (l : Nat)), m5, m6]) ∧ g' = g.set ro (.lst (rwP A d l i))) (fun i L g' hi ⟨⟨m5, m6, eL⟩, eg⟩ => ?_) (fun L g' _ => by simp [turn]) fuel 0 _ _ (Nat.zero_le _) (by unfold fuel; omega) ⟨⟨m5, m6, rfl⟩, (set_same hr).symm⟩
    subst eL
    have hr' : g'[ro]? = some (.lst (rwP A d l i)) := by rw [eg, List.getElem?_set_self rl]
    have hx : A[i]? = some A[i] := List.getElem?_eq_getElem hi
    have p1 := (A[i].ok_ps (hA.nd _ (List.getElem_mem hi))).1
    obtain ⟨m5', m6', e⟩ := lc_b1 (cf := cf) (d := d) (m6 := m6) hx p1 hlen hl hr' (by rw [rwP_len]; omega)
    rw [rwP_next] at e
    exact ⟨A[i].d, _, by simp [turn, hi], rfl, _, _, .inl e, ⟨m5', m6', rfl⟩, by rw [eg, List.set_set]⟩
  rw [← rwP_level]
  exact ⟨m5', m6', ev_for (t := .nm 5) (s := .it (.v 0)) (b := fn19_b1) (it := .vals (A.map Nd.d)) (g1 := g) (by simp [evI, ev, grD, Py.R.bind]) e⟩
theorem lc_l4 {cf : Cf} {A : List Nd} {d ro : Nat} {m4 m5 m6 : Option D} (hA : Gok A) (hd : d ≤ 100) (hr : g[ro]? = some (.lst [])) :
    ∃ m4' m5' m6', evS T cf fn19_l4 [some (grD A), some (.int (d : Nat)), some (.ref ro), some (.int (A.length : Nat)), m4, m5, m6] g = .nx [some (grD A), some (.int (d : Nat)), some (.ref ro), some (.int (A.length : Nat)), m4', m5', m6'] (g.set ro (.lst ((cutR A d).map Nd.d))) := by
  have rl := (List.getElem?_eq_some_iff.mp hr).1
  have r0 : rwP A d 0 0 = [] := by simp [rwP, preP]
  obtain ⟨L', g', e, ⟨m4', m5', m6', rfl⟩, rfl⟩ : ∃ L' g', loopF (.rng 0 (d + 1)) (.nm 4) (fun L g => evSs T cf fn19_b3 L g) fuel 0 [some (grD A), some (.int (d : Nat)), some (.ref ro), some (.int (A.length : Nat)), m4, m5, m6] g = .nx L' g' ∧ ((∃ m4 m5 m6, L' = [some (grD A), some (.int (d : Nat)), some (.ref ro), some (.int (A.length : Nat)), m4, m5, m6]) ∧ g' = g.set ro (.lst (rwP A d (d + 1) 0))) := by
    refine loopF_ind (n := d + 1) (fun l L g' => (∃ m4 m5 m6, L = [some (grD A), some (.int (d : Nat)), some (.ref ro), some (.int (A.length : Nat)), m4, m5, m6]) ∧ g' = g.set ro (.lst (rwP A d l 0))) (fun l L g' hi ⟨⟨m4, m5, m6, eL⟩, eg⟩ => ?_) (fun L g' _ => by simp [turn]) fuel 0 _ _ (Nat.zero_le _) (by unfold fuel; omega) ⟨⟨m4, m5, m6, rfl⟩, by rw [r0]; exact (set_same hr).symm⟩
    subst eL
    have hr' : g'[ro]? = some (.lst (rwP A d l 0)) := by rw [eg, List.getElem?_set_self rl]
    obtain ⟨m5', m6', e⟩ := lc_l2 (cf := cf) (d := d) (l := l) (m5 := m5) (m6 := m6) hA (by omega) hr'
    refine ⟨.int (l : Nat), _, by simp [turn, hi], rfl, _, g'.set ro (.lst (rwP A d (l + 1) 0)), .inl ?_, ⟨some (.int (l : Nat)), m5', m6', rfl⟩, by rw [eg, List.set_set]⟩
    simp only [fn19_b3, evSs, Py.O.then, List.set]
    rw [e]
  rw [rwP_end] at e
  refine ⟨m4', m5', m6', ?_⟩
  refine ev_for (t := .nm 4) (s := .rng (.cons (.bin .add (.v 1) (.c (.int 1))) .nil)) (b := fn19_b3) (it := .rng 0 (d + 1)) (g1 := g) ?_ e
  refine rng1n ?_ (by omega)
  have b1 : binop g .add (.d (.int (d : Nat))) (.d (.int 1)) = some (.d (.int ((d + 1 : Nat) : Int))) := by simp [binop]
  simp only [ev, List.getElem?_cons_succ, List.getElem?_cons_zero, Py.R.bind, b1, ofO]
theorem lc_body {cf : Cf} {GA : D} {d m : Nat} {m4 m5 m6 : Option D} {g2 g3 : G} {RS : List D} {v : D} (bl : ∀ g : G, built1 g .len (.d GA) = some (.d (.int (m : Nat))))
    (e : evS T cf fn19_l4 [some GA, some (.int (d : Nat)), some (.ref g.length), some (.int (m : Nat)), none, none, none] (g ++ [.lst []]) = .nx [some GA, some (.int (d : Nat)), some (.ref g.length), some (.int (m : Nat)), m4, m5, m6] g2) (hr : g2[g.length]? = some (.lst RS)) (e2 : cf 18 [.tup RS] g2 = .ok v g3) :
    evSs T cf fn19.body [some GA, some (.int (d : Nat)), none, none, none, none, none] g = .rt v g3 := by
  have bt : built1 g2 .tuple (.d (.ref g.length)) = some (.d (.tup RS)) := by simp [built1, items, hr]
  have s1 : evS T cf (.set (.nm 2) (.lst .nil)) [some GA, some (.int (d : Nat)), none, none, none, none, none] g = .nx [some GA, some (.int (d : Nat)), some (.ref g.length), none, none, none, none] (g ++ [.lst []]) := by
    simp [evS, ev, evs, Py.R.bind, Py.R.toO, Py.R.lay, Py.O.then, ofO, asg, lay]
  have s2 : evS T cf (.set (.nm 3) (.bi .len (.cons (.v 0) .nil))) [some GA, some (.int (d : Nat)), some (.ref g.length), none, none, none, none] (g ++ [.lst []]) = .nx [some GA, some (.int (d : Nat)), some (.ref g.length), some (.int (m : Nat)), none, none, none] (g ++ [.lst []]) := by
    simp [evS, ev, evs, bl, Py.R.bind, Py.R.toO, Py.R.lay, Py.O.then, ofO, asg, lay]
  rw [fn19]
  generalize fn19_l4 = W at e ⊢
  rw [run_ss (b := .cons _ _) s1 rfl]
  simp only [ss1]
  rw [run_ss (b := .cons _ _) s2 rfl]
  simp only [ss1]
  rw [run_ss (b := .cons _ _) e rfl]
  simp only [ss1]
  clear s1 s2 e bl hr
  generalize g.length = ro at bt ⊢
  simp [evSs, evS, ev, evs, bt, e2, Py.R.bind, Py.R.toO, Py.R.lay, Py.O.then, ofO, asg, lay]
/-- the law's cut -/
theorem law_cut {A : List Nd} {d : Nat} (hA : Gok A) (h0 : 0 < A.length) (hd : d ≤ 9) (hm : A.length * (d + 1) ≤ 910) : ∃ g', runF T (k + d + 5) 19 [grD A, .int (d : Nat)] g = .ok (grD (leastL (cutR A d))) g' ∧ Old g.length g g' := by
  have hR := cutR_ok hA hm
  have hR0 : 0 < (cutR A d).length := by simp only [cutR, List.length_map, allP_len]; exact Nat.mul_pos h0 (Nat.succ_pos _)
  have lR : (cutR A d).length = A.length * (d + 1) := by simp only [cutR, List.length_map, allP_len]
  obtain ⟨m4, m5, m6, e⟩ := lc_l4 (cf := runF T (k + d + 4)) (g := g ++ [.lst []]) (d := d) (ro := g.length) (m4 := none) (m5 := none) (m6 := none) hA (by omega) (by simp)
  have nR : ∀ n l, n < A.length → l ≤ d → nA (cutR A d) (n + A.length * l) = ent A d (fun p => p.1 + A.length * p.2) (n, l) := fun n l hn hl => by
    unfold nA cutR
    rw [List.getElem?_map, allP_at _ d n l hn hl]
    rfl
  obtain ⟨g', e2, o2⟩ := law_least_d (T := T) (lp := 15) (mt := 17) (kd := 16) (lw := 18) rfl rfl rfl rfl (k := k) (dp := d + 1) (g := (g ++ [Ob.lst []]).set g.length (.lst ((cutR A d).map Nd.d))) hR hR0 (M := fun a _ => d - a / A.length) (fun a f p f' ha _ hp _ _ => by
    rw [lR] at ha
    have hl : a / A.length ≤ d := by
      have := Nat.div_lt_of_lt_mul ha
      omega
    have hn : a % A.length < A.length := Nat.mod_lt _ h0
    have ea : a = a % A.length + A.length * (a / A.length) := (Nat.mod_add_div a A.length).symm
    have hp' : p ∈ (nA (cutR A d) a).ps := hp
    rw [ea, nR _ _ hn hl, ent_ps] at hp'
    obtain ⟨q, hq, rfl⟩ := List.mem_map.mp hp'
    unfold kids at hq
    split at hq
    · cases hq
    · rename_i hne
      have hq' := kids_in hA (d := d) (p := (a % A.length, a / A.length)) ⟨hn, hl⟩ q (by unfold kids; rw [if_neg hne]; exact hq)
      obtain ⟨c, hc, rfl⟩ := List.mem_map.mp hq
      simp only at hne hq' ⊢
      have : (c + A.length * (a / A.length + 1)) / A.length = a / A.length + 1 := by
        rw [Nat.add_mul_div_left _ _ h0, Nat.div_eq_of_lt hq'.1]
        omega
      rw [this]
      omega) (by simp)
  rw [show k + (d + 1) + 3 = k + d + 4 by omega] at e2
  have bl : ∀ g : G, built1 g .len (.d (grD A)) = some (.d (.int (A.length : Nat))) := fun g => by simp [built1, lenOf, items, grD]
  have hr : ((g ++ [Ob.lst []]).set g.length (.lst ((cutR A d).map Nd.d)))[g.length]? = some (.lst ((cutR A d).map Nd.d)) := List.getElem?_set_self (by simp)
  refine ⟨g', runF_rt (T := T) (k := k + d + 4) tf19 rfl (lc_body bl e hr e2), ((Old.push (Nat.le_refl _)).trans (Old.set (Nat.le_refl _))).trans (o2.le (by simp))⟩
end
end K06
set_option linter.all false
set_option maxRecDepth 100000
set_option maxHeartbeats 1000000
namespace K06
open Py Py.Gr
def wp (m k j : Nat) : Nat := (k * (j + 2) + 3 * j + 1) % m
def wrow (m k : Nat) : Nd := .tup ['f'] ((List.range 6).map (wp m k))
def wideL (m : Nat) : List Nd := (((List.range m).map (wrow m)).set 1 (.atom ['a'])).set 2 (.int 5)
theorem wide_ok {m : Nat} (h0 : 0 < m) (h : m ≤ 910) : Gok (wideL m) := by
  have l : (wideL m).length = m := by simp [wideL]
  refine ⟨by omega, fun x hx => ?_⟩
  rw [l]
  unfold wideL at hx
  rcases List.mem_or_eq_of_mem_set hx with q | q
  · rcases List.mem_or_eq_of_mem_set q with q | q
    · obtain ⟨k, _, rfl⟩ := List.mem_map.mp q
      refine ⟨by simp, fun p hp => ?_⟩
      obtain ⟨j, _, rfl⟩ := List.mem_map.mp hp
      exact Nat.mod_lt _ h0
    · rw [q]; trivial
  · rw [q]; trivial
section
variable {k : Nat} {g : G}
theorem w_part0 {cf : Cf} {m0 m1 m4 : Option D} {m kk j a b c d e w : Int} (b1 : binop g .add (.d (.int j)) (.d (.int 2)) = some (.d (.int a))) (b2 : binop g .mul (.d (.int kk)) (.d (.int a)) = some (.d (.int b))) (b3 : binop g .mul (.d (.int 3)) (.d (.int j)) = some (.d (.int c))) (b4 : binop g .add (.d (.int b)) (.d (.int c)) = some (.d (.int d))) (b5 : binop g .add (.d (.int d)) (.d (.int 1)) = some (.d (.int e))) (b6 : built1 g .int (.d (.int e)) = some (.d (.int e))) (b7 : binop g .mod (.d (.int e)) (.d (.int m)) = some (.d (.int w))) :
    (ev T cf (.bin .mod (.bi .int (.cons (.bin .add (.bin .add (.bin .mul (.v 3) (.bin .add (.v 5) (.c (.int 2)))) (.bin .mul (.c (.int 3)) (.v 5))) (.c (.int 1))) .nil)) (.v 2)) [m0, m1, some (.int m), some (.int kk), m4, some (.int j)] g).lay = .ok (.int w) g := by
  simp [ev, evs, b1, b2, b3, b4, b5, b6, b7, Py.R.bind, Py.R.lay, lay, ofO]
theorem w_b1 {j : Nat} : binop g .add (.d (.int (j : Nat))) (.d (.int 2)) = some (.d (.int ((j + 2 : Nat) : Int))) := by simp [binop]
theorem w_b2 {a b : Nat} (h : a ≤ 100000) : binop g .mul (.d (.int (a : Nat))) (.d (.int (b : Nat))) = some (.d (.int ((a * b : Nat) : Int))) := by simp [binop, small_nat h]
theorem w_b3 {j : Nat} : binop g .mul (.d (.int 3)) (.d (.int (j : Nat))) = some (.d (.int ((3 * j : Nat) : Int))) := by simp [binop, small]
theorem w_b4 {a b : Nat} : binop g .add (.d (.int (a : Nat))) (.d (.int (b : Nat))) = some (.d (.int ((a + b : Nat) : Int))) := by simp [binop]
theorem w_b5 {a : Nat} : binop g .add (.d (.int (a : Nat))) (.d (.int 1)) = some (.d (.int ((a + 1 : Nat) : Int))) := by simp [binop]
theorem w_b6 {a : Int} : built1 g .int (.d (.int a)) = some (.d (.int a)) := by simp [built1]
theorem w_b7 {a m : Nat} (h : 0 < m) : binop g .mod (.d (.int (a : Nat))) (.d (.int (m : Nat))) = some (.d (.int ((a % m : Nat) : Int))) := by
  have h1 : (0 : Int) < (m : Int) := by omega
  have h2 : ¬ m = 0 := by omega
  simp [binop, h2]
theorem w_part {cf : Cf} {m0 m1 m4 : Option D} {m kk j : Nat} (h : 0 < m) (hk : kk ≤ 100000) :
    (ev T cf (.bin .mod (.bi .int (.cons (.bin .add (.bin .add (.bin .mul (.v 3) (.bin .add (.v 5) (.c (.int 2)))) (.bin .mul (.c (.int 3)) (.v 5))) (.c (.int 1))) .nil)) (.v 2)) [m0, m1, some (.int (m : Nat)), some (.int (kk : Nat)), m4, some (.int (j : Nat))] g).lay = .ok (.int ((wp m kk j : Nat) : Int)) g :=
  w_part0 w_b1 (w_b2 hk) w_b3 w_b4 w_b5 w_b6 (w_b7 h)
theorem w_c0 {cf : Cf} {m0 m1 m4 m5 : Option D} {m kk : Nat} (h : 0 < m) (hk : kk ≤ 100000) :
    ev T cf fn22_c0 [m0, m1, some (.int (m : Nat)), some (.int (kk : Nat)), m4, m5] g = .ok (.tmp (ndPs ((List.range 6).map (wp m kk)))) g := by
  obtain ⟨acc, g', e, rfl, rfl⟩ : ∃ acc g', loopC (.rng 0 6) (.nm 5) (fun L g => (ev T cf (.c (.bl true)) L g).test) (fun L g => (ev T cf (.bin .mod (.bi .int (.cons (.bin .add (.bin .add (.bin .mul (.v 3) (.bin .add (.v 5) (.c (.int 2)))) (.bin .mul (.c (.int 3)) (.v 5))) (.c (.int 1))) .nil)) (.v 2)) L g).lay) [m0, m1, some (.int (m : Nat)), some (.int (kk : Nat)), m4, m5] fuel 0 [] g = .ok acc g' ∧ (acc = ndPs ((List.range 6).map (wp m kk)) ∧ g' = g) := by
    refine loopC_ind (n := 6) (fun i acc g' => acc = ndPs ((List.range i).map (wp m kk)) ∧ g' = g) (fun i acc g' hi ⟨ea, eg⟩ => ?_) (fun acc g' p => by simp [turn]) fuel 0 [] g (Nat.zero_le _) (by unfold fuel; omega) ⟨rfl, rfl⟩
    subst ea eg
    refine ⟨.int (i : Nat), _, by simp [turn, hi], rfl, by simp [ndPs, line]; omega, .inl ⟨.int ((wp m kk i : Nat) : Int), g', g', by simp [ev, Py.R.test, truth, ofO, Py.R.bind], w_part h hk, ?_, rfl⟩⟩
    rw [List.range_succ]
    simp [ndPs]
  refine ev_comp (t := .nm 5) (s := .rng (.cons (.c (.int 6)) .nil)) (c := .c (.bl true)) (it := .rng 0 6) (g1 := g') ?_ e
  simp [evI, ev, Py.R.bind]
theorem w_b1s0 {cf : Cf} {m0 m4 m5 : Option D} {m kk : D} {ro : Nat} {rs PS : List D} {C0 : E} (e : ev T cf C0 [m0, some (.ref ro), some m, some kk, m4, m5] g = .ok (.tmp PS) g) (hr : g[ro]? = some (.lst rs)) (hl : rs.length < 16777216) :
    evSs T cf (.cons (.set (.nm 4) C0) (.cons (.ex (.bm .append (.v 1) (.cons (.tup (.cons (.c (.str ['t', 'u', 'p', 'l', 'e'])) (.cons (.c (.str ['f'])) (.cons (.bi .tuple (.cons (.v 4) .nil)) .nil)))) .nil))) .nil)) [m0, some (.ref ro), some m, some kk, m4, m5] g = .nx [m0, some (.ref ro), some m, some kk, some (.ref g.length), m5] ((g ++ [Ob.lst PS]).set ro (.lst (rs ++ [.tup [.str ['t', 'u', 'p', 'l', 'e'], .str ['f'], .tup PS]]))) := by
  have l3 : 3 ≤ line := by decide
  have rl := (List.getElem?_eq_some_iff.mp hr).1
  have hr2 : (g ++ [Ob.lst PS])[ro]? = some (.lst rs) := by rw [List.getElem?_append_left rl]; exact hr
  have bt : built1 (g ++ [Ob.lst PS]) .tuple (.d (.ref g.length)) = some (.d (.tup PS)) := by simp [built1, items]
  have ll : rs.length < line := hl
  have s1 : evS T cf (.set (.nm 4) C0) [m0, some (.ref ro), some m, some kk, m4, m5] g = .nx [m0, some (.ref ro), some m, some kk, some (.ref g.length), m5] (g ++ [Ob.lst PS]) := by
    simp [evS, e, Py.R.bind, Py.R.toO, Py.R.lay, Py.O.then, ofO, asg, lay]
  rw [run_ss (b := .cons _ _) s1 rfl]
  simp only [ss1]
  clear s1 e hr hl rl
  generalize g ++ [Ob.lst PS] = g2 at hr2 bt ⊢
  generalize g.length = z at bt ⊢
  simp [evSs, evS, ev, evs, hr2, bt, l3, ll, Py.R.bind, Py.R.toO, Py.R.lay, Py.O.then, ofO, asg, lay, btype, bmok, bmeth]
theorem w_b1s {cf : Cf} {m0 m4 m5 : Option D} {m kk ro : Nat} {rs : List D} (h : 0 < m) (hk : kk ≤ 100000) (hr : g[ro]? = some (.lst rs)) (hl : rs.length < 16777216) :
    ∃ m4' m5', evSs T cf fn22_b1 [m0, some (.ref ro), some (.int (m : Nat)), some (.int (kk : Nat)), m4, m5] g = .nx [m0, some (.ref ro), some (.int (m : Nat)), some (.int (kk : Nat)), m4', m5'] ((g ++ [Ob.lst (ndPs ((List.range 6).map (wp m kk)))]).set ro (.lst (rs ++ [(wrow m kk).d]))) :=
  ⟨_, _, w_b1s0 (w_c0 h hk) hr hl⟩
theorem w_l2 {cf : Cf} {m0 m3 m4 m5 : Option D} {m ro : Nat} (h : 0 < m) (hm : m ≤ 910) (hr : g[ro]? = some (.lst [])) :
    ∃ g' m3' m4' m5', evS T cf fn22_l2 [m0, some (.ref ro), some (.int (m : Nat)), m3, m4, m5] g = .nx [m0, some (.ref ro), some (.int (m : Nat)), m3', m4', m5'] g' ∧ Old ro g g' ∧ g'[ro]? = some (.lst (((List.range m).map (wrow m)).map Nd.d)) := by
  have rl := (List.getElem?_eq_some_iff.mp hr).1
  obtain ⟨L', g', e, ⟨m3', m4', m5', rfl⟩, ho, hr'⟩ : ∃ L' g', loopF (.rng 0 m) (.nm 3) (fun L g => evSs T cf fn22_b1 L g) fuel 0 [m0, some (.ref ro), some (.int (m : Nat)), m3, m4, m5] g = .nx L' g' ∧ ((∃ m3 m4 m5, L' = [m0, some (.ref ro), some (.int (m : Nat)), m3, m4, m5]) ∧ Old ro g g' ∧ g'[ro]? = some (.lst (((List.range m).map (wrow m)).map Nd.d))) := by
    refine loopF_ind (n := m) (fun i L g' => (∃ m3 m4 m5, L = [m0, some (.ref ro), some (.int (m : Nat)), m3, m4, m5]) ∧ Old ro g g' ∧ g'[ro]? = some (.lst (((List.range i).map (wrow m)).map Nd.d))) (fun i L g' hi ⟨⟨m3, m4, m5, eL⟩, ho, hr'⟩ => ?_) (fun L g' _ => by simp [turn]) fuel 0 _ _ (Nat.zero_le _) (by unfold fuel; omega) ⟨⟨m3, m4, m5, rfl⟩, .refl _ _, hr⟩
    subst eL
    obtain ⟨m4', m5', e⟩ := w_b1s (cf := cf) (m0 := m0) (m4 := m4) (m5 := m5) (kk := i) h (by omega) hr' (by simp; omega)
    have rl' := (List.getElem?_eq_some_iff.mp hr').1
    refine ⟨.int (i : Nat), _, by simp [turn, hi], rfl, _, _, .inl e, ⟨some (.int (i : Nat)), m4', m5', rfl⟩, (ho.trans (Old.push (by omega))).trans (Old.set (Nat.le_refl _)), ?_⟩
    rw [List.getElem?_set_self (by simp; omega), List.range_succ]
    simp
  refine ⟨g', m3', m4', m5', ?_, ho, hr'⟩
  refine ev_for (t := .nm 3) (s := .rng (.cons (.v 2) .nil)) (b := fn22_b1) (it := .rng 0 m) (g1 := g) ?_ e
  exact rng1n (by simp [ev]) (by omega)
theorem w_end {cf : Cf} {m0 m2 m3 m4 m5 : Option D} {ro : Nat} {rs : List D} (hr : g[ro]? = some (.lst rs)) (h1 : 2 < rs.length) (h2 : rs.length ≤ 1000) :
    evSs T cf (.cons (.setI (.v 1) (.c (.int 1)) (.tup (.cons (.c (.str ['a', 't', 'o', 'm'])) (.cons (.c (.str ['a'])) .nil)))) (.cons (.setI (.v 1) (.c (.int 2)) (.tup (.cons (.c (.str ['i', 'n', 't'])) (.cons (.c (.int 5)) .nil)))) (.cons (.ret (.bi .tuple (.cons (.v 1) .nil))) .nil))) [m0, some (.ref ro), m2, m3, m4, m5] g = .rt (.tup ((rs.set 1 (.tup [.str ['a', 't', 'o', 'm'], .str ['a']])).set 2 (.tup [.str ['i', 'n', 't'], .int 5]))) (g.set ro (.lst ((rs.set 1 (.tup [.str ['a', 't', 'o', 'm'], .str ['a']])).set 2 (.tup [.str ['i', 'n', 't'], .int 5])))) := by
  have l2 : 2 ≤ line := by decide
  have rl := (List.getElem?_eq_some_iff.mp hr).1
  have i1 : ixN rs.length 1 = some 1 := by
    have : (1 : Int) < (rs.length : Int) := by omega
    simp [ixN, this]
  have q1 : ∀ v : D, setIx g (.ref ro) (.int 1) v = some (g.set ro (.lst (rs.set 1 v))) := fun v => by
    simp only [setIx, hr, i1]
    rfl
  have s1 : evS T cf (.setI (.v 1) (.c (.int 1)) (.tup (.cons (.c (.str ['a', 't', 'o', 'm'])) (.cons (.c (.str ['a'])) .nil)))) [m0, some (.ref ro), m2, m3, m4, m5] g = .nx [m0, some (.ref ro), m2, m3, m4, m5] (g.set ro (.lst (rs.set 1 (.tup [.str ['a', 't', 'o', 'm'], .str ['a']])))) := by
    simp [evS, ev, evs, q1, l2, Py.R.bind, Py.R.toO, Py.R.lay, Py.O.then, ofO, asg, lay]
  rw [run_ss (b := .cons _ _) s1 rfl]
  simp only [ss1]
  have hr2 : (g.set ro (.lst (rs.set 1 (.tup [.str ['a', 't', 'o', 'm'], .str ['a']]))))[ro]? = some (.lst (rs.set 1 (.tup [.str ['a', 't', 'o', 'm'], .str ['a']]))) := List.getElem?_set_self rl
  have i2 : ixN (rs.set 1 (.tup [.str ['a', 't', 'o', 'm'], .str ['a']])).length 2 = some 2 := by
    have : (2 : Int) < (rs.length : Int) := by omega
    simp [ixN, this]
  have q2 : ∀ v : D, setIx (g.set ro (.lst (rs.set 1 (.tup [.str ['a', 't', 'o', 'm'], .str ['a']])))) (.ref ro) (.int 2) v = some (g.set ro (.lst ((rs.set 1 (.tup [.str ['a', 't', 'o', 'm'], .str ['a']])).set 2 v))) := fun v => by
    simp only [setIx, hr2, i2]
    show some ((g.set ro _).set ro _) = _
    rw [List.set_set]
  generalize (g.set ro (.lst (rs.set 1 (.tup [.str ['a', 't', 'o', 'm'], .str ['a']])))) = g2 at hr2 q2 ⊢
  generalize (rs.set 1 (.tup [.str ['a', 't', 'o', 'm'], .str ['a']])) = r2 at q2 ⊢
  have s2 : evS T cf (.setI (.v 1) (.c (.int 2)) (.tup (.cons (.c (.str ['i', 'n', 't'])) (.cons (.c (.int 5)) .nil)))) [m0, some (.ref ro), m2, m3, m4, m5] g2 = .nx [m0, some (.ref ro), m2, m3, m4, m5] (g.set ro (.lst (r2.set 2 (.tup [.str ['i', 'n', 't'], .int 5])))) := by
    simp [evS, ev, evs, q2, l2, Py.R.bind, Py.R.toO, Py.R.lay, Py.O.then, ofO, asg, lay]
  rw [run_ss (b := .cons _ _) s2 rfl]
  simp only [ss1]
  generalize r2.set 2 (.tup [.str ['i', 'n', 't'], .int 5]) = r3
  have bt : built1 (g.set ro (.lst r3)) .tuple (.d (.ref ro)) = some (.d (.tup r3)) := by simp [built1, items, rl]
  generalize g.set ro (.lst r3) = g3 at bt ⊢
  simp [evSs, evS, ev, evs, bt, Py.R.bind, Py.R.toO, Py.R.lay, Py.O.then, ofO, asg, lay]
/-- a wide graph -/
theorem law_wide {ns : List Int} (s : Strm ns 0 1 g) : ∃ g' m, runF T (k + 2) 22 [.ref 1] g = .ok (grD (wideL m)) g' ∧ 90 ≤ m ∧ m < 130 ∧ Strm ns 0 1 g' := by
  obtain ⟨v, g1, e1, a1, b1, s1, k1⟩ := draw_ (T := T) (k := k) (f := 8) (many := 40) rfl (s.push [.lst []]) (by decide) (by decide)
  obtain ⟨m, hm1, hm2, em⟩ : ∃ m : Nat, 90 ≤ m ∧ m < 130 ∧ 90 + v = (m : Int) := ⟨(90 + v).toNat, by omega, by omega, by omega⟩
  have gl := s.lt
  have hr : g1[g.length]? = some (.lst []) := k1 _ _ (by omega) (by simp)
  obtain ⟨g2, m3, m4, m5, e2, o2, hr2⟩ := w_l2 (cf := runF T (k + 1)) (m0 := some (.ref 1)) (m3 := none) (m4 := none) (m5 := none) (by omega : 0 < m) (by omega) hr
  have s2 : Strm ns 0 1 g2 := o2.strm s1 (by omega) gl
  have e3 := w_end (cf := runF T (k + 1)) (m0 := some (.ref 1)) (m2 := some (.int (m : Nat))) (m3 := m3) (m4 := m4) (m5 := m5) hr2 (by simp; omega) (by simp; omega)
  have gr : D.tup (((((List.range m).map (wrow m)).map Nd.d).set 1 (.tup [.str ['a', 't', 'o', 'm'], .str ['a']])).set 2 (.tup [.str ['i', 'n', 't'], .int 5])) = grD (wideL m) := by
    unfold grD wideL
    rw [List.map_set, List.map_set]
    rfl
  rw [gr] at e3
  have s3 : ∀ o, Strm ns 0 1 (g2.set g.length o) := fun o => s2.set (by omega) (by omega)
  obtain ⟨gz, sz, ez⟩ : ∃ gz, Strm ns 0 1 gz ∧ evSs T (runF T (k + 1)) _ _ g2 = .rt (grD (wideL m)) gz := ⟨_, s3 _, e3⟩
  refine ⟨gz, m, runF_rt (T := T) (k := k + 1) tf22 rfl ?_, hm1, hm2, sz⟩
  have t1 : evS T (runF T (k + 1)) (.set (.nm 1) (.lst .nil)) [some (.ref 1), none, none, none, none, none] g = .nx [some (.ref 1), some (.ref g.length), none, none, none, none] (g ++ [.lst []]) := by
    simp [evS, ev, evs, Py.R.bind, Py.R.toO, Py.R.lay, Py.O.then, ofO, asg, lay]
  have b1 : binop g1 .add (.d (.int 90)) (.d (.int v)) = some (.d (.int (m : Nat))) := by simp [binop, em]
  have t2 : evS T (runF T (k + 1)) (.set (.nm 2) (.bin .add (.c (.int 90)) (.call 8 (.cons (.v 0) (.cons (.c (.int 40)) .nil))))) [some (.ref 1), some (.ref g.length), none, none, none, none] (g ++ [.lst []]) = .nx [some (.ref 1), some (.ref g.length), some (.int (m : Nat)), none, none, none] g1 := by
    generalize ((m : Nat) : Int) = z at b1
    simp [evS, ev, evs, e1, b1, Py.R.bind, Py.R.toO, Py.R.lay, Py.O.then, ofO, asg, lay]
  show evSs T (runF T (k + 1)) fn22.body [some (.ref 1), none, none, none, none, none] g = _
  rw [fn22]
  generalize fn22_l2 = W at e2 ⊢
  rw [run_ss (b := .cons _ _) t1 rfl]
  simp only [ss1]
  rw [run_ss (b := .cons _ _) t2 rfl]
  simp only [ss1]
  rw [run_ss (b := .cons _ _) e2 rfl]
  exact ez
end
end K06
set_option linter.all false
set_option maxRecDepth 100000
set_option maxHeartbeats 1000000
namespace K06
open Py Py.Gr
def refD : D := .tup [.str ['r', 'e', 'f', 'u', 's', 'e', 'd'], .str ['m', 'a', 'n', 'y']]
section
variable {k : Nat} {g : G}
theorem gvn_body {cf : Cf} {v : D} {x : D} (i1 : isinst T g (.d v) .tuple = some true) (c0 : cmpop g .is (.d v) (.d .non) = some false) (sl : slice g (.d v) none (some 1) = some (.d x)) (c1 : cmpop g .isin (.d x) (.d (.tup [.tup [.str ['r', 'e', 'f', 'u', 's', 'e', 'd']], .tup [.str ['l', 'a', 'r', 'g', 'e']], .tup [.str ['w', 'i', 'd', 'e']]])) = some false) :
    evSs T cf fn20.body [some v] g = .rt v g := by
  have l1 : 1 ≤ line := by decide
  have l3 : 3 ≤ line := by decide
  simp [fn20, evSs, evS, ev, evs, i1, c0, sl, c1, l1, l3, Py.R.bind, truth, Py.R.test, Py.R.toO, Py.R.lay, Py.O.then, ofO, asg, lay]
theorem gvn_gr {B : List Nd} (h0 : 0 < B.length) : runF T (k + 1) 20 [grD B] g = .ok (grD B) g := by
  cases B with
  | nil => simp at h0
  | cons x B =>
    refine runF_rt tf20 rfl (gvn_body (x := .tup [x.d]) ?_ ?_ ?_ ?_)
    · simp [isinst, grD, kdOf, Kd.isa]
    · simp [grD, cmpop, D.isNon]
    · simp [grD, slice, cut, sIx]
    · have t : tr g 59 x.d = some x.d := nd_tr (g := g) 56 x
      have ne : ∀ s : Tx, eqv (.str s) x.d = false := fun s => by cases x <;> simp [Nd.d, eqv]
      have ne2 : ∀ s : Tx, eqv (.tup [.str s]) (.tup [x.d]) = false := fun s => by
        show (eqv (.str s) x.d && eqvs [] []) = false
        rw [ne]
        rfl
      simp [cmpop, isin, keyed, t, trX, tr, trL, ne2]
theorem law_start {cf : Cf} {NS : D} {g1 g2 g3 g4 : G} {v w d : Int} {GA : D} (e1 : cf 7 [NS] g = .ok (.ref 1) g1) (e2 : cf 8 [.ref 1, .int 4] g1 = .ok (.int v) g2) (im : ∀ g : G, index g (.tmp [.int 7, .int 7, .int 7, .int 20]) (.int v) = some (.int w)) (e3 : cf 14 [.ref 1, .int w] g2 = .ok GA g3) (e4 : cf 8 [.ref 1, .int 7] g3 = .ok (.int d) g4) {S4 : S} {R4 : Ss} {o : O}
    (h : evSs T cf (.cons S4 R4) [some NS, some (.ref 1), some GA, some (.int d), none, none] g4 = o) :
    evSs T cf (.cons (.set (.nm 1) (.call 7 (.cons (.v 0) .nil))) (.cons (.set (.nm 2) (.call 14 (.cons (.v 1) (.cons (.ix (.lst (.cons (.c (.int 7)) (.cons (.c (.int 7)) (.cons (.c (.int 7)) (.cons (.c (.int 20)) .nil))))) (.call 8 (.cons (.v 1) (.cons (.c (.int 4)) .nil)))) .nil)))) (.cons (.set (.nm 3) (.call 8 (.cons (.v 1) (.cons (.c (.int 7)) .nil)))) (.cons S4 R4)))) [some NS, none, none, none, none, none] g = o := by
  have l4 : 4 ≤ line := by decide
  have s1 : evS T cf (.set (.nm 1) (.call 7 (.cons (.v 0) .nil))) [some NS, none, none, none, none, none] g = .nx [some NS, some (.ref 1), none, none, none, none] g1 := by
    simp [evS, ev, evs, e1, Py.R.bind, Py.R.toO, Py.R.lay, Py.O.then, ofO, asg, lay]
  have s2 : evS T cf (.set (.nm 2) (.call 14 (.cons (.v 1) (.cons (.ix (.lst (.cons (.c (.int 7)) (.cons (.c (.int 7)) (.cons (.c (.int 7)) (.cons (.c (.int 20)) .nil))))) (.call 8 (.cons (.v 1) (.cons (.c (.int 4)) .nil)))) .nil)))) [some NS, some (.ref 1), none, none, none, none] g1 = .nx [some NS, some (.ref 1), some GA, none, none, none] g3 := by
    simp [evS, ev, evs, e2, im, e3, l4, Py.R.bind, Py.R.toO, Py.R.lay, Py.O.then, ofO, asg, lay]
  have s3 : evS T cf (.set (.nm 3) (.call 8 (.cons (.v 1) (.cons (.c (.int 7)) .nil)))) [some NS, some (.ref 1), some GA, none, none, none] g3 = .nx [some NS, some (.ref 1), some GA, some (.int d), none, none] g4 := by
    simp [evS, ev, evs, e4, Py.R.bind, Py.R.toO, Py.R.lay, Py.O.then, ofO, asg, lay]
  rw [run_ss (b := .cons _ _) s1 rfl]
  simp only [ss1]
  rw [run_ss (b := .cons _ _) s2 rfl]
  simp only [ss1]
  rw [run_ss (b := .cons _ _) s3 rfl]
  simp only [ss1]
  exact h
theorem told_ok {cf : Cf} {GA v : D} {d : Nat} {g2 : G} (e1 : cf 6 [GA, .int (d : Nat)] g = .ok v g2) (e2 : cf 10 [v] g2 = .ok v g2) (e3 : cf 20 [v] g2 = .ok v g2) : evSs T cf fn21.body [some GA, some (.int (d : Nat)), none] g = .rt v g2 := by
  simp [fn21, evSs, evS, ev, evs, e1, e2, e3, Py.R.bind, Py.R.toO, Py.R.lay, Py.O.then, ofO, asg, lay]
theorem told_ex {cf : Cf} {GA : D} {d : Nat} {g2 : G} (e1 : cf 6 [GA, .int (d : Nat)] g = .ex ⟨1, []⟩ g2) : evSs T cf fn21.body [some GA, some (.int (d : Nat)), none] g = .rt refD g2 := by
  have l2 : 2 ≤ line := by decide
  have t1 : T.sub 1 1 = some true := rfl
  have t2 : T.sub 1 0 = some true := rfl
  simp [fn21, evSs, evS, ev, evs, e1, t1, t2, l2, refD, Py.R.bind, Py.R.toO, Py.R.lay, Py.O.then, ofO, asg, lay]
theorem told_ {A : List Nd} {d : Nat} (hA : Gok A) (h0 : 0 < A.length) (hm : A.length * (d + 1) ≤ 910) : ∃ g', runF T (k + 6) 21 [grD A, .int (d : Nat)] g = .ok (if 400 < (leastL (cutR A d)).length then refD else grD (leastL (cutR A d))) g' := by
  obtain ⟨g', o, h⟩ := cut_ (T := T) (k := k) (g := g) (A := A) (d := d) (ct := 6) (ck := 5) (ls := 4) (cl := 3) (hd := 1) (nb := 2) (gM := 0) (tm := 1) (pt := 0) rfl rfl rfl rfl rfl rfl rfl rfl hA h0 hm
  have hR := cutR_ok hA hm
  have hR0 : 0 < (cutR A d).length := by simp only [cutR, List.length_map, allP_len]; exact Nat.mul_pos h0 (Nat.succ_pos _)
  refine ⟨g', ?_⟩
  by_cases hc : 400 < (leastL (cutR A d)).length
  · rw [if_pos hc] at h ⊢
    exact runF_rt (T := T) (k := k + 5) tf21 rfl (told_ex h)
  · rw [if_neg hc] at h ⊢
    have hL := leastL_ok hR hR0
    exact runF_rt (T := T) (k := k + 5) tf21 rfl (told_ok h (given_ (T := T) (k := k + 4) (gv := 10) (f := 9) rfl (py_gr (T := T) (k := k) (f := 9) rfl hL)) (gvn_gr (k := k + 4) (leastL_pos hR hR0)))
/-- the graph and the depth -/
theorem law_pick {cf : Cf} {ns : List Int} {A : List Nd} {d : Int} {v : Int} {g2 g3 g4 : G} {NS : D}
    (e : cf 8 [.ref 1, .int 32] g = .ok (.int v) g2) : (v ≠ 0 → evS T cf (.ifs (.cmp .eq (.call 8 (.cons (.v 1) (.cons (.c (.int 32)) .nil))) (.c (.int 0))) (.cons (.set (.nm 2) (.call 22 (.cons (.v 1) .nil))) (.cons (.set (.nm 3) (.bin .add (.c (.int 3)) (.call 8 (.cons (.v 1) (.cons (.c (.int 4)) .nil))))) .nil)) .nil) [some NS, some (.ref 1), some (grD A), some (.int d), none, none] g = .nx [some NS, some (.ref 1), some (grD A), some (.int d), none, none] g2) ∧
      (v = 0 → ∀ {GB : D} {w : Int}, cf 22 [.ref 1] g2 = .ok GB g3 → cf 8 [.ref 1, .int 4] g3 = .ok (.int w) g4 → evS T cf (.ifs (.cmp .eq (.call 8 (.cons (.v 1) (.cons (.c (.int 32)) .nil))) (.c (.int 0))) (.cons (.set (.nm 2) (.call 22 (.cons (.v 1) .nil))) (.cons (.set (.nm 3) (.bin .add (.c (.int 3)) (.call 8 (.cons (.v 1) (.cons (.c (.int 4)) .nil))))) .nil)) .nil) [some NS, some (.ref 1), some (grD A), some (.int d), none, none] g = .nx [some NS, some (.ref 1), some GB, some (.int (3 + w)), none, none] g4) := by
  have c1 : ∀ g : G, cmpop g .eq (.d (.int v)) (.d (.int 0)) = some (decide (v = 0)) := fun g => by simp [cmpop, trX, tr, eqv]
  generalize grD A = GA
  constructor
  · intro h
    have dv : decide (v = 0) = false := by simpa using h
    rw [dv] at c1
    simp [evSs, evS, ev, evs, e, c1, Py.R.bind, truth, Py.R.test, Py.R.toO, Py.R.lay, Py.O.then, ofO, asg, lay]
  · intro h GB w e2 e3
    have dv : decide (v = 0) = true := by simpa using h
    rw [dv] at c1
    have b1 : ∀ g : G, binop g .add (.d (.int 3)) (.d (.int w)) = some (.d (.int (3 + w))) := fun g => by simp [binop]
    generalize (3 + w : Int) = z at b1
    simp [evSs, evS, ev, evs, e, e2, e3, b1, c1, Py.R.bind, truth, Py.R.test, Py.R.toO, Py.R.lay, Py.O.then, ofO, asg, lay]
theorem law_end {cf : Cf} {NS GA GB : D} {d : Nat} {n : Nat} {g2 g3 : G} (e1 : cf 19 [GA, .int (d : Nat)] g = .ok GB g2) (bl : ∀ g : G, built1 g .len (.d GB) = some (.d (.int (n : Nat)))) (e2 : cf 21 [GA, .int (d : Nat)] g2 = .ok (if 400 < n then refD else GB) g3) (q1 : cmpop g3 .eq (.d refD) (.d refD) = some true) (q2 : cmpop g3 .eq (.d GB) (.d GB) = some true) :
    evSs T cf (.cons (.set (.nm 4) (.call 19 (.cons (.v 2) (.cons (.v 3) .nil)))) (.cons (.ifs (.cmp .gt (.bi .len (.cons (.v 4) .nil)) (.c (.int 400))) (.cons (.set (.nm 4) (.tup (.cons (.c (.str ['r', 'e', 'f', 'u', 's', 'e', 'd'])) (.cons (.c (.str ['m', 'a', 'n', 'y'])) .nil)))) .nil) .nil) (.cons (.set (.nm 5) (.call 21 (.cons (.v 2) (.cons (.v 3) .nil)))) (.cons (.ret (.cmp .eq (.v 5) (.v 4))) .nil)))) [some NS, some (.ref 1), some GA, some (.int (d : Nat)), none, none] g = .rt (.bl true) g3 := by
  have l2 : 2 ≤ line := by decide
  have c1 : ∀ g : G, cmpop g .gt (.d (.int (n : Nat))) (.d (.int 400)) = some (decide (400 < n)) := fun g => by
    have : decide ((400 : Int) < (n : Int)) = decide (400 < n) := by
      rw [Bool.eq_iff_iff, decide_eq_true_eq, decide_eq_true_eq]
      omega
    simp only [cmpop, this]
  generalize ((n : Nat) : Int) = z at bl c1
  by_cases h : 400 < n
  · have dv : decide (400 < n) = true := by simpa using h
    rw [dv] at c1
    rw [if_pos h] at e2
    unfold refD at e2 q1
    simp [evSs, evS, ev, evs, e1, bl, e2, q1, c1, l2, Py.R.bind, truth, Py.R.test, Py.R.toO, Py.R.lay, Py.O.then, ofO, asg, lay]
  · have dv : decide (400 < n) = false := by simpa using h
    rw [dv] at c1
    rw [if_neg h] at e2
    simp [evSs, evS, ev, evs, e1, bl, e2, q2, c1, Py.R.bind, truth, Py.R.test, Py.R.toO, Py.R.lay, Py.O.then, ofO, asg, lay]
/-- what the law's last part asks -/
theorem law_fin {j : Nat} {A : List Nd} {d : Nat} {NS : D} (hA : Gok A) (h0 : 0 < A.length) (hd : d ≤ 9) (hm : A.length * (d + 1) ≤ 910) : ∃ g', evSs T (runF T (j + 15)) (ss1 (ss1 (ss1 (ss1 fn23.body)))) [some NS, some (.ref 1), some (grD A), some (.int (d : Nat)), none, none] g = .rt (.bl true) g' := by
  obtain ⟨g2, e1, _⟩ := law_cut (k := j + 10 - d) (g := g) hA h0 hd hm
  rw [show j + 10 - d + d + 5 = j + 15 by omega] at e1
  obtain ⟨g3, e2⟩ := told_ (k := j + 9) (g := g2) hA h0 hm
  have bl : ∀ g : G, built1 g .len (.d (grD (leastL (cutR A d)))) = some (.d (.int ((leastL (cutR A d)).length : Nat))) := fun g => by simp [built1, lenOf, items, grD]
  refine ⟨g3, ?_⟩
  simp only [fn23, ss1]
  exact law_end e1 bl e2 (by simp [refD, cmpop, trX, tr, trL, eqv, eqvs]) (gr_eq g3 _)
theorem law_run {j : Nat} {ns : List Int} (hn : ns.length ≤ 63) : ∃ g, runF T (j + 16) 23 [.ls (ns.map D.int)] [] = .ok (.bl true) g := by
  obtain ⟨g1, e1, s1⟩ := stream_ (T := T) (k := j + 14) (f := 7) (ns := ns) rfl hn
  obtain ⟨v, g2, e2, a2, b2, s2, _⟩ := draw_ (T := T) (k := j + 14) (f := 8) (many := 4) rfl s1 (by decide) (by decide)
  obtain ⟨w, m1, m2, im⟩ : ∃ w : Int, 0 < w ∧ w ≤ 20 ∧ ∀ g : G, index g (.tmp [.int 7, .int 7, .int 7, .int 20]) (.int v) = some (.int w) := by
    have hv : v = 0 ∨ v = 1 ∨ v = 2 ∨ v = 3 := by omega
    rcases hv with rfl | rfl | rfl | rfl
    · exact ⟨7, by decide, by decide, fun g => by simp [index, atI, ixN]⟩
    · exact ⟨7, by decide, by decide, fun g => by simp [index, atI, ixN]⟩
    · exact ⟨7, by decide, by decide, fun g => by simp [index, atI, ixN]⟩
    · exact ⟨20, by decide, by decide, fun g => by simp [index, atI, ixN]⟩
  obtain ⟨A, g3, e3, okA, loA, hiA, s3, _⟩ := graphK_ (T := T) (k := j + 11) (dr := 8) (fa := 11) (at_ := 12) (nd := 13) (gr := 14) rfl rfl rfl rfl rfl s2 m1 (by omega)
  obtain ⟨d, g4, e4, a4, b4, s4, _⟩ := draw_ (T := T) (k := j + 14) (f := 8) (many := 7) rfl s3 (by decide) (by decide)
  obtain ⟨x, g5, e5, a5, b5, s5, _⟩ := draw_ (T := T) (k := j + 14) (f := 8) (many := 32) rfl s4 (by decide) (by decide)
  suffices h : ∃ g', evSs T (runF T (j + 15)) (ss1 (ss1 (ss1 fn23.body))) [some (.ls (ns.map D.int)), some (.ref 1), some (grD A), some (.int d), none, none] g4 = .rt (.bl true) g' by
    obtain ⟨g', h⟩ := h
    exact ⟨g', runF_rt (T := T) (k := j + 15) tf23 rfl (law_start e1 e2 im e3 e4 h)⟩
  by_cases hx : x = 0
  · obtain ⟨g6, m, e6, hm1, hm2, s6⟩ := law_wide (k := j + 13) s5
    obtain ⟨y, g7, e7, a7, b7, s7, _⟩ := draw_ (T := T) (k := j + 14) (f := 8) (many := 4) rfl s6 (by decide) (by decide)
    have p := (law_pick (NS := .ls (ns.map D.int)) (A := A) (d := d) (ns := ns) e5).2 hx e6 e7
    obtain ⟨z, hz, ez⟩ : ∃ z : Nat, z ≤ 6 ∧ 3 + y = (z : Int) := ⟨(3 + y).toNat, by omega, by omega⟩
    rw [ez] at p
    have lw : (wideL m).length = m := by simp [wideL]
    have mz : m * (z + 1) ≤ 129 * 7 := Nat.mul_le_mul (by omega) (by omega)
    obtain ⟨g', f⟩ := law_fin (j := j) (g := g7) (d := z) (NS := .ls (ns.map D.int)) (wide_ok (m := m) (by omega) (by omega)) (by omega) (by omega) (by rw [lw]; omega)
    exact ⟨g', (run_ss p rfl).trans f⟩
  · have p := (law_pick (g3 := []) (g4 := []) (NS := .ls (ns.map D.int)) (A := A) (d := d) (ns := ns) e5).1 hx
    obtain ⟨z, hz, rfl⟩ : ∃ z : Nat, z ≤ 6 ∧ d = (z : Int) := ⟨d.toNat, by omega, by omega⟩
    have mz : A.length * (z + 1) ≤ 20 * 7 := Nat.mul_le_mul (by omega) (by omega)
    obtain ⟨g', f⟩ := law_fin (j := j) (g := g5) (d := z) (NS := .ls (ns.map D.int)) okA loA (by omega) (by omega)
    exact ⟨g', (run_ss p rfl).trans f⟩
theorem law_plain : ∀ ns : List Int, ns.length ≤ 63 → ∃ g, runF T 20 23 [.ls (ns.map D.int)] [] = .ok (.bl true) g := fun ns hn => law_run (j := 4) hn
end
end K06
set_option Elab.async false
set_option linter.all false
set_option maxRecDepth 100000
/-! Snd1: what a value, a heap of Ev0 says of HandS's values and heaps. -/
namespace Sd
open PySem PySem.Spec PyProof.Rows L2 Py

def toS (x : Tx) : Str := ⟨(x.map Char.toNat).toArray⟩
theorem toS_len (x : Tx) : (toS x).length = x.length := by simp [toS, Str.length]
theorem toS_inj {x y : Tx} (h : toS x = toS y) : x = y := by
  have h1 : x.map Char.toNat = y.map Char.toNat := by
    have := congrArg (fun s : Str => s.cps.toList) h
    simpa [toS] using this
  have inj : ∀ a b : Char, a.toNat = b.toNat → a = b := fun a b e => by
    apply Char.ext
    exact UInt32.toNat_inj.mp e
  clear h
  induction x generalizing y with
  | nil => cases y with
    | nil => rfl
    | cons _ _ => simp at h1
  | cons a x ih => cases y with
    | nil => simp at h1
    | cons b y =>
      simp only [List.map_cons, List.cons.injEq] at h1
      rw [inj a b h1.1, ih h1.2]
theorem toS_eq {x y : Tx} : toS x = toS y ↔ x = y := ⟨toS_inj, fun h => by rw [h]⟩
theorem toS_append (x y : Tx) : toS x ++ toS y = toS (x ++ y) := by
  show Str.append _ _ = _
  unfold Str.append toS
  simp

/-- a list that never changes -/
def FzL (K : PySem.W.Frag) (H : Hp) (a : Addr) (xs : List V) : Prop :=
  (∃ o, H a = some (.frz o (.lst xs))) ∨
    ∃ (o : Obj) (its : Array Value) (n : Nat), K.lookup a = some o ∧ o.cls = .type "list" ∧ o.dict = none ∧ o.data = .seq its n ∧ its.size ≤ sizeLine ∧ Vals xs its.toList
theorem FzL.sq {K : PySem.W.Frag} {H : Hp} {a : Addr} {xs : List V} (h : FzL K H a xs) : SqL K H a xs := by
  rcases h with ⟨o, h⟩ | h
  · exact .inl (.inr ⟨o, h⟩)
  · exact .inr h

section
variable (K : PySem.W.Frag) (ρ : List Addr) (H : Hp)
mutual
def RV : D → V → Prop
  | .non, v => v = .non
  | .bl b, v => v = .bl b
  | .int i, v => v = .int i
  | .str x, v => v = .str (toS x)
  | .tup ds, v => ∃ a xs, v = .ref a ∧ H a = some (.tup xs) ∧ RVs ds xs
  | .kt ds, v => ∃ a xs, v = .ref a ∧ SqT K H a xs ∧ RVs ds xs
  | .ls ds, v => ∃ a xs, v = .ref a ∧ FzL K H a xs ∧ RVs ds xs
  | .ref n, v => ∃ a, v = .ref a ∧ ρ[n]? = some a
def RVs : List D → List V → Prop
  | [], vs => vs = []
  | d :: ds, vs => ∃ v vr, vs = v :: vr ∧ RV d v ∧ RVs ds vr
end
end

/-- what the names of the text are -/
structure Nm where
  fns : List (Option Str)
  cls : List Str
  gls : List Str
  ats : List Str

/-- where things of the top stand -/
structure Pl where
  nm : Nm
  ca : Nat → Addr
  ini : Nat → Option Nat

def kyT : KY → Key
  | .i n => .inl n
  | .s x => .inr (toS x)

/-- attributes by number, by name -/
def RF (nm : Nm) (K : PySem.W.Frag) (ρ : List Addr) (H : Hp) (fs : List (Nat × D)) (fv : List (Str × V)) : Prop :=
  fv.length ≤ fs.length ∧ (∀ x v, fv.lookup x = some v → ∃ i : Nat, nm.ats[i]? = some x) ∧
  ∀ (i : Nat) x, nm.ats[i]? = some x → (match fs.lookup i with | some d => ∃ v, fv.lookup x = some v ∧ RV K ρ H d v | none => fv.lookup x = none)

def RO (pl : Pl) (K : PySem.W.Frag) (ρ : List Addr) (H : Hp) (a : Addr) : Ob → Prop
  | .lst ds => ∃ xs, H a = some (.lst xs) ∧ RVs K ρ H ds xs
  | .dk kvs => ∃ vs, H a = some (.dK vs) ∧ vs.map (·.1) = kvs.map (fun p => kyT p.1) ∧ RVs K ρ H (kvs.map (·.2)) (vs.map (·.2))
  | .dt kvs => ∃ vs, H a = some (.dT vs) ∧ vs.map (·.1) = kvs.map (fun p => p.1.map kyT) ∧ RVs K ρ H (kvs.map (·.2)) (vs.map (·.2))
  | .fz kvs => ∃ o vs, H a = some (.frz o (.dK vs)) ∧ vs.map (·.1) = kvs.map (fun p => kyT p.1) ∧ RVs K ρ H (kvs.map (·.2)) (vs.map (·.2))
  | .ins C fs => (∃ f, pl.ini C = some f) ∧ ∃ dx fv, H a = some (.ins (pl.ca C) dx fv) ∧ RF pl.nm K ρ H fs fv

structure RG (pl : Pl) (K : PySem.W.Frag) (ρ : List Addr) (H : Hp) (g : G) : Prop where
  len : ρ.length = g.length
  nd : ρ.Nodup
  obj : ∀ (n : Nat) (o : Ob) (a : Addr), g[n]? = some o → ρ[n]? = some a → RO pl K ρ H a o

structure Ext (ρ ρ' : List Addr) (H H' : Hp) : Prop where
  pre : ∃ s, ρ' = ρ ++ s
  new : ∀ p ∈ ρ', p ∉ ρ → H p = none
  keep : ∀ b o, H b = some o → b ∉ ρ → H' b = some o
  tups : ∀ b xs, H b = some (.tup xs) → H' b = some (.tup xs)
  frzs : ∀ b o u, H b = some (.frz o u) → H' b = some (.frz o u)

section
variable {pl : Pl} {K : PySem.W.Frag} {ρ ρ' ρ'' : List Addr} {H H' H'' : Hp} {g : G} {a : Addr} {v : V} {d : D}
theorem Ext.refl : Ext ρ ρ H H := ⟨⟨[], by simp⟩, fun p h n => absurd h n, fun _ _ h _ => h, fun _ _ h => h, fun _ _ _ h => h⟩
theorem Ext.trans (x : Ext ρ ρ' H H') (y : Ext ρ' ρ'' H' H'') : Ext ρ ρ'' H H'' := by
  obtain ⟨s, e⟩ := x.pre
  obtain ⟨s', e'⟩ := y.pre
  have hk : ∀ b o, H b = some o → b ∉ ρ → b ∉ ρ' := fun b o h n m => by
    have := x.new b m n
    rw [h] at this; cases this
  refine ⟨⟨s ++ s', by rw [e', e, List.append_assoc]⟩, fun p hp n => ?_, fun b o h n => y.keep b o (x.keep b o h n) (hk b o h n), fun b xs h => y.tups b xs (x.tups b xs h), fun b o u h => y.frzs b o u (x.frzs b o u h)⟩
  by_cases m : p ∈ ρ'
  · exact x.new p m n
  · have h1 := y.new p hp m
    cases q : H p with
    | none => rfl
    | some o =>
      rw [x.keep p o q n] at h1; cases h1
theorem Ext.sqT (x : Ext ρ ρ' H H') {xs : List V} (h : SqT K H a xs) : SqT K H' a xs := by
  rcases h with (h | ⟨o, h⟩) | h
  · exact .inl (.inl (x.tups _ _ h))
  · exact .inl (.inr ⟨o, x.frzs _ _ _ h⟩)
  · exact .inr h
theorem Ext.fzL (x : Ext ρ ρ' H H') {xs : List V} (h : FzL K H a xs) : FzL K H' a xs := by
  rcases h with ⟨o, h⟩ | h
  · exact .inl ⟨o, x.frzs _ _ _ h⟩
  · exact .inr h
theorem Ext.at (x : Ext ρ ρ' H H') {n : Nat} (h : ρ[n]? = some a) : ρ'[n]? = some a := by
  obtain ⟨s, e⟩ := x.pre
  rw [e, List.getElem?_append_left (List.getElem?_eq_some_iff.mp h).1]
  exact h
/-- what a value's being related asks to stay -/
structure Mon (K : PySem.W.Frag) (ρ ρ' : List Addr) (H H' : Hp) : Prop where
  at_ : ∀ (n : Nat) (a : Addr), ρ[n]? = some a → ρ'[n]? = some a
  tup : ∀ a xs, H a = some (.tup xs) → H' a = some (.tup xs)
  sqT : ∀ a xs, SqT K H a xs → SqT K H' a xs
  fzL : ∀ a xs, FzL K H a xs → FzL K H' a xs
theorem Ext.mon (x : Ext ρ ρ' H H') : Mon K ρ ρ' H H' := ⟨fun _ _ => x.at, x.tups, fun _ _ => x.sqT, fun _ _ => x.fzL⟩
mutual
theorem RV.by_ (x : Mon K ρ ρ' H H') : ∀ {d : D} {v : V}, RV K ρ H d v → RV K ρ' H' d v
  | .non, _, h => by rw [RV] at h ⊢; exact h
  | .bl _, _, h => by rw [RV] at h ⊢; exact h
  | .int _, _, h => by rw [RV] at h ⊢; exact h
  | .str _, _, h => by rw [RV] at h ⊢; exact h
  | .tup ds, v, h => by
    rw [RV] at h ⊢
    obtain ⟨a, xs, e, q, r⟩ := h
    exact ⟨a, xs, e, x.tup _ _ q, RVs.by_ x r⟩
  | .kt ds, v, h => by
    rw [RV] at h ⊢
    obtain ⟨a, xs, e, q, r⟩ := h
    exact ⟨a, xs, e, x.sqT _ _ q, RVs.by_ x r⟩
  | .ls ds, v, h => by
    rw [RV] at h ⊢
    obtain ⟨a, xs, e, q, r⟩ := h
    exact ⟨a, xs, e, x.fzL _ _ q, RVs.by_ x r⟩
  | .ref n, v, h => by
    rw [RV] at h ⊢
    obtain ⟨a, e, q⟩ := h
    exact ⟨a, e, x.at_ _ _ q⟩
theorem RVs.by_ (x : Mon K ρ ρ' H H') : ∀ {ds : List D} {vs : List V}, RVs K ρ H ds vs → RVs K ρ' H' ds vs
  | [], _, h => by rw [RVs] at h ⊢; exact h
  | d :: ds, vs, h => by
    rw [RVs] at h ⊢
    obtain ⟨v, vr, e, q, r⟩ := h
    exact ⟨v, vr, e, RV.by_ x q, RVs.by_ x r⟩
end
theorem RV.mono (x : Ext ρ ρ' H H') {d : D} {v : V} (h : RV K ρ H d v) : RV K ρ' H' d v := h.by_ x.mon
theorem RVs.mono (x : Ext ρ ρ' H H') {d : List D} {v : List V} (h : RVs K ρ H d v) : RVs K ρ' H' d v := h.by_ x.mon
theorem RVs.len : ∀ {ds : List D} {vs : List V}, RVs K ρ H ds vs → vs.length = ds.length
  | [], _, h => by rw [RVs] at h; subst h; rfl
  | d :: ds, vs, h => by
    rw [RVs] at h
    obtain ⟨v, vr, e, q, r⟩ := h
    subst e
    simp [RVs.len r]
theorem RVs.get : ∀ {ds : List D} {vs : List V} {i : Nat} {d : D}, RVs K ρ H ds vs → ds[i]? = some d → ∃ v, vs[i]? = some v ∧ RV K ρ H d v
  | [], _, _, _, _, h => by simp at h
  | d :: ds, vs, i, e, h, hi => by
    rw [RVs] at h
    obtain ⟨v, vr, rfl, q, r⟩ := h
    cases i with
    | zero => simp at hi; subst hi; exact ⟨v, by simp, q⟩
    | succ i =>
      obtain ⟨u, h1, h2⟩ := RVs.get (i := i) r (by simpa using hi)
      exact ⟨u, by simpa using h1, h2⟩
theorem RVs.none : ∀ {ds : List D} {vs : List V} {i : Nat}, RVs K ρ H ds vs → ds[i]? = none → vs[i]? = none := fun {ds vs i} h e => by
  have := RVs.len h
  rw [List.getElem?_eq_none_iff] at e ⊢
  omega
theorem RVs.append : ∀ {ds es : List D} {vs us : List V}, RVs K ρ H ds vs → RVs K ρ H es us → RVs K ρ H (ds ++ es) (vs ++ us)
  | [], _, _, _, h, k => by rw [RVs] at h; subst h; exact k
  | d :: ds, es, vs, us, h, k => by
    rw [RVs] at h
    obtain ⟨v, vr, rfl, q, r⟩ := h
    show RVs K ρ H (d :: (ds ++ es)) (v :: (vr ++ us))
    rw [RVs]
    exact ⟨v, _, rfl, q, RVs.append r k⟩
theorem RVs.cons (h : RV K ρ H d v) {ds : List D} {vs : List V} (k : RVs K ρ H ds vs) : RVs K ρ H (d :: ds) (v :: vs) := by
  rw [RVs]; exact ⟨v, vs, rfl, h, k⟩
theorem RVs.nil : RVs K ρ H [] [] := by rw [RVs]
theorem RVs.one (h : RV K ρ H d v) : RVs K ρ H [d] [v] := .cons h .nil
theorem RVs.drop : ∀ {ds : List D} {vs : List V} (n : Nat), RVs K ρ H ds vs → RVs K ρ H (ds.drop n) (vs.drop n)
  | _, _, 0, h => by simpa using h
  | [], _, n + 1, h => by rw [RVs] at h; subst h; exact .nil
  | d :: ds, vs, n + 1, h => by
    rw [RVs] at h
    obtain ⟨v, vr, rfl, q, r⟩ := h
    simpa using RVs.drop n r
theorem RVs.take : ∀ {ds : List D} {vs : List V} (n : Nat), RVs K ρ H ds vs → RVs K ρ H (ds.take n) (vs.take n)
  | _, _, 0, h => by simpa using RVs.nil
  | [], _, n + 1, h => by rw [RVs] at h; subst h; exact .nil
  | d :: ds, vs, n + 1, h => by
    rw [RVs] at h
    obtain ⟨v, vr, rfl, q, r⟩ := h
    simpa using RVs.cons q (RVs.take n r)
theorem RVs.set (h : RV K ρ H d v) : ∀ {ds : List D} {vs : List V} (n : Nat), RVs K ρ H ds vs → RVs K ρ H (ds.set n d) (vs.set n v)
  | [], _, n, k => by rw [RVs] at k; subst k; simpa using RVs.nil
  | e :: ds, vs, 0, k => by
    rw [RVs] at k
    obtain ⟨u, vr, rfl, q, r⟩ := k
    simpa using RVs.cons h r
  | e :: ds, vs, n + 1, k => by
    rw [RVs] at k
    obtain ⟨u, vr, rfl, q, r⟩ := k
    simpa using RVs.cons q (RVs.set h n r)
theorem RVs.dropLast : ∀ {ds : List D} {vs : List V}, RVs K ρ H ds vs → RVs K ρ H ds.dropLast vs.dropLast := fun {ds vs} h => by
  rw [List.dropLast_eq_take, List.dropLast_eq_take, h.len]
  exact h.take _
theorem RVs.reverse : ∀ {ds : List D} {vs : List V}, RVs K ρ H ds vs → RVs K ρ H ds.reverse vs.reverse
  | [], _, h => by rw [RVs] at h; subst h; exact .nil
  | d :: ds, vs, h => by
    rw [RVs] at h
    obtain ⟨v, vr, rfl, q, r⟩ := h
    simpa using (RVs.reverse r).append (.one q)
theorem RF.by_ (x : Mon K ρ ρ' H H') {nm : Nm} {fs : List (Nat × D)} {fv : List (Str × V)} (h : RF nm K ρ H fs fv) : RF nm K ρ' H' fs fv := by
  obtain ⟨h1, h2, h3⟩ := h
  refine ⟨h1, h2, fun i x' e => ?_⟩
  have := h3 i x' e
  revert this
  cases fs.lookup i with
  | none => exact fun z => z
  | some d => exact fun ⟨v, z, q⟩ => ⟨v, z, q.by_ x⟩
/-- an object that stands as it stood -/
theorem RO.by_ (x : Mon K ρ ρ' H H') {o : Ob} (h : RO pl K ρ H a o) (e : H' a = H a) : RO pl K ρ' H' a o := by
  cases o with
  | lst ds =>
    obtain ⟨xs, q, r⟩ := h
    exact ⟨xs, e.trans q, r.by_ x⟩
  | dk kvs =>
    obtain ⟨vs, q, k, r⟩ := h
    exact ⟨vs, e.trans q, k, r.by_ x⟩
  | dt kvs =>
    obtain ⟨vs, q, k, r⟩ := h
    exact ⟨vs, e.trans q, k, r.by_ x⟩
  | ins C fs =>
    obtain ⟨m, dx, fv, q, r⟩ := h
    exact ⟨m, dx, fv, e.trans q, r.by_ x⟩
  | fz kvs =>
    obtain ⟨o, vs, q, k, r⟩ := h
    exact ⟨o, vs, e.trans q, k, r.by_ x⟩
theorem RO.some {o : Ob} (h : RO pl K ρ H a o) : ∃ u, H a = some u := by
  cases o with
  | lst ds => obtain ⟨xs, q, r⟩ := h; exact ⟨_, q⟩
  | dk kvs => obtain ⟨vs, q, k, r⟩ := h; exact ⟨_, q⟩
  | dt kvs => obtain ⟨vs, q, k, r⟩ := h; exact ⟨_, q⟩
  | ins C fs => obtain ⟨_, dx, fv, q, r⟩ := h; exact ⟨_, q⟩
  | fz kvs => obtain ⟨o, vs, q, k, r⟩ := h; exact ⟨_, q⟩
def isFz : Ob → Bool
  | .fz _ => true
  | _ => false
theorem RO.mut {o : Ob} (h : RO pl K ρ H a o) (hz : isFz o = false) : (∀ xs, H a ≠ Option.some (HO.tup xs)) ∧ (∀ ob u, H a ≠ Option.some (HO.frz ob u)) ∧ ∀ y, H a ≠ Option.some (HO.own y) := by
  cases o with
  | lst ds => obtain ⟨xs, q, r⟩ := h; rw [q]; exact ⟨fun _ z => (by cases z), fun _ _ z => (by cases z), fun _ z => (by cases z)⟩
  | dk kvs => obtain ⟨vs, q, k, r⟩ := h; rw [q]; exact ⟨fun _ z => (by cases z), fun _ _ z => (by cases z), fun _ z => (by cases z)⟩
  | dt kvs => obtain ⟨vs, q, k, r⟩ := h; rw [q]; exact ⟨fun _ z => (by cases z), fun _ _ z => (by cases z), fun _ z => (by cases z)⟩
  | ins C fs => obtain ⟨_, dx, fv, q, r⟩ := h; rw [q]; exact ⟨fun _ z => (by cases z), fun _ _ z => (by cases z), fun _ z => (by cases z)⟩
  | fz kvs => cases hz

theorem RG.at (r : RG pl K ρ H g) {n : Nat} {o : Ob} (h : g[n]? = some o) : ∃ a, ρ[n]? = some a ∧ RO pl K ρ H a o := by
  have hn : n < ρ.length := by rw [r.len]; exact (List.getElem?_eq_some_iff.mp h).1
  exact ⟨ρ[n], List.getElem?_eq_getElem hn, r.obj n o _ h (List.getElem?_eq_getElem hn)⟩
theorem RG.of (r : RG pl K ρ H g) {n : Nat} {o : Ob} (h : g[n]? = some o) (e : ρ[n]? = some a) : RO pl K ρ H a o := r.obj n o a h e
/-- nothing tracked has changed but what no ghost holds -/
theorem RG.ext (r : RG pl K ρ H g) (x : Ext ρ ρ H H') (e : ∀ a ∈ ρ, H' a = H a) : RG pl K ρ H' g :=
  ⟨r.len, r.nd, fun n o a h q => (r.obj n o a h q).by_ x.mon (e a (List.mem_of_getElem? q))⟩
/-- a new thing laid, that no ghost holds -/
theorem Ext.fresh {p : Addr} {o : HO} (h : H p = none) : Ext ρ ρ H (upd H p o) :=
  ⟨⟨[], by simp⟩, fun q hq n => absurd hq n, fun b u e _ => by rw [upd_ne (ne_of_none e h)]; exact e, fun b u e => by rw [upd_ne (ne_of_none e h)]; exact e, fun b u w e => by rw [upd_ne (ne_of_none e h)]; exact e⟩
theorem RG.mem_ne (r : RG pl K ρ H g) {p : Addr} (h : H p = none) : p ∉ ρ := fun m => by
  obtain ⟨n, hn, e⟩ := List.getElem_of_mem m
  have e' : ρ[n]? = some p := by rw [List.getElem?_eq_getElem hn, e]
  have hg : n < g.length := by rw [← r.len]; exact hn
  obtain ⟨u, q⟩ := (r.obj n g[n] p (List.getElem?_eq_getElem hg) e').some
  rw [h] at q; cases q
theorem RG.fresh (r : RG pl K ρ H g) {p : Addr} {o : HO} (h : H p = none) : RG pl K ρ (upd H p o) g :=
  r.ext (.fresh h) fun a ha => upd_ne fun e => r.mem_ne h (e ▸ ha)
/-- what stands at p is held by a ghost from here on -/
theorem RG.push (r : RG pl K ρ H g) {p : Addr} {o : Ob} (n : p ∉ ρ) (h : RO pl K ρ H p o) : RG pl K (ρ ++ [p]) H (g ++ [o]) := by
  have m : Mon K ρ (ρ ++ [p]) H H := ⟨fun n a e => by rw [List.getElem?_append_left (List.getElem?_eq_some_iff.mp e).1]; exact e, fun _ _ h => h, fun _ _ h => h, fun _ _ h => h⟩
  refine ⟨by simp [r.len], ?_, fun k u a hk ha => ?_⟩
  · rw [List.nodup_append]
    refine ⟨r.nd, by simp, fun x hx y hy => ?_⟩
    have : y = p := by simpa using hy
    subst this
    exact fun e => n (e ▸ hx)
  · by_cases hlt : k < g.length
    · rw [List.getElem?_append_left hlt] at hk
      rw [List.getElem?_append_left (by rw [r.len]; exact hlt)] at ha
      exact (r.obj k u a hk ha).by_ m rfl
    · have e : k = g.length := by
        have := (List.getElem?_eq_some_iff.mp hk).1
        simp at this
        omega
      subst e
      rw [List.getElem?_concat_length] at hk
      rw [← r.len, List.getElem?_concat_length] at ha
      cases hk; cases ha
      exact h.by_ m rfl
theorem Ext.push {p : Addr} (n : H p = none) (x : Ext ρ ρ' H H') : Ext ρ (ρ' ++ [p]) H H' := by
  obtain ⟨s, e⟩ := x.pre
  refine ⟨⟨s ++ [p], by rw [e, List.append_assoc]⟩, fun q hq nq => ?_, x.keep, x.tups, x.frzs⟩
  rcases List.mem_append.mp hq with m | m
  · exact x.new q m nq
  · have : q = p := by simpa using m
    subst this
    exact n
/-- an object is written -/
theorem RG.write (r : RG pl K ρ H g) {n : Nat} {o : Ob} {u : HO} (ha : ρ[n]? = some a) (ho : ∃ o', g[n]? = some o' ∧ isFz o' = false) (h : ∀ H', Mon K ρ ρ H H' → H' a = some u → RO pl K ρ H' a o) :
    RG pl K ρ (upd H a u) (g.set n o) ∧ Ext ρ ρ H (upd H a u) := by
  obtain ⟨o', ho, hz⟩ := ho
  have old := r.obj n o' a ho ha
  obtain ⟨m1, m2, _⟩ := old.mut hz
  have x : Ext ρ ρ H (upd H a u) := by
    refine ⟨⟨[], by simp⟩, fun p h n => absurd h n, fun b w e nb => ?_, fun b xs e => ?_, fun b w z e => ?_⟩
    · rw [upd_ne (show b ≠ a from fun z => nb (z ▸ List.mem_of_getElem? ha))]; exact e
    · rw [upd_ne (show b ≠ a from fun z => m1 xs (z ▸ e))]; exact e
    · rw [upd_ne (show b ≠ a from fun q => m2 w z (q ▸ e))]; exact e
  refine ⟨⟨by simp [r.len], r.nd, fun k w b hk hb => ?_⟩, x⟩
  by_cases e : k = n
  · subst e
    rw [ha] at hb; cases hb
    rw [List.getElem?_set_self (List.getElem?_eq_some_iff.mp ho).1] at hk
    cases hk
    exact h _ x.mon upd_same
  · rw [List.getElem?_set_ne (Ne.symm e)] at hk
    refine (r.obj k w b hk hb).by_ x.mon (upd_ne fun z => e ?_)
    subst z
    obtain ⟨h1, e1⟩ := List.getElem?_eq_some_iff.mp ha
    obtain ⟨h2, e2⟩ := List.getElem?_eq_some_iff.mp hb
    exact (List.getElem_inj r.nd).mp (e2.trans e1.symm)
end
end Sd
set_option Elab.async false
set_option linter.all false
set_option maxRecDepth 100000
/-! Snd2: readings by the evaluator's ends; the expressions' rules. -/
namespace Sd
open PySem PySem.Spec PyProof.Rows L2 Py

/-- the slots -/
def RL (K : PySem.W.Frag) (ρ : List Addr) (H : Hp) (σ : L2.St) (L : Lc) : Prop :=
  σ.length = L.length ∧ ∀ (i : Nat) d, L[i]? = some (some d) → ∃ v, σ[i]? = some (some v) ∧ RV K ρ H d v
/-- a value, or a list that no ghost holds, new since H0 -/
def RX (K : PySem.W.Frag) (ρ : List Addr) (H0 H : Hp) (v : V) : XV → Prop
  | .d d => RV K ρ H d v
  | .tmp xs => ∃ a vs, v = .ref a ∧ H a = some (.lst vs) ∧ RVs K ρ H xs vs ∧ a ∉ ρ ∧ H0 a = none
section
variable {pl : Pl} {K : PySem.W.Frag} {ρ ρ' ρ'' : List Addr} {H H' H'' H0 : Hp} {g : G} {a : Addr} {v : V} {d : D}
theorem RL.mono (x : Ext ρ ρ' H H') {σ : L2.St} {L : Lc} (h : RL K ρ H σ L) : RL K ρ' H' σ L :=
  ⟨h.1, fun i d e => let ⟨v, q, r⟩ := h.2 i d e; ⟨v, q, r.mono x⟩⟩
theorem RL.set (h : RL K ρ H σ L) (r : RV K ρ H d v) (i : Nat) : RL K ρ H (σ.set i (some v)) (L.set i (some d)) := by
  refine ⟨by simp [h.1], fun j e q => ?_⟩
  by_cases hj : i = j
  · subst hj
    have hl : i < L.length := by
      have := (List.getElem?_eq_some_iff.mp q).1
      simpa using this
    rw [List.getElem?_set_self hl] at q
    cases q
    exact ⟨v, by rw [List.getElem?_set_self (by rw [h.1]; exact hl)], r⟩
  · rw [List.getElem?_set_ne hj] at q
    obtain ⟨u, q1, q2⟩ := h.2 j e q
    exact ⟨u, by rw [List.getElem?_set_ne hj]; exact q1, q2⟩
theorem Ext.none_of (x : Ext ρ ρ' H H') (h : H' a = none) (n : a ∉ ρ') : H a = none := by
  have n' : a ∉ ρ := fun m => by
    obtain ⟨s, e⟩ := x.pre
    exact n (by rw [e]; exact List.mem_append_left _ m)
  cases q : H a with
  | none => rfl
  | some o =>
    rw [x.keep a o q n'] at h
    cases h
theorem Ext.nmem (x : Ext ρ ρ' H H') {o : HO} (h : H a = some o) (n : a ∉ ρ) : a ∉ ρ' := fun m => by
  have := x.new a m n
  rw [h] at this; cases this
/-- later -/
theorem RX.mono {x : XV} (e : Ext ρ ρ' H H') (h : RX K ρ H0 H v x) : RX K ρ' H0 H' v x := by
  cases x with
  | d d => exact RV.mono e h
  | tmp xs =>
    obtain ⟨a, vs, e1, q, r, n, z⟩ := h
    exact ⟨a, vs, e1, e.keep _ _ q n, r.mono e, e.nmem q n, z⟩
/-- since earlier -/
theorem RX.since {x : XV} (e : Ext ρ ρ' H0 H) (f : Ext ρ' ρ'' H H') (h : RX K ρ'' H H' v x) : RX K ρ'' H0 H' v x := by
  cases x with
  | d d => exact h
  | tmp xs =>
    obtain ⟨a, vs, e1, q, r, n, z⟩ := h
    refine ⟨a, vs, e1, q, r, n, e.none_of z fun m => n ?_⟩
    obtain ⟨s, e⟩ := f.pre
    rw [e]; exact List.mem_append_left _ m
end

/-! ### ends -/
abbrev Wish := Xc → Hp → Prop
/-- what is wanted of an end; Rel says how what is given is related (places, the heap ahead, the heap behind) -/
def Po {α β : Type} (pl : Pl) (K : PySem.W.Frag) (Rel : List Addr → Hp → Hp → β → α → Prop) (ρ : List Addr) (H : Hp) (Wx : Wish) (Q : β → Hp → Prop) : R α → Prop
  | .ok x g => ∀ ρ' H' v, Ext ρ ρ' H H' → RG pl K ρ' H' g → Rel ρ' H H' v x → Q v H'
  | .ex e g => ∀ ρ' H', Ext ρ ρ' H H' → RG pl K ρ' H' g → Wx e H'
  | .bad => False
abbrev relX (K : PySem.W.Frag) : List Addr → Hp → Hp → V → XV → Prop := fun ρ H0 H v x => RX K ρ H0 H v x
abbrev relD (K : PySem.W.Frag) : List Addr → Hp → Hp → V → D → Prop := fun ρ _ H v x => RV K ρ H x v
abbrev relDs (K : PySem.W.Frag) : List Addr → Hp → Hp → List V → List D → Prop := fun ρ _ H v x => RVs K ρ H x v
abbrev relB : List Addr → Hp → Hp → Bool → Bool → Prop := fun _ _ _ b x => b = x
/-- a relation that forgets nothing when it is looked at from earlier -/
def Since {α β : Type} (Rel : List Addr → Hp → Hp → β → α → Prop) : Prop := ∀ ρ ρ' ρ'' H0 H H' v x, Ext ρ ρ' H0 H → Ext ρ' ρ'' H H' → Rel ρ'' H H' v x → Rel ρ'' H0 H' v x
theorem since_X {K : PySem.W.Frag} : Since (relX K) := fun _ _ _ _ _ _ _ _ e f h => RX.since e f h
theorem since_D {K : PySem.W.Frag} : Since (relD K) := fun _ _ _ _ _ _ _ _ _ _ h => h
theorem since_Ds {K : PySem.W.Frag} : Since (relDs K) := fun _ _ _ _ _ _ _ _ _ _ h => h
theorem since_B : Since relB := fun _ _ _ _ _ _ _ _ _ _ h => h

section
variable {α β γ δ : Type} {pl : Pl} {K : PySem.W.Frag} {Rel : List Addr → Hp → Hp → β → α → Prop} {Rel' : List Addr → Hp → Hp → δ → γ → Prop} {ρ ρ' : List Addr} {H H' : Hp} {Wx : Wish} {Q : β → Hp → Prop} {Q' : δ → Hp → Prop} {r : R α}
theorem Po.imp {Q2 : β → Hp → Prop} (h : Po pl K Rel ρ H Wx Q r) (k : ∀ v H', Q v H' → Q2 v H') : Po pl K Rel ρ H Wx Q2 r := by
  cases r with
  | ok x g => exact fun ρ' H' v e rg rx => k _ _ (h ρ' H' v e rg rx)
  | ex e g => exact h
  | bad => exact h
theorem Po.shift (s : Since Rel) (h : Po pl K Rel ρ H Wx Q r) (e : Ext ρ ρ' H H') : Po pl K Rel ρ' H' Wx Q r := by
  cases r with
  | ok x g => exact fun ρ2 H2 v f rg rx => h ρ2 H2 v (e.trans f) rg (s _ _ _ _ _ _ _ _ e f rx)
  | ex x g => exact fun ρ2 H2 f rg => h ρ2 H2 (e.trans f) rg
  | bad => exact h
/-- one after another -/
theorem Po.bind (s : Since Rel') {f : α → G → R γ} (h : Po pl K Rel' ρ H Wx Q' (r.bind f)) :
    Po pl K Rel ρ H Wx (fun v H1 => ∃ ρ1 x g1, Ext ρ ρ1 H H1 ∧ RG pl K ρ1 H1 g1 ∧ Rel ρ1 H H1 v x ∧ Po pl K Rel' ρ1 H1 Wx Q' (f x g1)) r := by
  cases r with
  | ok x g => exact fun ρ' H' v e rg rx => ⟨ρ', x, g, e, rg, rx, Po.shift s h e⟩
  | ex e g => exact h
  | bad => exact h
/-- one after another, the end looked at from the start too -/
theorem Po.bind' (s : Since Rel') {f : α → G → R γ} (h : Po pl K Rel' ρ H Wx Q' (r.bind f)) :
    Po pl K Rel ρ H Wx (fun v H1 => ∃ ρ1 x g1, Ext ρ ρ1 H H1 ∧ RG pl K ρ1 H1 g1 ∧ Rel ρ1 H H1 v x ∧ Po pl K Rel' ρ1 H1 Wx Q' (f x g1) ∧ Po pl K Rel' ρ H Wx Q' (f x g1)) r := by
  cases r with
  | ok x g => exact fun ρ' H' v e rg rx => ⟨ρ', x, g, e, rg, rx, Po.shift s h e, h⟩
  | ex e g => exact h
  | bad => exact h
theorem Po.ofO {o : Option α} {g : G} (h : Po pl K Rel ρ H Wx Q (ofO o g)) : ∃ x, o = some x ∧ ∀ ρ' H' v, Ext ρ ρ' H H' → RG pl K ρ' H' g → Rel ρ' H H' v x → Q v H' := by
  cases o with
  | none => exact h.elim
  | some x => exact ⟨x, rfl, h⟩
end

/-! ### the context -/
/-- how an exception of Ev0 stands in HandS's wishes -/
def wish (pl : Pl) (W : WX) (σ : L2.St) : Wish := fun e H => e.fs = [] → W (.ref (pl.ca e.cls)) none σ H
/-- what a def promises -/
def spE (pl : Pl) (K : PySem.W.Frag) (T : Tb) (np : Nat) (k f : Nat) : Sp := fun vs H Q E => vs.length = np ∧ ∃ ρ ds g, RVs K ρ H ds vs ∧ RG pl K ρ H g ∧
  Po pl K (relD K) ρ H (fun e H => e.fs = [] → E (.ref (pl.ca e.cls)) none H) Q (runF T k f ds g)

/-- a call's level -/
def lv : Nat → Nat
  | 0 => 0
  | k + 1 => k + 2
theorem lv_le (k : Nat) : lv k ≤ k + 1 := by cases k <;> simp [lv]
theorem lv_pred (k : Nat) : lv (k - 1) + 1 ≤ k + 1 := by
  cases k with
  | zero => exact Nat.le_refl _
  | succ k =>
    show lv k + 1 ≤ k + 1 + 1
    have := lv_le k
    omega
/-- a def of the table as it is called -/
structure FnAt (P : Program) (w : World) (K : PySem.W.Frag) (mg : Str → Option Value) (base : Heap) (pl : Pl) (T : Tb) (k f : Nat) (fa : Addr) : Prop where
  ok : ∃ (fd : FuncData) (ps : List Str) (F : Fn), T.fn f = some F ∧ FnOk P w K mg base (L2.CX P w) (lv k) fa fd ps (spE pl K T F.np k f) ∧ Binds K fd ps [] ∧ ps.length = F.np
  kp : PySem.W.keepIn K (.ref fa) = true

def bnames : List Str := ["len", "abs", "int", "bool", "str", "tuple", "list", "all", "any", "sum", "max", "min", "sorted", "dict", "repr", "range", "enumerate", "zip", "reversed", "isinstance", "set"]

/-- a module's dict with text keys -/
def GDict (K : PySem.W.Frag) (w : World) (a : Addr) (kvs : List (Tx × D)) : Prop :=
  (a == sysModules) = false ∧ ∃ es n, K.lookup a = some ⟨.type "dict", none, .dict es n, #[]⟩ ∧ PySem.W.KeysLit w.params es.toList ∧
    ∀ z, match kvs.lookup z with
      | some d => ∃ u v, PySem.W.nsIn K a (toS z) = some (some u) ∧ RelV v u ∧ ∀ ρ H, RV K ρ H d v
      | none => PySem.W.nsIn K a (toS z) = some none
/-- the top, as the defs see it, at calls k deep -/
structure Top (P : Program) (w : World) (K : PySem.W.Frag) (mg : Str → Option Value) (base : Heap) (pl : Pl) (T : Tb) (k : Nat) : Prop where
  blt : ∀ x ∈ bnames, mg x = none
  gls : ∀ (i : Nat) x d, pl.nm.gls[i]? = some x → T.gl i = some d → ∃ u v, mg x = some u ∧ RelV v u ∧ ∀ ρ H, RV K ρ H d v
  fns : ∀ (f : Nat) x, pl.nm.fns[f]? = some (some x) → ∃ fa, mg x = some (.ref fa) ∧ FnAt P w K mg base pl T k f fa
  mts : ∀ C m f x, T.mt C m = some f → pl.nm.ats[m]? = some x → ∃ fa, Meth K (pl.ca C) x fa ∧ FnAt P w K mg base pl T k f fa
  cls : ∀ C x f, T.ini C = some f → pl.nm.cls[C]? = some x → mg x = some (.ref (pl.ca C)) ∧ ∃ fa, Mk K (pl.ca C) fa ∧ FnAt P w K mg base pl T (k - 1) f fa
  cl : ∀ C f, T.ini C = some f → Cls K (pl.ca C)
  exc : ∀ (C : Nat) x, pl.nm.cls[C]? = some x → T.ini C = none → mg x = some (.ref (pl.ca C)) ∧ PySem.W.excIn K (pl.ca C) [.type "ValueError", .type "Exception", .type "BaseException", .type "object"] "ValueError.__new__" = true ∧ PySem.W.keepIn K (.ref (pl.ca C)) = true ∧
    PySem.W.subIn K (.ref (pl.ca C)) (.type "BaseException") = some true ∧ PySem.W.typeIn K (.ref (pl.ca C)) = some (.type "type")
  sub : ∀ c C b, T.sub c C = some b → PySem.W.exmOne K (.ref (pl.ca c)) (.ref (pl.ca C)) = some b
  nat : ∀ C f (i : Nat) x, T.ini C = some f → pl.nm.ats[i]? = some x → T.mt C i = none → NoAttr K (pl.ca C) x
  nd : pl.nm.ats.Nodup
  ini : pl.ini = T.ini
  gds : ∀ (i : Nat) x kvs, pl.nm.gls[i]? = some x → T.gd i = some kvs → ∃ a, mg x = some (.ref a) ∧ GDict K w a kvs
  isx : ∀ c C b, T.sub c C = some b → ExcC K (pl.ca c) ∧ PySem.W.kitOne K (.ref (pl.ca c)) (.ref (pl.ca C)) = some b

/-- a context in which the table is seen; W: what is wished of exceptions -/
structure Good (T : Tb) (pl : Pl) (k : Nat) (N : List Str) (sc : Scope) (W : WX) (X : Cx) : Prop where
  top : Top X.prog X.w X.K X.mg X.base pl T k
  hN : X.N = N
  sc_ : X.env.scope = sc
  nd : N.Nodup
  un : X.A.units + 66 < cLine
  tk : Takes X W
/-- a context in which defs may be called -/
structure Calm (k : Nat) (X : Cx) : Prop where
  calm : X.calm = true
  room : Room (k + 1) X.A

/-- an expression's reading by the evaluator -/
def tE (T : Tb) (pl : Pl) (K : PySem.W.Frag) (k : Nat) (W : WX) (e : E) : TE := fun σ H Q =>
  ∃ ρ L g, RL K ρ H σ L ∧ RG pl K ρ H g ∧ Po pl K (relX K) ρ H (wish pl W σ) Q (ev T (runF T k) e L g)
def tEs (T : Tb) (pl : Pl) (K : PySem.W.Frag) (k : Nat) (W : WX) (e : Es) : TA := fun σ H Q =>
  ∃ ρ L g, RL K ρ H σ L ∧ RG pl K ρ H g ∧ Po pl K (relDs K) ρ H (wish pl W σ) Q (evs T (runF T k) e L g)
/-- a value laid into the heap where no ghost held it -/
def tD (T : Tb) (pl : Pl) (K : PySem.W.Frag) (k : Nat) (W : WX) (e : E) : TE := fun σ H Q =>
  ∃ ρ L g, RL K ρ H σ L ∧ RG pl K ρ H g ∧ Po pl K (relD K) ρ H (wish pl W σ) Q (ev T (runF T k) e L g).lay
def tT (T : Tb) (pl : Pl) (K : PySem.W.Frag) (k : Nat) (W : WX) (e : E) : TT := fun σ H Q =>
  ∃ ρ L g, RL K ρ H σ L ∧ RG pl K ρ H g ∧ Po pl K relB ρ H (wish pl W σ) Q (ev T (runF T k) e L g).test

section
variable {T : Tb} {pl : Pl} {X : Cx} {k : Nat} {N : List Str} {sc : Scope} {W : WX} {ia ib ic : E} {a b c : Expr} {pos : Pos}
/-- the next one begins -/
theorem next {α β : Type} {Rel : List Addr → Hp → Hp → β → α → Prop} {K : PySem.W.Frag} {ρ ρ1 : List Addr} {H H1 : Hp} {σ : L2.St} {L : Lc} {g : G} {Wx : Wish} {Q : β → Hp → Prop} {r : R α} (rl : RL K ρ H σ L) (e : Ext ρ ρ1 H H1) (rg : RG pl K ρ1 H1 g) (h : Po pl K Rel ρ1 H1 Wx Q r) :
    ∃ ρ, RL K ρ H1 σ L ∧ RG pl K ρ H1 g ∧ Po pl K Rel ρ H1 Wx Q r := ⟨ρ1, rl.mono e, rg, h⟩

theorem s_v {i : Nat} {x : Str} (hN : X.N[i]? = some x) (hv : Vis X.env.scope x) (hd : (x == ("__debug__" : Str)) = false) (hcd : (x == ("__classdict__" : Str)) = false) : PE X (.Name x pos) (tE T pl X.K k W (.v i)) := by
  refine ⟨fun pins s σ H Q I h => ?_⟩
  obtain ⟨ρ, L, g, rl, rg, h⟩ := h
  rw [ev] at h
  cases e : L[i]? with
  | none => rw [e] at h; exact h.elim
  | some o =>
    rw [e] at h
    cases o with
    | none => exact h.elim
    | some d =>
      obtain ⟨v, q, r⟩ := rl.2 i d e
      exact (pe_var hN hv hd hcd).run pins s σ H Q I ⟨v, q, h ρ H v .refl rg r⟩
theorem s_int {i : Int} {j : Nat} : PE X (.Constant (.int i) j pos) (tE T pl X.K k W (.c (.int i))) := by
  refine ⟨fun pins s σ H Q I h => ?_⟩
  obtain ⟨ρ, L, g, rl, rg, h⟩ := h
  rw [ev] at h
  exact pe_int.run pins s σ H Q I (h ρ H (.int i) .refl rg (by show RV _ _ _ _ _; rw [RV]))
theorem s_bl {i : Bool} {j : Nat} : PE X (.Constant (.bool i) j pos) (tE T pl X.K k W (.c (.bl i))) := by
  refine ⟨fun pins s σ H Q I h => ?_⟩
  obtain ⟨ρ, L, g, rl, rg, h⟩ := h
  rw [ev] at h
  exact pe_bl.run pins s σ H Q I (h ρ H (.bl i) .refl rg (by show RV _ _ _ _ _; rw [RV]))
theorem s_non {j : Nat} : PE X (.Constant .none j pos) (tE T pl X.K k W (.c .non)) := by
  refine ⟨fun pins s σ H Q I h => ?_⟩
  obtain ⟨ρ, L, g, rl, rg, h⟩ := h
  rw [ev] at h
  exact pe_non.run pins s σ H Q I (h ρ H .non .refl rg (by show RV _ _ _ _ _; rw [RV]))
theorem s_str {z : Tx} {j : Nat} : PE X (.Constant (.str (toS z)) j pos) (tE T pl X.K k W (.c (.str z))) := by
  refine ⟨fun pins s σ H Q I h => ?_⟩
  obtain ⟨ρ, L, g, rl, rg, h⟩ := h
  rw [ev] at h
  exact pe_str.run pins s σ H Q I (h ρ H (.str (toS z)) .refl rg (by show RV _ _ _ _ _; rw [RV]))
theorem s_g {i : Nat} {x : Str} (G : Good T pl k N sc W X) (hg : Gl X x) (hn : pl.nm.gls[i]? = some x) (hd : (x == ("__debug__" : Str)) = false) : PE X (.Name x pos) (tE T pl X.K k W (.g i)) := by
  refine ⟨fun pins s σ H Q I h => ?_⟩
  obtain ⟨ρ, L, g, rl, rg, h⟩ := h
  rw [ev] at h
  obtain ⟨y, e, h⟩ := h.ofO
  cases e1 : T.gl i with
  | none => rw [e1] at e; cases e
  | some d =>
    rw [e1] at e
    cases e
    obtain ⟨u, v, m, r, q⟩ := G.top.gls i x d hn e1
    exact (pe_glob hg m r hd).run pins s σ H Q I (h ρ H v .refl rg (q ρ H))

/-! ### by values -/
/-- what an operation on two values may be asked -/
def rB (pl : Pl) (K : PySem.W.Frag) (f : G → XV → XV → Option XV) : R2 := fun v u H Q => ∃ ρ g x y z H1 H2, RG pl K ρ H g ∧ RX K ρ H1 H v x ∧ RX K ρ H2 H u y ∧ f g x y = some z ∧ ∀ ρ' H' v', Ext ρ ρ' H H' → RG pl K ρ' H' g → RX K ρ' H H' v' z → Q v' H'
theorem s_bin2 {t : TE} {f : G → XV → XV → Option XV} {e : Expr} (h : t = fun σ H Q => tE T pl X.K k W ia σ H fun x H1 => tE T pl X.K k W ib σ H1 fun y H2 => rB pl X.K f x y H2 Q) (p : PE X e t) :
    PE X e (fun σ H Q => ∃ ρ L g, RL X.K ρ H σ L ∧ RG pl X.K ρ H g ∧ Po pl X.K (relX X.K) ρ H (wish pl W σ) Q ((ev T (runF T k) ia L g).bind fun x g => (ev T (runF T k) ib L g).bind fun y g => ofO (f g x y) g)) := by
  refine ⟨fun pins s σ H Q I hw => p.run pins s σ H Q I ?_⟩
  subst h
  obtain ⟨ρ, L, g, rl, rg, h⟩ := hw
  refine ⟨ρ, L, g, rl, rg, (h.bind (Rel := relX X.K) since_X).imp fun v H1 ⟨ρ1, x, g1, e1, rg1, rx, h⟩ => ?_⟩
  refine ⟨ρ1, L, g1, rl.mono e1, rg1, (h.bind (Rel := relX X.K) since_X).imp fun u H2 ⟨ρ2, y, g2, e2, rg2, ry, h⟩ => ?_⟩
  obtain ⟨z, ez, h⟩ := h.ofO
  exact ⟨ρ2, g2, x, y, z, H, H1, rg2, rx.mono e2, ry, ez, h⟩
end
end Sd
set_option Elab.async false
set_option linter.all false
set_option maxRecDepth 100000
set_option maxHeartbeats 1000000
/-! Snd3: operators and comparisons by values. -/
namespace Sd
open PySem PySem.Spec PyProof.Rows L2 Py

theorem line_eq : Py.line = sizeLine := by rw [sizeLine_eq]; rfl

section
variable {pl : Pl} {K : PySem.W.Frag} {ρ ρ' : List Addr} {H H' H0 : Hp} {g : G} {a : Addr} {v : V} {d : D}
theorem rv_int {i : Int} (h : RV K ρ H (.int i) v) : v = .int i := by rw [RV] at h; exact h
theorem rv_str {i : Tx} (h : RV K ρ H (.str i) v) : v = .str (toS i) := by rw [RV] at h; exact h
theorem rv_bl {i : Bool} (h : RV K ρ H (.bl i) v) : v = .bl i := by rw [RV] at h; exact h
theorem rv_non (h : RV K ρ H .non v) : v = .non := by rw [RV] at h; exact h
theorem rv_tup {ds : List D} (h : RV K ρ H (.tup ds) v) : ∃ a xs, v = .ref a ∧ H a = some (.tup xs) ∧ RVs K ρ H ds xs := by rw [RV] at h; exact h
theorem rv_kt {ds : List D} (h : RV K ρ H (.kt ds) v) : ∃ a xs, v = .ref a ∧ SqT K H a xs ∧ RVs K ρ H ds xs := by rw [RV] at h; exact h
theorem rv_ls {ds : List D} (h : RV K ρ H (.ls ds) v) : ∃ a xs, v = .ref a ∧ FzL K H a xs ∧ RVs K ρ H ds xs := by rw [RV] at h; exact h
theorem rv_ref {n : Nat} (h : RV K ρ H (.ref n) v) : ∃ a, v = .ref a ∧ ρ[n]? = some a := by rw [RV] at h; exact h
theorem RV.int (i : Int) : RV K ρ H (.int i) (.int i) := by rw [RV]
theorem RV.bl (i : Bool) : RV K ρ H (.bl i) (.bl i) := by rw [RV]
theorem RV.str (i : Tx) : RV K ρ H (.str i) (.str (toS i)) := by rw [RV]
theorem RV.non : RV K ρ H .non .non := by rw [RV]
theorem RV.tup {ds : List D} {xs : List V} (h : H a = some (.tup xs)) (r : RVs K ρ H ds xs) : RV K ρ H (.tup ds) (.ref a) := by rw [RV]; exact ⟨a, xs, rfl, h, r⟩
theorem RV.ref {n : Nat} (h : ρ[n]? = some a) : RV K ρ H (.ref n) (.ref a) := by rw [RV]; exact ⟨a, rfl, h⟩

theorem RX.int (i : Int) : RX K ρ H0 H (.int i) (.d (.int i)) := by show RV K ρ H _ _; exact RV.int i
theorem RX.bl (i : Bool) : RX K ρ H0 H (.bl i) (.d (.bl i)) := by show RV K ρ H _ _; exact RV.bl i
theorem RX.str (i : Tx) : RX K ρ H0 H (.str (toS i)) (.d (.str i)) := by show RV K ρ H _ _; exact RV.str i
theorem RX.non : RX K ρ H0 H .non (.d .non) := by show RV K ρ H _ _; exact RV.non
theorem RX.tup {ds : List D} {xs : List V} (h : H a = some (.tup xs)) (r : RVs K ρ H ds xs) : RX K ρ H0 H (.ref a) (.d (.tup ds)) := by show RV K ρ H _ _; exact RV.tup h r
theorem RX.ref {n : Nat} (h : ρ[n]? = some a) : RX K ρ H0 H (.ref a) (.d (.ref n)) := by show RV K ρ H _ _; exact RV.ref h
theorem ref_obj (rg : RG pl K ρ H g) {n : Nat} {o : Ob} (h : RV K ρ H (.ref n) v) (e : g[n]? = some o) : ∃ a, v = .ref a ∧ ρ[n]? = some a ∧ RO pl K ρ H a o := by
  obtain ⟨a, rfl, q⟩ := rv_ref h
  exact ⟨a, rfl, q, rg.of e q⟩
theorem rx_int {i : Int} (h : RX K ρ H0 H v (.d (.int i))) : v = .int i := rv_int (show RV K ρ H _ _ from h)
theorem rx_str {i : Tx} (h : RX K ρ H0 H v (.d (.str i))) : v = .str (toS i) := rv_str (show RV K ρ H _ _ from h)
theorem rx_bl {i : Bool} (h : RX K ρ H0 H v (.d (.bl i))) : v = .bl i := rv_bl (show RV K ρ H _ _ from h)
theorem rx_non (h : RX K ρ H0 H v (.d .non)) : v = .non := rv_non (show RV K ρ H _ _ from h)
theorem rx_tup {ds : List D} (h : RX K ρ H0 H v (.d (.tup ds))) : ∃ a xs, v = .ref a ∧ H a = some (.tup xs) ∧ RVs K ρ H ds xs := rv_tup (show RV K ρ H _ _ from h)
theorem rx_kt {ds : List D} (h : RX K ρ H0 H v (.d (.kt ds))) : ∃ a xs, v = .ref a ∧ SqT K H a xs ∧ RVs K ρ H ds xs := rv_kt (show RV K ρ H _ _ from h)
theorem rx_ls {ds : List D} (h : RX K ρ H0 H v (.d (.ls ds))) : ∃ a xs, v = .ref a ∧ FzL K H a xs ∧ RVs K ρ H ds xs := rv_ls (show RV K ρ H _ _ from h)
theorem rx_ref {n : Nat} (h : RX K ρ H0 H v (.d (.ref n))) : ∃ a, v = .ref a ∧ ρ[n]? = some a := rv_ref (show RV K ρ H _ _ from h)
theorem rx_obj (rg : RG pl K ρ H g) {n : Nat} {o : Ob} (h : RX K ρ H0 H v (.d (.ref n))) (e : g[n]? = some o) : ∃ a, v = .ref a ∧ ρ[n]? = some a ∧ RO pl K ρ H a o := ref_obj rg (show RV K ρ H _ _ from h) e
theorem listOf_ok (rg : RG pl K ρ H g) {x : XV} {ds : List D} (h : RX K ρ H0 H v x) (e : Py.listOf g x = some ds) : ∃ a vs, v = .ref a ∧ H a = some (.lst vs) ∧ RVs K ρ H ds vs := by
  unfold Py.listOf at e
  split at e
  · cases e
    obtain ⟨a, vs, e1, q, r, _⟩ := h
    exact ⟨a, vs, e1, q, r⟩
  · split at e
    · rename_i e2
      cases e
      obtain ⟨a, e1, _, vs, q, r⟩ := rx_obj rg h e2
      exact ⟨a, vs, e1, q, r⟩
    · cases e
  · cases e
theorem items_ok (rg : RG pl K ρ H g) {x : XV} {ds : List D} (h : RX K ρ H0 H v x) (e : Py.items g x = some ds) : ∃ a vs, v = .ref a ∧ (SqL K H a vs ∨ SqT K H a vs) ∧ RVs K ρ H ds vs := by
  unfold Py.items at e
  split at e
  · cases e
    obtain ⟨a, vs, e1, q, r, _⟩ := h
    exact ⟨a, vs, e1, .inl (.of q), r⟩
  · cases e
    obtain ⟨a, vs, e1, q, r⟩ := rx_tup h
    exact ⟨a, vs, e1, .inr (.of q), r⟩
  · cases e
    obtain ⟨a, vs, e1, q, r⟩ := rx_ls h
    exact ⟨a, vs, e1, .inl q.sq, r⟩
  · cases e
    obtain ⟨a, vs, e1, q, r⟩ := rx_kt h
    exact ⟨a, vs, e1, .inr q, r⟩
  · split at e
    · rename_i e2
      cases e
      obtain ⟨a, e1, _, vs, q, r⟩ := rx_obj rg h e2
      exact ⟨a, vs, e1, .inl (.of q), r⟩
    · cases e
  · cases e
/-- a new list that no ghost holds -/
theorem new_tmp (rg : RG pl K ρ H g) {Q : VK} {ds : List D} {vs : List V} (r : RVs K ρ H ds vs) (q : ∀ ρ' H' v', Ext ρ ρ' H H' → RG pl K ρ' H' g → RX K ρ' H H' v' (.tmp ds) → Q v' H') (p : Addr) (n : H p = none) : Q (.ref p) (upd H p (.lst vs)) :=
  q ρ _ _ (.fresh n) (rg.fresh n) ⟨p, vs, rfl, upd_same, r.mono (.fresh n), rg.mem_ne n, n⟩
theorem new_tup (rg : RG pl K ρ H g) {Q : VK} {ds : List D} {vs : List V} (r : RVs K ρ H ds vs) (q : ∀ ρ' H' v', Ext ρ ρ' H H' → RG pl K ρ' H' g → RX K ρ' H H' v' (.d (.tup ds)) → Q v' H') (p : Addr) (n : H p = none) : Q (.ref p) (upd H p (.tup vs)) :=
  q ρ _ _ (.fresh n) (rg.fresh n) (RX.tup upd_same (r.mono (.fresh n)))
theorem RVs.eq_nil {ds : List D} {vs : List V} (r : RVs K ρ H ds vs) : vs = [] ↔ ds = [] := by
  have := r.len
  constructor
  · intro e; subst e; exact List.length_eq_zero_iff.mp this.symm
  · intro e; subst e; exact List.length_eq_zero_iff.mp this
theorem RVs.rep {ds : List D} {vs : List V} (r : RVs K ρ H ds vs) : ∀ n : Nat, RVs K ρ H (List.replicate n ds).flatten (List.replicate n vs).flatten
  | 0 => by simpa using RVs.nil
  | n + 1 => by
    rw [List.replicate_succ, List.replicate_succ, List.flatten_cons, List.flatten_cons]
    exact r.append (RVs.rep r n)
end

section
variable {pl : Pl} {X : Cx}
theorem op_bin_add : OpR X (binaryOp .Add) (rB pl X.K fun g => binop g .add) := by
  intro pins s σ H x y v u Q I rx ry h
  obtain ⟨ρ, g, dx, dy, z, H1, H2, rg, r1, r2, ez, q⟩ := h
  simp only [binop] at ez
  split at ez
  · cases ez
    obtain rfl := rx_int r1
    obtain rfl := rx_int r2
    exact op_add pins s σ H _ _ v u Q I rx ry ⟨_, _, rfl, rfl, q ρ H _ .refl rg (RX.int _)⟩
  · rename_i a b
    split at ez
    · rename_i hl
      cases ez
      obtain rfl := rx_str r1
      obtain rfl := rx_str r2
      refine op_add_str pins s σ H _ _ v u Q I rx ry ⟨_, _, rfl, rfl, by rw [toS_len, toS_len, ← line_eq]; exact hl, ?_⟩
      rw [toS_append]
      exact q ρ H _ .refl rg (RX.str _)
    · cases ez
  · rename_i a b
    split at ez
    · rename_i hl
      cases ez
      obtain ⟨p, xs, rfl, h1, k1⟩ := rx_tup r1
      obtain ⟨p', ys, rfl, h2, k2⟩ := rx_tup r2
      refine op_catA pins s σ H _ _ v u Q I rx ry ⟨p, p', xs, ys, rfl, rfl, .of h1, .of h2, by rw [k1.len, k2.len, ← line_eq]; exact hl, fun e => ?_, fun e e' => ?_, fun _ _ p n => new_tup rg (k1.append k2) q p n⟩
      · have e1 : a = [] := k1.eq_nil.mp e
        subst e1
        exact q ρ H _ .refl rg (RX.tup h2 k2)
      · have e1 : b = [] := k2.eq_nil.mp e'
        subst e1
        rw [List.append_nil] at q
        exact q ρ H _ .refl rg (RX.tup h1 k1)
    · cases ez
  · split at ez
    · rename_i a b e1 e2
      split at ez
      · rename_i hl
        cases ez
        obtain ⟨p, xs, rfl, h1, k1⟩ := listOf_ok rg r1 e1
        obtain ⟨p', ys, rfl, h2, k2⟩ := listOf_ok rg r2 e2
        exact op_cat pins s σ H _ _ v u Q I rx ry ⟨p, p', xs, ys, rfl, rfl, h1, h2, by rw [k1.len, k2.len, ← line_eq]; exact hl, fun p n => new_tmp rg (k1.append k2) q p n⟩
      · cases ez
    · cases ez
theorem sub_bools (a b : Bool) : Gives (Builtin.«int.__sub__» ⟨[.bool a, .bool b], []⟩) (.int ((if a = true then (1 : Int) else 0) - if b = true then (1 : Int) else 0)) :=
  .of_wp fun M A E s Q h => by obtain ⟨hp, g, d, tk, os⟩ := s; wp_walk; exact ⟨_, rfl, h⟩
theorem op_sub_bools : OpR X (binaryOp .Sub) (fun x y H Q => ∃ a b, x = .bl a ∧ y = .bl b ∧ Q (.int ((if a = true then (1 : Int) else 0) - if b = true then (1 : Int) else 0)) H) := by
  intro pins s σ H x y v u Q I rx ry h
  obtain ⟨a, b, rfl, rfl, q⟩ := h
  cases rx
  cases ry
  exact binaryOp_gives (op := .Sub) (PySem.typeIs_bool s a) (PySem.typeIs_bool s b) PySem.F.fills_bool_sub PySem.F.slot_bool_sub PySem.F.entry_int_sub (PySem.F.args_int_sub_2 _ _) (sub_bools a b) trivial ⟨.int _, H, I.tok _, ⟨_, rfl⟩, q⟩
theorem op_bin_sub : OpR X (binaryOp .Sub) (rB pl X.K fun g => binop g .sub) := by
  intro pins s σ H x y v u Q I rx ry h
  obtain ⟨ρ, g, dx, dy, z, H1, H2, rg, r1, r2, ez, q⟩ := h
  simp only [binop] at ez
  split at ez
  · cases ez
    obtain rfl := rx_int r1
    obtain rfl := rx_int r2
    exact op_sub pins s σ H _ _ v u Q I rx ry ⟨_, _, rfl, rfl, q ρ H _ .refl rg (RX.int _)⟩
  · cases ez
    obtain rfl := rx_bl r1
    obtain rfl := rx_bl r2
    exact op_sub_bools pins s σ H _ _ v u Q I rx ry ⟨_, _, rfl, rfl, q ρ H _ .refl rg (RX.int _)⟩
  · cases ez
theorem op_bin_mul : OpR X (binaryOp .Mult) (rB pl X.K fun g => binop g .mul) := by
  intro pins s σ H x y v u Q I rx ry h
  obtain ⟨ρ, g, dx, dy, z, H1, H2, rg, r1, r2, ez, q⟩ := h
  simp only [binop] at ez
  split at ez
  · rename_i j
    obtain rfl := rx_int r2
    split at ez
    · split at ez
      · rename_i hs
        cases ez
        obtain rfl := rx_int r1
        refine op_mul pins s σ H _ _ v u Q I rx ry ⟨_, _, rfl, rfl, ?_, q ρ H _ .refl rg (RX.int _)⟩
        rw [Bool.or_eq_true] at hs
        simp only [small, Bool.and_eq_true, decide_eq_true_eq] at hs
        exact hs
      · cases ez
    · split at ez
      · rename_i hs
        cases ez
        simp only [Bool.and_eq_true, decide_eq_true_eq] at hs
        obtain ⟨p, xs, rfl, h1, k1⟩ := rx_tup r1
        exact op_repT pins s σ H _ _ v u Q I rx ry ⟨p, j, xs, rfl, rfl, .of h1, fun e => hs.1.1.1 (k1.eq_nil.mp e), hs.1.1.2, hs.1.2, by rw [k1.len]; exact hs.2, fun p n => new_tup rg (k1.rep _) q p n⟩
      · cases ez
    · split at ez
      · rename_i e1
        split at ez
        · rename_i hs
          cases ez
          simp only [Bool.and_eq_true, decide_eq_true_eq] at hs
          obtain ⟨p, xs, rfl, h1, k1⟩ := listOf_ok rg r1 e1
          exact op_rep pins s σ H _ _ v u Q I rx ry ⟨p, j, xs, rfl, rfl, h1, by omega, by omega, by rw [k1.len, ← line_eq]; exact hs.2, fun p n => new_tmp rg (k1.rep _) q p n⟩
        · cases ez
      · cases ez
  · cases ez
theorem op_bin_fdiv : OpR X (binaryOp .FloorDiv) (rB pl X.K fun g => binop g .fdiv) := by
  intro pins s σ H x y v u Q I rx ry h
  obtain ⟨ρ, g, dx, dy, z, H1, H2, rg, r1, r2, ez, q⟩ := h
  simp only [binop] at ez
  split at ez
  · split at ez
    · rename_i hs
      cases ez
      simp only [Bool.and_eq_true, decide_eq_true_eq] at hs
      obtain rfl := rx_int r1
      obtain rfl := rx_int r2
      exact op_fdiv pins s σ H _ _ v u Q I rx ry ⟨_, _, rfl, rfl, hs, q ρ H _ .refl rg (RX.int _)⟩
    · cases ez
  · cases ez
theorem op_bin_mod : OpR X (binaryOp .Mod) (rB pl X.K fun g => binop g .mod) := by
  intro pins s σ H x y v u Q I rx ry h
  obtain ⟨ρ, g, dx, dy, z, H1, H2, rg, r1, r2, ez, q⟩ := h
  simp only [binop] at ez
  split at ez
  · split at ez
    · rename_i hs
      cases ez
      simp only [decide_eq_true_eq] at hs
      obtain rfl := rx_int r1
      obtain rfl := rx_int r2
      exact op_mod pins s σ H _ _ v u Q I rx ry ⟨_, _, rfl, rfl, hs, q ρ H _ .refl rg (RX.int _)⟩
    · cases ez
  · cases ez
theorem op_bin_pow : OpR X (binaryOp .Pow) (rB pl X.K fun g => binop g .pow) := by
  intro pins s σ H x y v u Q I rx ry h
  obtain ⟨ρ, g, dx, dy, z, H1, H2, rg, r1, r2, ez, q⟩ := h
  simp only [binop] at ez
  split at ez
  · split at ez
    · rename_i hs
      cases ez
      simp only [Bool.and_eq_true, decide_eq_true_eq] at hs
      obtain rfl := rx_int r1
      obtain rfl := rx_int r2
      exact op_pow pins s σ H _ _ v u Q I rx ry ⟨_, _, rfl, rfl, ⟨hs.1.1, hs.1.2, hs.2⟩, q ρ H _ .refl rg (RX.int _)⟩
    · cases ez
  · cases ez
end
end Sd
set_option Elab.async false
set_option linter.all false
set_option maxRecDepth 100000
set_option maxHeartbeats 1000000
/-! Snd4: comparisons by values, truth. -/
namespace Sd
open PySem PySem.Spec PyProof.Rows L2 Py

mutual
def toPy : D → PyData
  | .non => .none
  | .bl b => .bool b
  | .int i => .int i
  | .str x => .str (toS x)
  | .tup xs => .tuple (toPys xs)
  | .ls xs => .list (toPys xs)
  | .kt _ => .dict []
  | .ref _ => .dict []
def toPys : List D → List PyData
  | [] => []
  | x :: xs => toPy x :: toPys xs
end
mutual
theorem eqv_py : ∀ a b : D, PyData.eqv (toPy a) (toPy b) = eqv a b
  | .non, b => by cases b <;> simp [toPy, eqv, PyData.eqv]
  | .bl x, b => by
    cases b <;> simp [toPy, eqv, PyData.eqv]
    all_goals rw [Bool.beq_eq_decide_eq]
  | .int x, b => by
    cases b <;> simp [toPy, eqv, PyData.eqv]
    all_goals rw [Bool.beq_eq_decide_eq]
  | .str x, b => by
    cases b <;> simp [toPy, eqv, PyData.eqv]
    rename_i y
    rw [Bool.eq_iff_iff]
    simp [toS_eq]
  | .tup xs, b => by
    cases b <;> simp [toPy, eqv, PyData.eqv]
    exact eqvs_py xs _
  | .ls xs, b => by
    cases b <;> simp [toPy, eqv, PyData.eqv]
    exact eqvs_py xs _
  | .kt xs, b => by cases b <;> simp [toPy, eqv, PyData.eqv]
  | .ref n, b => by cases b <;> simp [toPy, eqv, PyData.eqv]
theorem eqvs_py : ∀ xs ys : List D, PyData.eqvAll (toPys xs) (toPys ys) = eqvs xs ys
  | [], [] => by simp [toPys, eqvs, PyData.eqvAll]
  | [], y :: ys => by simp [toPys, eqvs, PyData.eqvAll]
  | x :: xs, [] => by simp [toPys, eqvs, PyData.eqvAll]
  | x :: xs, y :: ys => by simp [toPys, eqvs, PyData.eqvAll, eqv_py x y, eqvs_py xs ys]
end
theorem any_py (t : D) : ∀ ts : List D, (toPys ts).any (fun z => PyData.eqv z (toPy t)) = ts.any fun z => eqv z t
  | [] => rfl
  | x :: xs => by simp [toPys, eqv_py, any_py t xs]
theorem strOk_toS (x : Tx) : PySem.PyData.strOk (toS x) = true ∨ True := .inr trivial

section
variable {pl : Pl} {K : PySem.W.Frag} {ρ ρ' : List Addr} {H H' H0 : Hp} {g : G} {a : Addr} {v : V}
/-- a resolved tree: HandS's data, well laid, at most n deep -/
structure Tree (K : PySem.W.Frag) (H : Hp) (v : V) (t : D) (n : Nat) : Prop where
  dp : Dp K H v (toPy t)
  lay : (toPy t).canLay0 = true
  dep : (toPy t).depth ≤ n
structure Trees (K : PySem.W.Frag) (H : Hp) (vs : List V) (ts : List D) (n : Nat) : Prop where
  dp : DpAll K H vs (toPys ts)
  lay : PyData.canLayAll0 (toPys ts) = true
  dep : PyData.depthAll (toPys ts) ≤ n
theorem trL_ok {f : D → Option D} {n : Nat} (hf : ∀ d v t, RV K ρ H d v → f d = some t → Tree K H v t n) : ∀ {ds : List D} {vs : List V} {ts : List D}, RVs K ρ H ds vs → trL f ds = some ts → Trees K H vs ts n
  | [], vs, ts, r, e => by
    rw [RVs] at r
    subst r
    cases e
    exact ⟨.nil, by simp [toPys, PyData.canLayAll0], by simp [toPys, PyData.depthAll]⟩
  | d :: ds, vs, ts, r, e => by
    rw [RVs] at r
    obtain ⟨v, vr, rfl, q, r⟩ := r
    unfold trL at e
    split at e
    · rename_i y ys e1 e2
      cases e
      have h1 := hf d v y q e1
      have h2 := trL_ok hf r e2
      exact ⟨.cons h1.dp h2.dp, by simp [toPys, PyData.canLayAll0, h1.lay, h2.lay], by simp only [toPys, PyData.depthAll]; exact Nat.max_le.mpr ⟨h1.dep, h2.dep⟩⟩
    · cases e
theorem tr_ok (rg : RG pl K ρ H g) : ∀ (n : Nat) (d : D) (v : V) (t : D), RV K ρ H d v → tr g n d = some t → Tree K H v t n
  | 0, d, v, t, r, e => by cases e
  | n + 1, d, v, t, r, e => by
    have ih := tr_ok rg n
    cases d with
    | non => cases e; obtain rfl := rv_non r; exact ⟨.non, by simp [toPy, PyData.canLay0], by simp [toPy, PyData.depth]⟩
    | bl b => cases e; obtain rfl := rv_bl r; exact ⟨.bl b, by simp [toPy, PyData.canLay0], by simp [toPy, PyData.depth]⟩
    | int i => cases e; obtain rfl := rv_int r; exact ⟨.int i, by simp [toPy, PyData.canLay0], by simp [toPy, PyData.depth]⟩
    | str x =>
      cases e
      obtain rfl := rv_str r
      refine ⟨.str _, ?_, by simp [toPy, PyData.depth]⟩
      simp only [toPy, PyData.canLay0, PyData.strOk, toS]
      rw [← Array.all_toList]
      simp only [List.all_map, List.all_eq_true, Function.comp, decide_eq_true_eq]
      intro c _
      have := c.valid
      simp only [UInt32.isValidChar, Nat.isValidChar] at this
      show c.val.toNat < _
      omega
    | tup xs =>
      obtain ⟨a, vs, rfl, h, k⟩ := rv_tup r
      cases e1 : trL (tr g n) xs with
      | none => simp only [tr, e1, Option.map_none] at e; cases e
      | some ts =>
        simp only [tr, e1, Option.map_some] at e
        cases e
        have q := trL_ok ih k e1
        exact ⟨.tup (.of h) q.dp, by simp [toPy, PyData.canLay0, q.lay], by simp only [toPy, PyData.depth]; have := q.dep; omega⟩
    | kt xs =>
      obtain ⟨a, vs, rfl, h, k⟩ := rv_kt r
      cases e1 : trL (tr g n) xs with
      | none => simp only [tr, e1, Option.map_none] at e; cases e
      | some ts =>
        simp only [tr, e1, Option.map_some] at e
        cases e
        have q := trL_ok ih k e1
        exact ⟨.tup h q.dp, by simp [toPy, PyData.canLay0, q.lay], by simp only [toPy, PyData.depth]; have := q.dep; omega⟩
    | ls xs => cases e
    | ref m =>
      simp only [tr] at e
      split at e
      · rename_i xs eg
        obtain ⟨a, rfl, _, vs, h, k⟩ := ref_obj rg r eg
        cases e1 : trL (tr g n) xs with
        | none => simp only [e1, Option.map_none] at e; cases e
        | some ts =>
          simp only [e1, Option.map_some] at e
          cases e
          have q := trL_ok ih k e1
          exact ⟨.lst (.of h) q.dp, by simp [toPy, PyData.canLay0, q.lay], by simp only [toPy, PyData.depth]; have := q.dep; omega⟩
      · cases e
theorem trX_ok (rg : RG pl K ρ H g) {x : XV} {t : D} (r : RX K ρ H0 H v x) (e : trX g x = some t) : Tree K H v t 60 := by
  cases x with
  | d d => exact tr_ok rg 60 d v t r e
  | tmp xs =>
    obtain ⟨a, vs, rfl, h, k, _⟩ := r
    cases e1 : trL (tr g 59) xs with
    | none => simp only [trX, e1, Option.map_none] at e; cases e
    | some ts =>
      simp only [trX, e1, Option.map_some] at e
      cases e
      have q := trL_ok (tr_ok rg 59) k e1
      exact ⟨.lst (.of h) q.dp, by simp [toPy, PyData.canLay0, q.lay], by simp only [toPy, PyData.depth]; have := q.dep; omega⟩
theorem Tree.shaped {t : D} {n : Nat} (h : Tree K H v t n) (hn : n ≤ 64) : SeqAt.shaped (toPy t) = true := by
  unfold SeqAt.shaped
  rw [h.lay, decide_eq_true (Nat.le_trans h.dep hn)]
  rfl
end

/-! ### comparisons -/
def rC (pl : Pl) (K : PySem.W.Frag) (f : G → XV → XV → Option Bool) : R2 := fun v u H Q => ∃ ρ g x y b H1 H2, RG pl K ρ H g ∧ RX K ρ H1 H v x ∧ RX K ρ H2 H u y ∧ f g x y = some b ∧ Q (.bl b) H

theorem lexLt_ok : ∀ a b : Tx, decide ((toS a).cps.toList < (toS b).cps.toList) = lexLt a b := by
  have h : ∀ a b : Tx, decide (a.map Char.toNat < b.map Char.toNat) = lexLt a b := by
    intro a
    induction a with
    | nil => intro b; cases b <;> simp [Py.lexLt]
    | cons x a ih =>
      intro b
      cases b with
      | nil => simp [Py.lexLt]
      | cons y b =>
        have i := ih b
        simp only [List.map_cons, List.cons_lt_cons_iff, Py.lexLt]
        by_cases h1 : x.toNat < y.toNat
        · simp [h1]
        · by_cases h2 : y.toNat < x.toNat
          · simp [h1, h2, Nat.ne_of_gt h2]
          · have e : x.toNat = y.toNat := by omega
            simp only [h1, h2, e, if_false, false_or, true_and]
            simpa using i
  intro a b
  rw [← h a b]
  exact decide_eq_decide.mpr (by simp [toS])

mutual
theorem alikeD_symm : ∀ a b : D, alikeD a b = true → alikeD b a = true
  | .non, b, h => by cases b <;> first | (cases h; done) | rfl
  | .bl _, b, h => by cases b <;> first | (cases h; done) | rfl
  | .int _, b, h => by cases b <;> first | (cases h; done) | rfl
  | .str _, b, h => by cases b <;> first | (cases h; done) | rfl
  | .tup xs, b, h => by
    cases b with
    | tup ys => exact alikesD_symm xs ys h
    | _ => cases h
  | .ls xs, b, h => by
    cases b with
    | ls ys => exact alikesD_symm xs ys h
    | _ => cases h
  | .kt _, b, h => by cases b <;> cases h
  | .ref _, b, h => by cases b <;> cases h
theorem alikesD_symm : ∀ xs ys : List D, alikesD xs ys = true → alikesD ys xs = true
  | [], [], _ => rfl
  | [], _ :: _, _ => rfl
  | _ :: _, [], _ => rfl
  | x :: xs, y :: ys, h => by
    simp only [alikesD, Bool.and_eq_true] at h ⊢
    exact ⟨alikeD_symm x y h.1, alikesD_symm xs ys h.2⟩
end
mutual
theorem alike_py : ∀ a b : D, alikeD a b = true → PySem.W.alike (toPy a) (toPy b) = true
  | .non, b, h => by cases b <;> first | (cases h; done) | rfl
  | .bl _, b, h => by cases b <;> first | (cases h; done) | rfl
  | .int _, b, h => by cases b <;> first | (cases h; done) | rfl
  | .str _, b, h => by cases b <;> first | (cases h; done) | rfl
  | .tup xs, b, h => by
    cases b with
    | tup ys => exact alikes_py xs ys h
    | _ => cases h
  | .ls xs, b, h => by
    cases b with
    | ls ys => exact alikes_py xs ys h
    | _ => cases h
  | .kt _, b, h => by cases b <;> cases h
  | .ref _, b, h => by cases b <;> cases h
theorem alikes_py : ∀ xs ys : List D, alikesD xs ys = true → PySem.W.alikeAll (toPys xs) (toPys ys) = true
  | [], _, _ => rfl
  | _ :: _, [], _ => rfl
  | x :: xs, y :: ys, h => by
    simp only [alikesD, Bool.and_eq_true] at h
    simp only [toPys, PySem.W.alikeAll, Bool.and_eq_true]
    exact ⟨alike_py x y h.1, alikes_py xs ys h.2⟩
end
mutual
theorem ltv_py : ∀ a b : D, alikeD a b = true → PySem.W.dataLt (toPy a) (toPy b) = ltv a b
  | .non, b, h => by cases b <;> first | (cases h; done) | rfl
  | .bl i, b, h => by
    cases b with
    | bl j =>
      simp only [toPy]
      rw [PySem.W.dataLt_bool]
      cases i <;> cases j <;> rfl
    | _ => cases h
  | .int i, b, h => by
    cases b with
    | int j =>
      simp only [toPy]
      rw [PySem.W.dataLt_int]
      rfl
    | _ => cases h
  | .str i, b, h => by
    cases b with
    | str j =>
      simp only [toPy]
      rw [PySem.W.dataLt_str, lexLt_ok]
      rfl
    | _ => cases h
  | .tup xs, b, h => by
    cases b with
    | tup ys =>
      simp only [toPy]
      rw [PySem.W.dataLt_tuple]
      exact ltvs_py xs ys h
    | _ => cases h
  | .ls xs, b, h => by
    cases b with
    | ls ys =>
      simp only [toPy]
      rw [PySem.W.dataLt_list]
      exact ltvs_py xs ys h
    | _ => cases h
  | .kt _, b, h => by cases b <;> cases h
  | .ref _, b, h => by cases b <;> cases h
theorem ltvs_py : ∀ xs ys : List D, alikesD xs ys = true → PyProof.Rows.lexLt PyProof.Rows.itemOrd (PySem.W.keyToksAll (toPys xs)) (PySem.W.keyToksAll (toPys ys)) = ltvs xs ys
  | [], [], _ => rfl
  | [], _ :: _, _ => rfl
  | _ :: _, [], _ => rfl
  | x :: xs, y :: ys, h => by
    simp only [alikesD, Bool.and_eq_true] at h
    have ha := alike_py x y h.1
    simp only [toPys]
    cases e : eqv x y with
    | true =>
      rw [PySem.W.dataLt_all_yes ha (by rw [eqv_py]; exact e), ltvs_py xs ys h.2]
      simp [ltvs, e]
    | false =>
      rw [PySem.W.dataLt_all_no ha (by rw [eqv_py]; exact e), ltv_py x y h.1]
      simp [ltvs, e]
end
theorem toPy_non {t : D} (h : t.isNon = false) (k : ∀ xs, t ≠ .kt xs) (r : ∀ n, t ≠ .ref n) : toPy t ≠ .none := by
  cases t with
  | non => cases h
  | kt xs => exact absurd rfl (k xs)
  | ref n => exact absurd rfl (r n)
  | _ => intro z; cases z
theorem alike_non {a b : D} (h : alikeD a b = true) (e : a.isNon = false) : toPy a ≠ .none := by
  refine toPy_non e (fun xs z => ?_) fun n z => ?_
  · subst z; cases b <;> cases h
  · subst z; cases b <;> cases h
section
variable {pl : Pl} {X : Cx}
/-- two values in order -/
theorem ord_ok {pins : List (Addr × Obj)} {s : Shared} {σ : L2.St} {H H1 H2 : Hp} {x y : V} {v u : Value} {ρ : List Addr} {g : G} {dx dy : XV} {f : D → D → Bool} {b : Bool} (hu : X.A.units + 66 < cLine) (I : Inv X pins σ H s) (rg : RG pl X.K ρ H g) (r1 : RX X.K ρ H1 H x dx) (r2 : RX X.K ρ H2 H y dy) (rx : RelV x v) (ry : RelV y u) (e : ordX g dx dy f = some b) :
    ∃ t t' as bs, alikeD t t' = true ∧ b = f t t' ∧ Reads s.heap v (toPy t) as ∧ Reads s.heap u (toPy t') bs ∧ PySem.W.alike (toPy t) (toPy t') = true ∧ toPy t ≠ .none ∧ X.A.units + min (toPy t).depth (toPy t').depth < cLine := by
  unfold ordX at e
  cases e1 : trX g dx with
  | none => rw [e1] at e; cases e
  | some t =>
    cases e2 : trX g dy with
    | none => rw [e1, e2] at e; cases e
    | some t' =>
      rw [e1, e2] at e
      simp only at e
      split at e
      · rename_i hc
        cases e
        simp only [Bool.and_eq_true, Bool.not_eq_true'] at hc
        have T1 := trX_ok rg r1 e1
        have T2 := trX_ok rg r2 e2
        obtain ⟨as, ra⟩ := Dp.reads I _ x v T1.dp rx
        obtain ⟨bs, rb⟩ := Dp.reads I _ y u T2.dp ry
        refine ⟨t, t', as, bs, hc.1, rfl, ra, rb, alike_py t t' hc.1, alike_non hc.1 hc.2, ?_⟩
        have := T1.dep
        have := Nat.min_le_left (toPy t).depth (toPy t').depth
        omega
      · cases e
end
section
variable {pl : Pl} {X : Cx}
theorem op_cmp_eq (hu : X.A.units + 66 < cLine) : OpR X (compareOp .Eq) (rC pl X.K fun g => cmpop g .eq) := by
  intro pins s σ H x y v u Q I rx ry h
  obtain ⟨ρ, g, dx, dy, b, H1, H2, rg, r1, r2, eb, q⟩ := h
  simp only [cmpop] at eb
  split at eb
  · rename_i ta tb e1 e2
    cases eb
    have t1 := trX_ok rg r1 e1
    have t2 := trX_ok rg r2 e2
    exact op_eqD (by omega) pins s σ H _ _ v u Q I rx ry ⟨_, _, t1.dp, t2.dp, t1.shaped (by decide), t2.shaped (by decide), by rw [eqv_py]; exact q⟩
  · cases eb
theorem op_cmp_ne (hu : X.A.units + 66 < cLine) : OpR X (compareOp .NotEq) (rC pl X.K fun g => cmpop g .ne) := by
  intro pins s σ H x y v u Q I rx ry h
  obtain ⟨ρ, g, dx, dy, b, H1, H2, rg, r1, r2, eb, q⟩ := h
  simp only [cmpop] at eb
  split at eb
  · rename_i ta tb e1 e2
    cases eb
    have t1 := trX_ok rg r1 e1
    have t2 := trX_ok rg r2 e2
    exact op_neD (by omega) pins s σ H _ _ v u Q I rx ry ⟨_, _, t1.dp, t2.dp, t1.shaped (by decide), t2.shaped (by decide), by rw [eqv_py]; exact q⟩
  · cases eb
theorem op_cmp_lt (hu : X.A.units + 66 < cLine) : OpR X (compareOp .Lt) (rC pl X.K fun g => cmpop g .lt) := by
  intro pins s σ H x y v u Q I rx ry h
  obtain ⟨ρ, g, dx, dy, b, H1, H2, rg, r1, r2, eb, q⟩ := h
  simp only [cmpop] at eb
  split at eb
  · cases eb
    obtain rfl := rx_int r1
    obtain rfl := rx_int r2
    exact op_lt pins s σ H _ _ v u Q I rx ry ⟨_, _, rfl, rfl, q⟩
  · cases eb
    obtain rfl := rx_str r1
    obtain rfl := rx_str r2
    exact op_lt_str pins s σ H _ _ v u Q I rx ry ⟨_, _, rfl, rfl, by rw [lexLt_ok]; exact q⟩
  · obtain ⟨t, t', as, bs, hal, rfl, ra, rb, h1, h2, h3⟩ := ord_ok hu I rg r1 r2 rx ry eb
    exact PySem.W.lt_data ra rb h1 h2 h3 ⟨.bl _, H, I, rfl, by rw [ltv_py _ _ hal]; exact q⟩
theorem op_cmp_le (hu : X.A.units + 66 < cLine) : OpR X (compareOp .LtE) (rC pl X.K fun g => cmpop g .le) := by
  intro pins s σ H x y v u Q I rx ry h
  obtain ⟨ρ, g, dx, dy, b, H1, H2, rg, r1, r2, eb, q⟩ := h
  simp only [cmpop] at eb
  split at eb
  · cases eb
    obtain rfl := rx_int r1
    obtain rfl := rx_int r2
    exact op_le pins s σ H _ _ v u Q I rx ry ⟨_, _, rfl, rfl, q⟩
  · cases eb
    obtain rfl := rx_str r1
    obtain rfl := rx_str r2
    exact op_le_str pins s σ H _ _ v u Q I rx ry ⟨_, _, rfl, rfl, by rw [lexLt_ok]; exact q⟩
  · obtain ⟨t, t', as, bs, hal, rfl, ra, rb, h1, h2, h3⟩ := ord_ok hu I rg r1 r2 rx ry eb
    exact PySem.W.le_data ra rb h1 h2 h3 ⟨.bl _, H, I, rfl, by rw [ltv_py _ _ (alikeD_symm _ _ hal)]; exact q⟩
theorem op_cmp_gt (hu : X.A.units + 66 < cLine) : OpR X (compareOp .Gt) (rC pl X.K fun g => cmpop g .gt) := by
  intro pins s σ H x y v u Q I rx ry h
  obtain ⟨ρ, g, dx, dy, b, H1, H2, rg, r1, r2, eb, q⟩ := h
  simp only [cmpop] at eb
  split at eb
  · cases eb
    obtain rfl := rx_int r1
    obtain rfl := rx_int r2
    exact op_gt pins s σ H _ _ v u Q I rx ry ⟨_, _, rfl, rfl, q⟩
  · cases eb
    obtain rfl := rx_str r1
    obtain rfl := rx_str r2
    exact op_gt_str pins s σ H _ _ v u Q I rx ry ⟨_, _, rfl, rfl, by rw [lexLt_ok]; exact q⟩
  · obtain ⟨t, t', as, bs, hal, rfl, ra, rb, h1, h2, h3⟩ := ord_ok hu I rg r1 r2 rx ry eb
    exact PySem.W.gt_data ra rb h1 h2 h3 ⟨.bl _, H, I, rfl, by rw [ltv_py _ _ (alikeD_symm _ _ hal)]; exact q⟩
theorem op_cmp_ge (hu : X.A.units + 66 < cLine) : OpR X (compareOp .GtE) (rC pl X.K fun g => cmpop g .ge) := by
  intro pins s σ H x y v u Q I rx ry h
  obtain ⟨ρ, g, dx, dy, b, H1, H2, rg, r1, r2, eb, q⟩ := h
  simp only [cmpop] at eb
  split at eb
  · cases eb
    obtain rfl := rx_int r1
    obtain rfl := rx_int r2
    exact op_ge pins s σ H _ _ v u Q I rx ry ⟨_, _, rfl, rfl, q⟩
  · cases eb
    obtain rfl := rx_str r1
    obtain rfl := rx_str r2
    exact op_ge_str pins s σ H _ _ v u Q I rx ry ⟨_, _, rfl, rfl, by rw [lexLt_ok]; exact q⟩
  · obtain ⟨t, t', as, bs, hal, rfl, ra, rb, h1, h2, h3⟩ := ord_ok hu I rg r1 r2 rx ry eb
    exact PySem.W.ge_data ra rb h1 h2 h3 ⟨.bl _, H, I, rfl, by rw [ltv_py _ _ hal]; exact q⟩
theorem rx_isnone {K : PySem.W.Frag} {ρ : List Addr} {H0 H : Hp} {v : V} {a : D} (r : RX K ρ H0 H v (.d a)) : decide (v = .non) = a.isNon := by
  have r : RV K ρ H a v := r
  cases a with
  | non => obtain rfl := rv_non r; rfl
  | bl b => obtain rfl := rv_bl r; simp [D.isNon]
  | int b => obtain rfl := rv_int r; simp [D.isNon]
  | str b => obtain rfl := rv_str r; simp [D.isNon]
  | tup b => obtain ⟨_, _, rfl, _⟩ := rv_tup r; simp [D.isNon]
  | kt b => obtain ⟨_, _, rfl, _⟩ := rv_kt r; simp [D.isNon]
  | ls b => obtain ⟨_, _, rfl, _⟩ := rv_ls r; simp [D.isNon]
  | ref b => obtain ⟨_, rfl, _⟩ := rv_ref r; simp [D.isNon]
theorem op_cmp_is : OpR X (compareOp .Is) (rC pl X.K fun g => cmpop g .is) := by
  intro pins s σ H x y v u Q I rx ry h
  obtain ⟨ρ, g, dx, dy, b, H1, H2, rg, r1, r2, eb, q⟩ := h
  simp only [cmpop] at eb
  split at eb
  · cases eb
    obtain rfl := rx_non r2
    exact op_isN pins s σ H _ _ v u Q I rx ry ⟨rfl, by rw [rx_isnone r1]; exact q⟩
  · cases eb
    obtain rfl := rx_bl r1
    obtain rfl := rx_bl r2
    exact op_isBl pins s σ H _ _ v u Q I rx ry ⟨_, _, rfl, rfl, by rw [← Bool.beq_eq_decide_eq]; exact q⟩
  · cases eb
theorem op_cmp_isnt : OpR X (compareOp .IsNot) (rC pl X.K fun g => cmpop g .isnt) := by
  intro pins s σ H x y v u Q I rx ry h
  obtain ⟨ρ, g, dx, dy, b, H1, H2, rg, r1, r2, eb, q⟩ := h
  simp only [cmpop] at eb
  split at eb
  · rename_i a
    cases eb
    obtain rfl := rx_non r2
    exact op_notN pins s σ H _ _ v u Q I rx ry ⟨rfl, by rw [rx_isnone r1]; exact q⟩
  · cases eb
    obtain rfl := rx_bl r1
    obtain rfl := rx_bl r2
    exact op_notBl pins s σ H _ _ v u Q I rx ry ⟨_, _, rfl, rfl, by rw [← Bool.beq_eq_decide_eq]; exact q⟩
  · cases eb

/-! ### dicts -/
theorem kyT_inj {a b : KY} (h : kyT a = kyT b) : a = b := by
  cases a <;> cases b <;> simp only [kyT] at h
  · cases h; rfl
  · cases h
  · cases h
  · rw [Sum.inr.injEq] at h; rw [toS_inj h]
theorem kyTs_inj {a b : List KY} (h : a.map kyT = b.map kyT) : a = b := by
  induction a generalizing b with
  | nil => cases b with
    | nil => rfl
    | cons _ _ => cases h
  | cons x a ih => cases b with
    | nil => cases h
    | cons y b =>
      simp only [List.map_cons, List.cons.injEq] at h
      rw [kyT_inj h.1, ih h.2]
/-- an entry, there or not -/
def OR (K : PySem.W.Frag) (ρ : List Addr) (H : Hp) : Option D → Option V → Prop
  | some d, r => ∃ v, r = some v ∧ RV K ρ H d v
  | none, r => r = none
theorem OR.isSome {K : PySem.W.Frag} {ρ : List Addr} {H : Hp} {o : Option D} {r : Option V} (h : OR K ρ H o r) : r.isSome = o.isSome := by
  cases o with
  | none => rw [show r = none from h]; rfl
  | some d => obtain ⟨v, e, _⟩ := h; rw [e]; rfl
theorem look_ok {κ κ' : Type} [DecidableEq κ] [DecidableEq κ'] {K : PySem.W.Frag} {ρ : List Addr} {H : Hp} (f : κ → κ') (inj : ∀ a b, f a = f b → a = b) (k : κ) : ∀ {kvs : List (κ × D)} {vs : List (κ' × V)}, vs.map (·.1) = kvs.map (fun p => f p.1) → RVs K ρ H (kvs.map (·.2)) (vs.map (·.2)) →
    OR K ρ H (look k kvs) (valV vs (f k))
  | [], vs, h, _ => by
    have : vs = [] := by simpa using h
    subst this
    exact valV_nil
  | (j, d) :: r, vs, h, q => by
    cases vs with
    | nil => simp at h
    | cons p vs =>
      simp only [List.map_cons, List.cons.injEq] at h
      simp only [List.map_cons] at q
      rw [RVs] at q
      obtain ⟨v, vr, e, q1, q2⟩ := q
      simp only [List.cons.injEq] at e
      obtain ⟨rfl, rfl⟩ := e
      have ih := look_ok f inj k h.2 q2
      unfold look
      by_cases hk : j = k
      · subst hk
        rw [if_pos rfl]
        exact ⟨p.2, valV_pos h.1, q1⟩
      · rw [if_neg hk]
        have : ¬ p.1 = f k := fun e => hk (inj _ _ (h.1.symm.trans e))
        rw [valV_neg this]
        exact ih
theorem kyOf_ok {K : PySem.W.Frag} {ρ : List Addr} {H : Hp} {d : D} {v : V} {k : KY} (r : RV K ρ H d v) (e : kyOf d = some k) : v = kV (kyT k) := by
  cases d <;> simp only [kyOf] at e <;> cases e
  · obtain rfl := rv_int r; rfl
  · obtain rfl := rv_str r; rfl
theorem keysOf_ok {K : PySem.W.Frag} {ρ : List Addr} {H : Hp} : ∀ {ds : List D} {vs : List V} {ks : List KY}, RVs K ρ H ds vs → keysOf ds = some ks → vs = (ks.map kyT).map kV
  | [], vs, ks, r, e => by rw [RVs] at r; subst r; cases e; rfl
  | d :: ds, vs, ks, r, e => by
    rw [RVs] at r
    obtain ⟨v, vr, rfl, q, r⟩ := r
    unfold keysOf at e
    split at e
    · rename_i k ks' e1 e2
      cases e
      rw [kyOf_ok q e1, keysOf_ok r e2]
      rfl
    · cases e
/-- what a dict says of a key -/
theorem dget_ok {K : PySem.W.Frag} {ρ : List Addr} {H H1 : Hp} {g : G} {d : D} {v u : V} {y : XV} (rg : RG pl K ρ H g) (rd : RX K ρ H1 H u y) (rk : RV K ρ H d v) {o : Option D}
    (e : (∃ kvs k, keyed g y = some (.inl kvs) ∧ kyOf d = some k ∧ o = look k kvs) ∨ (∃ kvs ds k, keyed g y = some (.inr kvs) ∧ d = .tup ds ∧ keysOf ds = some k ∧ o = look k kvs)) :
    ∃ a r, u = .ref a ∧ DGet H a v r ∧ OR K ρ H o r := by
  have inv : ∀ {z}, keyed g y = some z → ∃ n, y = .d (.ref n) ∧ ((∃ kvs, (g[n]? = some (.dk kvs) ∨ g[n]? = some (.fz kvs)) ∧ z = .inl kvs) ∨ ∃ kvs, g[n]? = some (.dt kvs) ∧ z = .inr kvs) := by
    intro z e
    cases y with
    | tmp xs => simp [keyed] at e
    | d d =>
      cases d with
      | ref n =>
        refine ⟨n, rfl, ?_⟩
        simp only [keyed] at e
        cases h : g[n]? with
        | none => rw [h] at e; cases e
        | some o =>
          rw [h] at e
          cases o with
          | dk kvs => cases e; exact .inl ⟨kvs, .inl rfl, rfl⟩
          | fz kvs => cases e; exact .inl ⟨kvs, .inr rfl, rfl⟩
          | dt kvs => cases e; exact .inr ⟨kvs, rfl, rfl⟩
          | lst xs => cases e
          | ins C fs => cases e
      | _ => simp [keyed] at e
  rcases e with ⟨kvs, k, e1, e2, rfl⟩ | ⟨kvs, ds, k, e1, rfl, e2, rfl⟩
  · obtain ⟨n, rfl, ⟨kvs', eg, ez⟩ | ⟨kvs', eg, ez⟩⟩ := inv e1 <;> cases ez
    rcases eg with eg | eg
    · obtain ⟨a, rfl, _, vs, h, hk, q⟩ := rx_obj rg rd eg
      rw [kyOf_ok rk e2]
      exact ⟨a, _, rfl, .k h, look_ok kyT (fun _ _ => kyT_inj) k hk q⟩
    obtain ⟨a, rfl, _, ob, vs, h, hk, q⟩ := rx_obj rg rd eg
    rw [kyOf_ok rk e2]
    exact ⟨a, _, rfl, .inl ⟨vs, kyT k, .inr ⟨ob, h⟩, rfl, rfl⟩, look_ok kyT (fun _ _ => kyT_inj) k hk q⟩
  · obtain ⟨n, rfl, ⟨kvs', eg, ez⟩ | ⟨kvs', eg, ez⟩⟩ := inv e1 <;> cases ez
    obtain ⟨a, rfl, _, vs, h, hk, q⟩ := rx_obj rg rd eg
    obtain ⟨b, xs, rfl, hb, qb⟩ := rv_tup rk
    rw [keysOf_ok qb e2] at hb
    exact ⟨a, _, rfl, .t h hb, look_ok (fun ks : List KY => ks.map kyT) (fun _ _ => kyTs_inj) k hk q⟩
theorem mem_toS {c : Char} {z : Tx} : (c.toNat ∈ (toS z).cps.toList) ↔ c ∈ z := by
  simp only [toS, List.mem_map]
  constructor
  · rintro ⟨d, hd, e⟩
    have : d = c := Char.ext (UInt32.toNat_inj.mp e)
    rwa [← this]
  · intro h
    exact ⟨c, h, rfl⟩
theorem isin_ok (hu : X.A.units + 66 < cLine) {pins : List (Addr × Obj)} {s : Shared} {σ : L2.St} {H H2 : Hp} {x y : V} {v u : Value} {ρ : List Addr} {g : G} {dx : D} {dy : XV} {b : Bool} (I : Inv X pins σ H s) (rx : RelV x v) (ry : RelV y u)
    (rg : RG pl X.K ρ H g) (r1 : RV X.K ρ H dx x) (r2 : RX X.K ρ H2 H y dy) (e : isin g dx dy = some b) :
    (∀ Q : VK, Q (.bl b) H → wpAny (model X.prog X.w) X.A (compareOp .In v u) (EP X pins σ Q) X.xe s) ∧ ∀ Q : VK, Q (.bl (!b)) H → wpAny (model X.prog X.w) X.A (compareOp .NotIn v u) (EP X pins σ Q) X.xe s := by
  unfold isin at e
  split at e
  · rename_i z
    split at e
    · rename_i c
      cases e
      obtain rfl := rv_str r1
      obtain rfl := rx_str r2
      have h1 : toS [c] = ⟨#[c.toNat]⟩ := rfl
      refine ⟨fun Q q => op_in_sign pins s σ H _ _ v u Q I rx ry ⟨c.toNat, toS z, by rw [h1], rfl, ?_⟩, fun Q q => op_notIn_sign pins s σ H _ _ v u Q I rx ry ⟨c.toNat, toS z, by rw [h1], rfl, ?_⟩⟩
      · simpa only [mem_toS] using q
      · simpa only [mem_toS] using q
    · cases e
  · split at e
    · rename_i kvs ek
      cases e1 : kyOf dx with
      | none => rw [e1] at e; cases e
      | some k =>
        rw [e1] at e
        cases e
        obtain ⟨a, r, rfl, dg, hr⟩ := dget_ok rg r2 r1 (o := look k kvs) (.inl ⟨kvs, k, ek, e1, rfl⟩)
        obtain rfl : u = Value.ref a := ry
        have hs := hr.isSome
        refine ⟨fun Q q => d_in (by omega) I dg rx fun s3 I3 => ⟨.bl _, H, I3, rfl, by rw [hs]; exact q⟩, fun Q q => d_notIn (by omega) I dg rx fun s3 I3 => ⟨.bl _, H, I3, rfl, by rw [hs]; exact q⟩⟩
    · rename_i kvs ek
      split at e
      · rename_i ds
        cases e1 : keysOf ds with
        | none => rw [e1] at e; cases e
        | some k =>
          rw [e1] at e
          cases e
          obtain ⟨a, r, rfl, dg, hr⟩ := dget_ok rg r2 r1 (o := look k kvs) (.inr ⟨kvs, ds, k, ek, rfl, e1, rfl⟩)
          obtain rfl : u = Value.ref a := ry
          have hs := hr.isSome
          refine ⟨fun Q q => d_in (by omega) I dg rx fun s3 I3 => ⟨.bl _, H, I3, rfl, by rw [hs]; exact q⟩, fun Q q => d_notIn (by omega) I dg rx fun s3 I3 => ⟨.bl _, H, I3, rfl, by rw [hs]; exact q⟩⟩
      · cases e
    · have fin : ∀ {t : D} {ts : List D} {n m : Nat}, Tree X.K H x t n → n ≤ 60 → ∀ (d : PyData), (d = .tuple (toPys ts) ∨ d = .list (toPys ts)) → Dp X.K H y d → PyData.canLayAll0 (toPys ts) = true → 
          (∀ Q : VK, Q (.bl (ts.any fun z => eqv z t)) H → wpAny (model X.prog X.w) X.A (compareOp .In v u) (EP X pins σ Q) X.xe s) ∧ ∀ Q : VK, Q (.bl (!(ts.any fun z => eqv z t))) H → wpAny (model X.prog X.w) X.A (compareOp .NotIn v u) (EP X pins σ Q) X.xe s := by
        intro t ts n m h1 hn d hd hp hl
        obtain ⟨as, q1⟩ := Dp.reads I _ x v h1.dp rx
        obtain ⟨bs, q2⟩ := Dp.reads I d y u hp ry
        have hd1 := h1.dep
        have room : X.A.units + 1 + min (PyData.depthAll (toPys ts)) (toPy t).depth < cLine := by
          have := Nat.min_le_right (PyData.depthAll (toPys ts)) (toPy t).depth
          omega
        rcases hd with rfl | rfl
        · exact ⟨fun Q q => SeqAt.in_tuple_reads q2 q1 hl h1.lay room ⟨.bl _, H, I, rfl, by rw [any_py]; exact q⟩, fun Q q => SeqAt.notIn_tuple_reads q2 q1 hl h1.lay room ⟨.bl _, H, I, rfl, by rw [any_py]; exact q⟩⟩
        · exact ⟨fun Q q => SeqAt.in_list_reads q2 q1 hl h1.lay room ⟨.bl _, H, I, rfl, by rw [any_py]; exact q⟩, fun Q q => SeqAt.notIn_list_reads q2 q1 hl h1.lay room ⟨.bl _, H, I, rfl, by rw [any_py]; exact q⟩⟩
      split at e
      · rename_i t ts e1 e2
        cases e
        have t1 := tr_ok rg 60 dx x t r1 e1
        have t2 := trX_ok rg r2 e2
        have l2 := t2.lay
        simp only [toPy, PyData.canLay0] at l2
        exact fin (n := 60) (m := 0) t1 (by decide) _ (.inl (by simp only [toPy])) t2.dp l2
      · rename_i t ts e1 e2
        cases e
        have t1 := tr_ok rg 60 dx x t r1 e1
        have t2 := trX_ok rg r2 e2
        have l2 := t2.lay
        simp only [toPy, PyData.canLay0] at l2
        exact fin (n := 60) (m := 0) t1 (by decide) _ (.inr (by simp only [toPy])) t2.dp l2
      · cases e
theorem op_cmp_in (hu : X.A.units + 66 < cLine) : OpR X (compareOp .In) (rC pl X.K fun g => cmpop g .isin) := by
  intro pins s σ H x y v u Q I rx ry h
  obtain ⟨ρ, g, dx, dy, b, H1, H2, rg, r1, r2, eb, q⟩ := h
  simp only [cmpop] at eb
  split at eb
  · exact (isin_ok hu I rx ry rg r1 r2 eb).1 Q q
  · cases eb
theorem op_cmp_notin (hu : X.A.units + 66 < cLine) : OpR X (compareOp .NotIn) (rC pl X.K fun g => cmpop g .notin) := by
  intro pins s σ H x y v u Q I rx ry h
  obtain ⟨ρ, g, dx, dy, b, H1, H2, rg, r1, r2, eb, q⟩ := h
  simp only [cmpop] at eb
  split at eb
  · rename_i a
    cases e : isin g a dy with
    | none => rw [e] at eb; cases eb
    | some b' =>
      rw [e] at eb
      cases eb
      exact (isin_ok hu I rx ry rg r1 r2 e).2 Q q
  · cases eb

/-! ### truth -/
theorem truth_ok {K : PySem.W.Frag} {ρ : List Addr} {H H1 : Hp} {g : G} {v : V} {x : XV} {b : Bool} (rg : RG pl K ρ H g) (r : RX K ρ H1 H v x) (e : truth g x = some b) : TruV K v H b := by
  have ie : ∀ {ds : List D} {vs : List V}, RVs K ρ H ds vs → (!ds.isEmpty) = !vs.isEmpty := by
    intro ds vs q
    have := q.len
    cases ds <;> cases vs <;> simp_all
  unfold truth at e
  split at e
  · cases e
    obtain ⟨a, vs, rfl, h, k, _⟩ := r
    exact .inl ⟨vs, .of h, ie k⟩
  · cases e; obtain rfl := rx_non r; rfl
  · cases e; obtain rfl := rx_bl r; rfl
  · cases e; obtain rfl := rx_int r; rfl
  · rename_i x
    split at e
    · rename_i hl
      cases e
      obtain rfl := rx_str r
      refine ⟨by rw [toS_len, ← line_eq]; exact hl, ?_⟩
      rw [toS_len]
      cases x with
      | nil => rfl
      | cons c x =>
        show true = _
        simp
        omega
    · cases e
  · cases e
    obtain ⟨a, vs, rfl, h, k⟩ := rx_tup r
    exact .inr (.inl ⟨vs, .of h, ie k⟩)
  · cases e
    obtain ⟨a, vs, rfl, h, k⟩ := rx_ls r
    exact .inl ⟨vs, h.sq, ie k⟩
  · cases e
    obtain ⟨a, vs, rfl, h, k⟩ := rx_kt r
    exact .inr (.inl ⟨vs, h, ie k⟩)
  · split at e
    · rename_i eg
      cases e
      obtain ⟨a, rfl, _, vs, h, k⟩ := rx_obj rg r eg
      exact .inl ⟨vs, .of h, ie k⟩
    · rename_i kvs eg
      cases e
      obtain ⟨a, rfl, _, vs, h, hk, k⟩ := rx_obj rg r eg
      refine .inr (.inr ⟨vs, h, ?_⟩)
      have := congrArg List.length hk
      simp only [List.length_map] at this
      cases kvs <;> cases vs <;> simp_all
    · cases e
end
end Sd
set_option Elab.async false
set_option linter.all false
set_option maxRecDepth 100000
set_option maxHeartbeats 1000000
/-! Snd5: expressions' rules: operators, comparisons, truth, displays. -/
namespace Sd
open PySem PySem.Spec PyProof.Rows L2 Py

def opOf : BOp → Operator
  | .add => .Add | .sub => .Sub | .mul => .Mult | .fdiv => .FloorDiv | .mod => .Mod | .pow => .Pow
def copOf : COp → CmpOp
  | .eq => .Eq | .ne => .NotEq | .lt => .Lt | .le => .LtE | .gt => .Gt | .ge => .GtE | .is => .Is | .isnt => .IsNot | .isin => .In | .notin => .NotIn

section
variable {T : Tb} {pl : Pl} {X : Cx} {k : Nat} {N : List Str} {sc : Scope} {W : WX} {ia ib ic : E} {a b c : Expr} {pos : Pos}
theorem Good.hu (G : Good T pl k N sc W X) : X.A.units + 66 < cLine := G.un

theorem op_bin (o : BOp) : OpR X (binaryOp (opOf o)) (rB pl X.K fun g => binop g o) := by
  cases o
  · exact op_bin_add
  · exact op_bin_sub
  · exact op_bin_mul
  · exact op_bin_fdiv
  · exact op_bin_mod
  · exact op_bin_pow
theorem op_cmp (hu : X.A.units + 66 < cLine) (o : COp) : OpR X (compareOp (copOf o)) (rC pl X.K fun g => cmpop g o) := by
  cases o
  · exact op_cmp_eq hu
  · exact op_cmp_ne hu
  · exact op_cmp_lt hu
  · exact op_cmp_le hu
  · exact op_cmp_gt hu
  · exact op_cmp_ge hu
  · exact op_cmp_is
  · exact op_cmp_isnt
  · exact op_cmp_in hu
  · exact op_cmp_notin hu
theorem s_bin {o : BOp} (ha : PE X a (tE T pl X.K k W ia)) (hb : PE X b (tE T pl X.K k W ib)) : PE X (.BinOp a (opOf o) b pos) (tE T pl X.K k W (.bin o ia ib)) := by
  refine ⟨fun pins s σ H Q I h => (s_bin2 (f := fun g => binop g o) rfl (pe_op (op_bin o) ha hb)).run pins s σ H Q I ?_⟩
  obtain ⟨ρ, L, g, rl, rg, h⟩ := h
  rw [ev] at h
  exact ⟨ρ, L, g, rl, rg, h⟩
theorem s_neg (ha : PE X a (tE T pl X.K k W ia)) : PE X (.UnaryOp .USub a pos) (tE T pl X.K k W (.neg ia)) := by
  refine ⟨fun pins s σ H Q I h => (pe_un un_neg ha).run pins s σ H Q I ?_⟩
  obtain ⟨ρ, L, g, rl, rg, h⟩ := h
  rw [ev] at h
  refine ⟨ρ, L, g, rl, rg, (h.bind (Rel := relX X.K) since_X).imp fun v H1 ⟨ρ1, x, g1, e1, rg1, rx, h⟩ => ?_⟩
  split at h
  · rename_i i
    exact ⟨i, rx_int rx, h ρ1 H1 _ .refl rg1 (RX.int _)⟩
  · exact h.elim
/-- an end that gives a truth -/
theorem Po.bool {K : PySem.W.Frag} {ρ : List Addr} {H : Hp} {Wx : Wish} {Q : VK} {o : Option Bool} {g : G} (rg : RG pl K ρ H g) (h : Po pl K (relX K) ρ H Wx Q (Py.ofO (o.map fun b => XV.d (.bl b)) g)) : ∃ b, o = some b ∧ Q (.bl b) H := by
  cases o with
  | none => exact h.elim
  | some b => exact ⟨b, rfl, h ρ H (.bl b) .refl rg (RX.bl b)⟩
theorem s_cmp {o : COp} (hu : X.A.units + 66 < cLine) (ha : PE X a (tE T pl X.K k W ia)) (hb : PE X b (tE T pl X.K k W ib)) (hm : behindInMarks (copOf o) b = false) : PE X (.Compare a [copOf o] [b] pos) (tE T pl X.K k W (.cmp o ia ib)) := by
  refine ⟨fun pins s σ H Q I h => (pe_cmpR (op_cmp (pl := pl) hu o) ha hb hm).run pins s σ H Q I ?_⟩
  obtain ⟨ρ, L, g, rl, rg, h⟩ := h
  rw [ev] at h
  refine ⟨ρ, L, g, rl, rg, (h.bind (Rel := relX X.K) since_X).imp fun v H1 ⟨ρ1, x, g1, e1, rg1, rx, h⟩ => ?_⟩
  refine ⟨ρ1, L, g1, rl.mono e1, rg1, (h.bind (Rel := relX X.K) since_X).imp fun u H2 ⟨ρ2, y, g2, e2, rg2, ry, h⟩ => ?_⟩
  obtain ⟨z, ez, h⟩ := h.bool rg2
  exact ⟨ρ2, g2, x, y, z, H, H1, rg2, rx.mono e2, ry, ez, h⟩
theorem s_cmp2 {o o' : COp} (hu : X.A.units + 66 < cLine) (ha : PE X a (tE T pl X.K k W ia)) (hb : PE X b (tE T pl X.K k W ib)) (hc : PE X c (tE T pl X.K k W ic)) (hm : lastMarks [copOf o, copOf o'] [b, c] = false) : PE X (.Compare a [copOf o, copOf o'] [b, c] pos) (tE T pl X.K k W (.cmp2 o o' ia ib ic)) := by
  refine ⟨fun pins s σ H Q I h => (pe_chain (op_cmp (pl := pl) hu o) (op_cmp (pl := pl) hu o') ha hb hc hm).run pins s σ H Q I ?_⟩
  obtain ⟨ρ, L, g, rl, rg, h⟩ := h
  rw [ev] at h
  refine ⟨ρ, L, g, rl, rg, (h.bind (Rel := relX X.K) since_X).imp fun v H1 ⟨ρ1, x, g1, e1, rg1, rx, h⟩ => ?_⟩
  refine ⟨ρ1, L, g1, rl.mono e1, rg1, (h.bind (Rel := relX X.K) since_X).imp fun u H2 ⟨ρ2, y, g2, e2, rg2, ry, h⟩ => ?_⟩
  split at h
  · rename_i ez
    refine ⟨ρ2, g2, x, y, true, H, H1, rg2, rx.mono e2, ry, ez, true, rfl, ?_⟩
    rw [if_pos rfl]
    refine ⟨ρ2, L, g2, (rl.mono e1).mono e2, rg2, (h.bind (Rel := relX X.K) since_X).imp fun w H3 ⟨ρ3, z, g3, e3, rg3, rz, h⟩ => ?_⟩
    obtain ⟨b', eb, h⟩ := h.bool rg3
    exact ⟨ρ3, g3, y, z, b', H1, H2, rg3, ry.mono e3, rz, eb, h⟩
  · rename_i ez
    refine ⟨ρ2, g2, x, y, false, H, H1, rg2, rx.mono e2, ry, ez, false, rfl, ?_⟩
    rw [if_neg (by decide)]
    exact h ρ2 H2 _ .refl rg2 (RX.bl _)
  · exact h.elim

/-! ### truth -/
theorem s_and {rest : List Expr} (ha : PE X a (tE T pl X.K k W ia)) (hb : PE X (.BoolOp .And (b :: rest) pos) (tE T pl X.K k W ib)) : PE X (.BoolOp .And (a :: b :: rest) pos) (tE T pl X.K k W (.and ia ib)) := by
  refine ⟨fun pins s σ H Q I h => (pe_andT ha hb).run pins s σ H Q I ?_⟩
  obtain ⟨ρ, L, g, rl, rg, h⟩ := h
  rw [ev] at h
  refine ⟨ρ, L, g, rl, rg, (h.bind' (Rel := relX X.K) since_X).imp fun v H1 ⟨ρ1, x, g1, e1, rg1, rx, h, h0⟩ => ?_⟩
  cases et : truth g1 x with
  | none => rw [et] at h; exact h.elim
  | some t =>
    rw [et] at h h0
    cases t with
    | true => exact ⟨true, truth_ok rg1 rx et, by rw [if_pos rfl]; exact ⟨ρ1, L, g1, rl.mono e1, rg1, h⟩⟩
    | false => exact ⟨false, truth_ok rg1 rx et, by rw [if_neg (by decide)]; exact h0 ρ1 H1 v e1 rg1 rx⟩
theorem s_or {rest : List Expr} (ha : PE X a (tE T pl X.K k W ia)) (hb : PE X (.BoolOp .Or (b :: rest) pos) (tE T pl X.K k W ib)) : PE X (.BoolOp .Or (a :: b :: rest) pos) (tE T pl X.K k W (.or ia ib)) := by
  refine ⟨fun pins s σ H Q I h => (pe_orT ha hb).run pins s σ H Q I ?_⟩
  obtain ⟨ρ, L, g, rl, rg, h⟩ := h
  rw [ev] at h
  refine ⟨ρ, L, g, rl, rg, (h.bind' (Rel := relX X.K) since_X).imp fun v H1 ⟨ρ1, x, g1, e1, rg1, rx, h, h0⟩ => ?_⟩
  cases et : truth g1 x with
  | none => rw [et] at h; exact h.elim
  | some t =>
    rw [et] at h h0
    cases t with
    | true => exact ⟨true, truth_ok rg1 rx et, by rw [if_pos rfl]; exact h0 ρ1 H1 v e1 rg1 rx⟩
    | false => exact ⟨false, truth_ok rg1 rx et, by rw [if_neg (by decide)]; exact ⟨ρ1, L, g1, rl.mono e1, rg1, h⟩⟩
theorem s_not (ha : PE X a (tE T pl X.K k W ia)) : PE X (.UnaryOp .Not a pos) (tE T pl X.K k W (.not ia)) := by
  refine ⟨fun pins s σ H Q I h => (pe_notT ha).run pins s σ H Q I ?_⟩
  obtain ⟨ρ, L, g, rl, rg, h⟩ := h
  rw [ev] at h
  refine ⟨ρ, L, g, rl, rg, (h.bind (Rel := relX X.K) since_X).imp fun v H1 ⟨ρ1, x, g1, e1, rg1, rx, h⟩ => ?_⟩
  cases et : truth g1 x with
  | none => rw [et] at h; exact h.elim
  | some t =>
    rw [et] at h
    exact ⟨t, truth_ok rg1 rx et, h ρ1 H1 _ .refl rg1 (RX.bl _)⟩
/-- a test by its value's truth -/
theorem t_plain (ha : PE X a (tE T pl X.K k W ia)) (he : ∀ whole, isTrue a X.env whole = (do let v ← whole; standAt a.pos; holding [v] (truthy v))) : PT X a (tT T pl X.K k W ia) := by
  refine ⟨fun pins s σ H Q I h => (pt_truth ha he).run pins s σ H Q I ?_⟩
  obtain ⟨ρ, L, g, rl, rg, h⟩ := h
  refine ⟨ρ, L, g, rl, rg, (Po.bind (Rel := relX X.K) since_B h).imp fun v H1 ⟨ρ1, x, g1, e1, rg1, rx, h⟩ => ?_⟩
  obtain ⟨t, et, h⟩ := h.ofO
  exact ⟨t, truth_ok rg1 rx et, h ρ1 H1 t .refl rg1 rfl⟩
/-- what a test's reading says: the value's end, then its truth -/
theorem tT_bind {K : PySem.W.Frag} {ρ : List Addr} {H : Hp} {Wx : Wish} {Q : Bool → Hp → Prop} {r : R XV} {f : XV → G → R XV} (h : Po pl K relB ρ H Wx Q (r.bind f).test) :
    Po pl K relB ρ H Wx Q (r.bind fun x g => (f x g).test) := by
  cases r with
  | ok x g => exact h
  | ex x g => exact h
  | bad => exact h
theorem t_not (ha : PT X a (tT T pl X.K k W ia)) : PT X (.UnaryOp .Not a pos) (tT T pl X.K k W (.not ia)) := by
  refine ⟨fun pins s σ H Q I h => (pt_not ha).run pins s σ H Q I ?_⟩
  obtain ⟨ρ, L, g, rl, rg, h⟩ := h
  rw [ev] at h
  refine ⟨ρ, L, g, rl, rg, ?_⟩
  cases e : ev T (runF T k) ia L g with
  | bad => rw [e] at h; exact h
  | ex x g => rw [e] at h; exact h
  | ok x g1 =>
    rw [e] at h
    show Po pl X.K relB ρ H (wish pl W σ) (fun c H1 => Q (!c) H1) (Py.ofO (truth g1 x) g1)
    change Po pl X.K relB ρ H (wish pl W σ) Q (R.test (Py.ofO ((truth g1 x).map fun b => XV.d (.bl (!b))) g1)) at h
    cases et : truth g1 x with
    | none => rw [et] at h; exact h
    | some t =>
      rw [et] at h
      intro ρ1 H1 b e1 rg1 eb
      have eb : b = t := eb
      subst eb
      exact h ρ1 H1 _ e1 rg1 rfl
theorem t_ite {tc : TT} (hc : PT X c (tT T pl X.K k W ic)) (ha : PE X a (tE T pl X.K k W ia)) (hb : PE X b (tE T pl X.K k W ib)) : PE X (.IfExp c a b pos) (tE T pl X.K k W (.ite ic ia ib)) := by
  refine ⟨fun pins s σ H Q I h => (pe_ifExp hc ha hb).run pins s σ H Q I ?_⟩
  obtain ⟨ρ, L, g, rl, rg, h⟩ := h
  rw [ev] at h
  refine ⟨ρ, L, g, rl, rg, ?_⟩
  cases e : ev T (runF T k) ic L g with
  | bad => rw [e] at h; exact h
  | ex x g => rw [e] at h; exact h
  | ok x g1 =>
    rw [e] at h
    change Po pl X.K relB ρ H (wish pl W σ) _ (Py.ofO (truth g1 x) g1)
    simp only [R.bind] at h
    cases et : truth g1 x with
    | none => rw [et] at h; exact h
    | some t =>
      rw [et] at h
      intro ρ1 H1 b e1 rg1 eb
      have eb : b = t := eb
      subst eb
      cases b with
      | true => rw [if_pos rfl]; exact ⟨ρ1, L, g1, rl.mono e1, rg1, Po.shift since_X h e1⟩
      | false => rw [if_neg (by decide)]; exact ⟨ρ1, L, g1, rl.mono e1, rg1, Po.shift since_X h e1⟩
/-- a whole test of and, or: PW -/
theorem t_and {rest : List Expr} (ha : PT X a (tT T pl X.K k W ia)) (hb : PW X (.BoolOp .And (b :: rest) pos) (tT T pl X.K k W ib)) : PW X (.BoolOp .And (a :: b :: rest) pos) (tT T pl X.K k W (.and ia ib)) := by
  refine ⟨fun wh pins s σ H Q I h => (pw_and ha hb).run wh pins s σ H Q I ?_⟩
  obtain ⟨ρ, L, g, rl, rg, h⟩ := h
  rw [ev] at h
  refine ⟨ρ, L, g, rl, rg, ?_⟩
  cases e : ev T (runF T k) ia L g with
  | bad => rw [e] at h; exact h
  | ex x g => rw [e] at h; exact h
  | ok x g1 =>
    rw [e] at h
    change Po pl X.K relB ρ H (wish pl W σ) _ (Py.ofO (truth g1 x) g1)
    simp only [R.bind] at h
    cases et : truth g1 x with
    | none => rw [et] at h; exact h
    | some t =>
      rw [et] at h
      intro ρ1 H1 b e1 rg1 eb
      have eb : b = t := eb
      subst eb
      cases b with
      | true => rw [if_pos rfl]; exact ⟨ρ1, L, g1, rl.mono e1, rg1, Po.shift since_B h e1⟩
      | false =>
        rw [if_neg (by decide)]
        simp only [R.test, R.bind, et] at h
        exact h ρ1 H1 false e1 rg1 rfl
theorem t_or {rest : List Expr} (ha : PT X a (tT T pl X.K k W ia)) (hb : PW X (.BoolOp .Or (b :: rest) pos) (tT T pl X.K k W ib)) : PW X (.BoolOp .Or (a :: b :: rest) pos) (tT T pl X.K k W (.or ia ib)) := by
  refine ⟨fun wh pins s σ H Q I h => (pw_or ha hb).run wh pins s σ H Q I ?_⟩
  obtain ⟨ρ, L, g, rl, rg, h⟩ := h
  rw [ev] at h
  refine ⟨ρ, L, g, rl, rg, ?_⟩
  cases e : ev T (runF T k) ia L g with
  | bad => rw [e] at h; exact h
  | ex x g => rw [e] at h; exact h
  | ok x g1 =>
    rw [e] at h
    change Po pl X.K relB ρ H (wish pl W σ) _ (Py.ofO (truth g1 x) g1)
    simp only [R.bind] at h
    cases et : truth g1 x with
    | none => rw [et] at h; exact h
    | some t =>
      rw [et] at h
      intro ρ1 H1 b e1 rg1 eb
      have eb : b = t := eb
      subst eb
      cases b with
      | true =>
        rw [if_pos rfl]
        simp only [R.test, R.bind, et] at h
        exact h ρ1 H1 true e1 rg1 rfl
      | false => rw [if_neg (by decide)]; exact ⟨ρ1, L, g1, rl.mono e1, rg1, Po.shift since_B h e1⟩
theorem t_and1 (ha : PT X a (tT T pl X.K k W ia)) : PW X (.BoolOp .And [a] pos) (tT T pl X.K k W ia) := pw_and1 ha
theorem t_or1 (ha : PT X a (tT T pl X.K k W ia)) : PW X (.BoolOp .Or [a] pos) (tT T pl X.K k W ia) := pw_or1 ha
/-- a comparison as a test -/
theorem t_cmp {o : COp} (hu : X.A.units + 66 < cLine) (ha : PE X a (tE T pl X.K k W ia)) (hb : PE X b (tE T pl X.K k W ib)) (hm : behindInMarks (copOf o) b = false) : PT X (.Compare a [copOf o] [b] pos) (tT T pl X.K k W (.cmp o ia ib)) := by
  refine ⟨fun pins s σ H Q I h => (pt_cmpR (op_cmp (pl := pl) hu o) ha hb hm).run pins s σ H Q I ?_⟩
  obtain ⟨ρ, L, g, rl, rg, h⟩ := h
  rw [ev] at h
  refine ⟨ρ, L, g, rl, rg, (Po.bind (Rel := relX X.K) since_B (tT_bind h)).imp fun v H1 ⟨ρ1, x, g1, e1, rg1, rx, h⟩ => ?_⟩
  refine ⟨ρ1, L, g1, rl.mono e1, rg1, (Po.bind (Rel := relX X.K) since_B (tT_bind h)).imp fun u H2 ⟨ρ2, y, g2, e2, rg2, ry, h⟩ => ?_⟩
  cases ez : cmpop g2 o x y with
  | none => rw [ez] at h; exact h.elim
  | some z =>
    rw [ez] at h
    exact ⟨ρ2, g2, x, y, z, H, H1, rg2, rx.mono e2, ry, ez, z, rfl, h ρ2 H2 z .refl rg2 rfl⟩
theorem t_cmp2 {o o' : COp} (hu : X.A.units + 66 < cLine) (ha : PE X a (tE T pl X.K k W ia)) (hb : PE X b (tE T pl X.K k W ib)) (hc : PE X c (tE T pl X.K k W ic)) (hm : lastMarks [copOf o, copOf o'] [b, c] = false) : PT X (.Compare a [copOf o, copOf o'] [b, c] pos) (tT T pl X.K k W (.cmp2 o o' ia ib ic)) := by
  refine ⟨fun pins s σ H Q I h => (pt_chain (op_cmp (pl := pl) hu o) (op_cmp (pl := pl) hu o') ha hb hc hm).run pins s σ H Q I ?_⟩
  obtain ⟨ρ, L, g, rl, rg, h⟩ := h
  rw [ev] at h
  refine ⟨ρ, L, g, rl, rg, (Po.bind (Rel := relX X.K) since_B (tT_bind h)).imp fun v H1 ⟨ρ1, x, g1, e1, rg1, rx, h⟩ => ?_⟩
  refine ⟨ρ1, L, g1, rl.mono e1, rg1, (Po.bind (Rel := relX X.K) since_B (tT_bind h)).imp fun u H2 ⟨ρ2, y, g2, e2, rg2, ry, h⟩ => ?_⟩
  cases ez : cmpop g2 o x y with
  | none => rw [ez] at h; exact h.elim
  | some z =>
    rw [ez] at h
    refine ⟨ρ2, g2, x, y, z, H, H1, rg2, rx.mono e2, ry, ez, z, rfl, ?_⟩
    cases z with
    | true =>
      rw [if_pos rfl]
      refine ⟨ρ2, L, g2, (rl.mono e1).mono e2, rg2, (Po.bind (Rel := relX X.K) since_B (tT_bind h)).imp fun w H3 ⟨ρ3, z, g3, e3, rg3, rz, h⟩ => ?_⟩
      cases eb : cmpop g3 o' y z with
      | none => rw [eb] at h; exact h.elim
      | some b' =>
        rw [eb] at h
        exact ⟨ρ3, g3, y, z, b', H1, H2, rg3, ry.mono e3, rz, eb, b', rfl, h ρ3 H3 b' .refl rg3 rfl⟩
    | false =>
      rw [if_neg (by decide)]
      exact ⟨false, rfl, h ρ2 H2 false .refl rg2 rfl⟩
end
end Sd
set_option Elab.async false
set_option linter.all false
set_option maxRecDepth 100000
set_option maxHeartbeats 1000000
/-! Snd6: arguments, displays, items, slices, isinstance, built-in functions. -/
namespace Sd
open PySem PySem.Spec PyProof.Rows L2 Py

section
variable {T : Tb} {pl : Pl} {X : Cx} {k : Nat} {N : List Str} {sc : Scope} {W : WX} {ia ib ic : E} {ie : Es} {a b c : Expr} {es : List Expr} {pos : Pos}
theorem Po.lay {K : PySem.W.Frag} {ρ : List Addr} {H : Hp} {Wx : Wish} {Q : VK} {r : R XV} (h : Po pl K (relD K) ρ H Wx Q r.lay) : Po pl K (relX K) ρ H Wx Q r := by
  cases r with
  | bad => exact h
  | ex x g => exact h
  | ok x g =>
    cases x with
    | d d => exact h
    | tmp xs =>
      intro ρ' H' v e rg rx
      obtain ⟨a, vs, rfl, ha, r, n, z⟩ := rx
      refine h (ρ' ++ [a]) H' (.ref a) (e.push z) (rg.push n ⟨vs, ha, ?_⟩) ?_
      · exact r
      · show RV K _ H' (.ref g.length) (.ref a)
        exact RV.ref (by rw [← rg.len, List.getElem?_concat_length])
theorem s_lay (ha : PE X a (tE T pl X.K k W ia)) : PE X a (tD T pl X.K k W ia) := by
  refine ⟨fun pins s σ H Q I h => ha.run pins s σ H Q I ?_⟩
  obtain ⟨ρ, L, g, rl, rg, h⟩ := h
  exact ⟨ρ, L, g, rl, rg, h.lay⟩
theorem a_nil : PA X [] (tEs T pl X.K k W .nil) := by
  refine ⟨fun pos pins s σ H Q I h => pa_nil.run pos pins s σ H Q I ?_⟩
  obtain ⟨ρ, L, g, rl, rg, h⟩ := h
  rw [evs] at h
  exact h ρ H [] .refl rg .nil
theorem a_cons (ha : PE X a (tE T pl X.K k W ia)) (hr : PA X es (tEs T pl X.K k W ie)) (hs : starEach (a :: es) X.env = (false, eval a X.env) :: starEach es X.env) : PA X (a :: es) (tEs T pl X.K k W (.cons ia ie)) := by
  refine ⟨fun pos pins s σ H Q I h => (pa_cons ha hr hs).run pos pins s σ H Q I ?_⟩
  obtain ⟨ρ, L, g, rl, rg, h⟩ := h
  rw [evs] at h
  refine ⟨ρ, L, g, rl, rg, Po.lay ((Po.bind (Rel := relD X.K) since_Ds h).imp fun v H1 ⟨ρ1, d, g1, e1, rg1, rx, h⟩ => ?_)⟩
  refine ⟨ρ1, L, g1, rl.mono e1, rg1, (Po.bind (Rel := relDs X.K) since_Ds h).imp fun vs H2 ⟨ρ2, ds, g2, e2, rg2, rs, h⟩ => ?_⟩
  exact h ρ2 H2 (v :: vs) .refl rg2 (RVs.cons (rx.mono e2) rs)
theorem s_tup {x1 : Nat} (h : PA X es (tEs T pl X.K k W ie)) : PE X (.Tuple es x1 pos) (tE T pl X.K k W (.tup ie)) := by
  refine ⟨fun pins s σ H Q I hw => (pe_tup h).run pins s σ H Q I ?_⟩
  obtain ⟨ρ, L, g, rl, rg, h⟩ := hw
  rw [ev] at h
  refine ⟨ρ, L, g, rl, rg, (h.bind (Rel := relDs X.K) since_X).imp fun vs H1 ⟨ρ1, ds, g1, e1, rg1, rs, h⟩ => ?_⟩
  split at h
  · rename_i hl
    exact ⟨by rw [rs.len, ← line_eq]; exact hl, fun p n => new_tup rg1 rs h p n⟩
  · exact h.elim
theorem s_lst (h : PA X es (tEs T pl X.K k W ie)) : PE X (.List es pos) (tE T pl X.K k W (.lst ie)) := by
  refine ⟨fun pins s σ H Q I hw => (pe_lst h).run pins s σ H Q I ?_⟩
  obtain ⟨ρ, L, g, rl, rg, h⟩ := hw
  rw [ev] at h
  refine ⟨ρ, L, g, rl, rg, (h.bind (Rel := relDs X.K) since_X).imp fun vs H1 ⟨ρ1, ds, g1, e1, rg1, rs, h⟩ => ?_⟩
  split at h
  · rename_i hl
    exact ⟨by rw [rs.len, ← line_eq]; exact hl, fun p n => new_tmp rg1 rs h p n⟩
  · exact h.elim
/-- a new object that a ghost holds -/
theorem new_ob {K : PySem.W.Frag} {ρ : List Addr} {H : Hp} {g : G} {Q : VK} {o : Ob} {u : HO} (rg : RG pl K ρ H g) (hq : ∀ ρ' H' v, Ext ρ ρ' H H' → RG pl K ρ' H' (g ++ [o]) → RX K ρ' H H' v (.d (.ref g.length)) → Q v H')
    (p : Addr) (n : H p = none) (ho : RO pl K ρ (upd H p u) p o) : Q (.ref p) (upd H p u) := by
  have n' := rg.mem_ne n
  refine hq (ρ ++ [p]) _ _ ((Ext.fresh n).push n) ((rg.fresh n).push n' ho) ?_
  show RV K _ _ _ _
  exact RV.ref (by rw [← rg.len, List.getElem?_concat_length])
theorem s_dnk : PE X (.Dict [] [] pos) (tE T pl X.K k W .dnk) := by
  refine ⟨fun pins s σ H Q I hw => pe_dnewK.run pins s σ H Q I fun p n => ?_⟩
  obtain ⟨ρ, L, g, rl, rg, h⟩ := hw
  rw [ev] at h
  exact new_ob rg h p n ⟨[], upd_same, rfl, .nil⟩
theorem s_dnt : PE X (.Dict [] [] pos) (tE T pl X.K k W .dnt) := by
  refine ⟨fun pins s σ H Q I hw => pe_dnewT.run pins s σ H Q I fun p n => ?_⟩
  obtain ⟨ρ, L, g, rl, rg, h⟩ := hw
  rw [ev] at h
  exact new_ob rg h p n ⟨[], upd_same, rfl, .nil⟩

/-! ### items -/
theorem atI_ok {K : PySem.W.Frag} {ρ : List Addr} {H : Hp} {ds : List D} {vs : List V} {i : Int} {d : D} (r : RVs K ρ H ds vs) (e : Py.atI ds i = some d) : ∃ v, L2.atI vs i = some v ∧ RV K ρ H d v := by
  unfold Py.atI at e
  cases ej : Py.ixN ds.length i with
  | none => rw [ej] at e; cases e
  | some j =>
    rw [ej] at e
    obtain ⟨v, h1, h2⟩ := r.get (show ds[j]? = some d from e)
    refine ⟨v, ?_, h2⟩
    have : L2.ixN vs.length i = some j := by rw [r.len]; exact ej
    unfold L2.atI
    rw [this]
    exact h1
/-- the tail of d[k] -/
theorem tail_dict {prog : Program} {w : World} {A : Around} {E : Value → Shared → Prop} {s : Shared} {value slice : Expr} {o i : Value} {Q : Value → Shared → Prop} (hT : s.TypeIs o "dict") (hs : subscripted slice false o i = operate [o, i] (getItem o i))
    (h : wpAny (model prog w) A (getItem o i) Q E s) : wpAny (model prog w) A (subscriptTail value slice o i) Q E s := by
  unfold subscriptTail
  refine wpAny_bind ?_
  rw [getitemInPython_of_ne hT.not_modules]
  refine wpAny_bind (wpAny_specialOf hT PySem.F.slot_dict_getitem.lookup ?_)
  have fin : wpAny (model prog w) A (subscripted slice false o i) (fun r s₃ => wpAny (model prog w) A (letTemporaryGo value o r >>= fun _ => pure r) Q E s₃) E s := by
    rw [hs]
    exact wpAny_operating (wpAny_mono h (fun r s₃ h₃ => wpAny_bind (wpAny_letTemporaryGo (wpAny_pure h₃))) fun _ _ x => x)
  first
    | exact wpAny_pure (wpAny_bind fin)
    | exact wpAny_bind (wpAny_pure (wpAny_bind fin))
    | exact wpAny_bind fin
theorem ix_ok (hu : X.A.units + 66 < cLine) : IxR X (fun v u H Q => ∃ ρ g x y z H1 H2, RG pl X.K ρ H g ∧ RX X.K ρ H1 H v x ∧ RX X.K ρ H2 H u (.d y) ∧ index g x y = some z ∧ ∀ v', RV X.K ρ H z v' → Q v' H) := by
  intro value slice pins s σ H x y v u Q I rx ry h hs
  obtain ⟨ρ, g, dx, dy, z, H1, H2, rg, r1, r2, e, q⟩ := h
  have r2' : RV X.K ρ H dy y := r2
  -- a list, a tuple by a number
  have seq : ∀ {ds : List D} {p : Addr} {vs : List V} {i : Int}, x = .ref p → dy = .int i → (SqL X.K H p vs ∨ SqT X.K H p vs) → RVs X.K ρ H ds vs → Py.atI ds i = some z → wpAny (model X.prog X.w) X.A (subscriptTail value slice v u) (EP X pins σ Q) X.xe s := by
    intro ds p vs i ex ey hq hr ei
    subst ex ey
    obtain rfl := rv_int r2'
    obtain ⟨w, h1, h2⟩ := atI_ok hr ei
    rcases hq with hq | hq
    · exact ix_list value slice pins s σ H _ _ v u Q I rx ry ⟨p, vs, i, w, rfl, rfl, hq, h1, q w h2⟩ hs
    · exact ix_tup value slice pins s σ H _ _ v u Q I rx ry ⟨p, vs, i, w, rfl, rfl, hq, h1, q w h2⟩ hs
  -- a dict
  have dct : ∀ {o : Option D}, ((∃ kvs k, keyed g dx = some (.inl kvs) ∧ kyOf dy = some k ∧ o = look k kvs) ∨ (∃ kvs ds k, keyed g dx = some (.inr kvs) ∧ dy = .tup ds ∧ keysOf ds = some k ∧ o = look k kvs)) → o = some z → wpAny (model X.prog X.w) X.A (subscriptTail value slice v u) (EP X pins σ Q) X.xe s := by
    intro o h eo
    obtain ⟨a, r, rfl, dg, hr⟩ := dget_ok rg r1 r2' h
    subst eo
    obtain ⟨w, rfl, hw⟩ := hr
    obtain rfl : v = Value.ref a := rx
    exact tail_dict (dict_typeIs I dg) hs (d_getItem (by omega) I dg ry fun w' s3 I3 rw' => ⟨w, H, I3, rw', q w hw⟩)
  cases dx with
  | tmp xs =>
    obtain ⟨p, vs, ep, hp, hr, _⟩ := r1
    cases dy with
    | int i => exact seq ep rfl (.inl (.of hp)) hr e
    | _ => simp [index] at e
  | d d =>
    cases d with
    | str t =>
      cases dy with
      | int i =>
        simp only [index] at e
        split at e
        · rename_i hl
          cases ec : Py.atI t i with
          | none => rw [ec] at e; cases e
          | some ch =>
            rw [ec] at e
            cases e
            obtain rfl := rx_str r1
            obtain rfl := rv_int r2'
            refine ix_str value slice pins s σ H _ _ v u Q I rx ry ⟨toS t, i, ch.toNat, rfl, rfl, by rw [toS_len, ← line_eq]; exact hl, ?_, q _ (RV.str [ch])⟩ hs
            unfold Py.atI at ec
            unfold L2.atI
            have e1 : (toS t).cps.toList = t.map Char.toNat := by simp [toS]
            rw [e1, List.length_map]
            cases ej : Py.ixN t.length i with
            | none => rw [ej] at ec; cases ec
            | some j =>
              rw [ej] at ec
              have : L2.ixN t.length i = some j := ej
              rw [this]
              show (t.map Char.toNat)[j]? = _
              rw [List.getElem?_map, show t[j]? = some ch from ec]
              rfl
        · cases e
      | _ => simp [index] at e
    | tup xs =>
      obtain ⟨p, vs, ep, hp, hr⟩ := rx_tup r1
      cases dy with
      | int i => exact seq ep rfl (.inr (.of hp)) hr e
      | _ => simp [index] at e
    | kt xs =>
      obtain ⟨p, vs, ep, hp, hr⟩ := rx_kt r1
      cases dy with
      | int i => exact seq ep rfl (.inr hp) hr e
      | _ => simp [index] at e
    | ref n =>
      simp only [index] at e
      cases eg : g[n]? with
      | none => rw [eg] at e; cases e
      | some o =>
        rw [eg] at e
        cases o with
        | lst xs =>
          obtain ⟨p, ep, _, vs, hp, hr⟩ := rx_obj rg r1 eg
          cases dy with
          | int i => exact seq ep rfl (.inl (.of hp)) hr e
          | _ => cases e
        | dk kvs =>
          cases ek : kyOf dy with
          | none => rw [ek] at e; cases e
          | some k => 
            rw [ek] at e
            exact dct (o := look k kvs) (.inl ⟨kvs, k, by simp [keyed, eg], ek, rfl⟩) e
        | fz kvs =>
          cases ek : kyOf dy with
          | none => rw [ek] at e; cases e
          | some k =>
            rw [ek] at e
            exact dct (o := look k kvs) (.inl ⟨kvs, k, by simp [keyed, eg], ek, rfl⟩) e
        | dt kvs =>
          cases dy with
          | tup ds =>
            simp only at e
            cases ek : keysOf ds with
            | none => rw [ek] at e; cases e
            | some k =>
              rw [ek] at e
              exact dct (o := look k kvs) (.inr ⟨kvs, ds, k, by simp [keyed, eg], rfl, ek, rfl⟩) e
          | _ => cases e
        | ins C fs => cases e
    | _ => simp [index] at e
theorem s_ix (hu : X.A.units + 66 < cLine) (ha : PE X a (tE T pl X.K k W ia)) (hb : PE X b (tE T pl X.K k W ib)) (hs : PlainIx b) : PE X (.Subscript a b pos) (tE T pl X.K k W (.ix ia ib)) := by
  refine ⟨fun pins s σ H Q I h => (pe_ix (ix_ok (pl := pl) hu) ha hb hs).run pins s σ H Q I ?_⟩
  obtain ⟨ρ, L, g, rl, rg, h⟩ := h
  rw [ev] at h
  refine ⟨ρ, L, g, rl, rg, (h.bind (Rel := relX X.K) since_X).imp fun v H1 ⟨ρ1, x, g1, e1, rg1, rx, h⟩ => ?_⟩
  refine ⟨ρ1, L, g1, rl.mono e1, rg1, (h.bind (Rel := relX X.K) since_X).imp fun u H2 ⟨ρ2, y, g2, e2, rg2, ry, h⟩ => ?_⟩
  cases y with
  | tmp xs => exact h.elim
  | d y =>
    cases ez : index g2 x y with
    | none => simp only [ez] at h; exact h.elim
    | some z =>
      simp only [ez] at h
      exact ⟨ρ2, g2, x, y, z, H, H1, rg2, rx.mono e2, ry, ez, fun v' hv => h ρ2 H2 v' .refl rg2 hv⟩

/-! ### slices -/
theorem cut_ok {K : PySem.W.Frag} {ρ : List Addr} {H : Hp} {ds : List D} {vs : List V} {lo hi : Option Int} (r : RVs K ρ H ds vs) : RVs K ρ H (cut ds lo hi) (cutV vs lo hi) := by
  unfold cut cutV
  have e : ∀ n d o, Py.sIx n d o = HT.sIx n d o := fun n d o => by cases o <;> rfl
  rw [e, e, ← r.len]
  exact (r.drop _).take _
theorem sl_ok : SlR X (fun v lo hi H Q => ∃ ρ g x z H1, RG pl X.K ρ H g ∧ RX X.K ρ H1 H v x ∧ Py.slice g x lo hi = some z ∧ ∀ ρ' H' v', Ext ρ ρ' H H' → RG pl X.K ρ' H' g → RX X.K ρ' H H' v' z → Q v' H') := by
  intro pins s σ H x v vl vu lo hi sl Q I rx hs pl' pu h
  obtain ⟨ρ, g, dx, z, H1, rg, r1, e, q⟩ := h
  unfold Py.slice at e
  split at e
  · rename_i t
    split at e
    · rename_i hl
      cases e
      obtain rfl := rx_str r1
      refine sl_str pins s σ H _ v vl vu lo hi sl Q I rx hs pl' pu ⟨toS t, rfl, by rw [toS_len, ← line_eq]; exact hl, ?_⟩
      have e1 : cutS (toS t) lo hi = toS (cut t lo hi) := by
        have e : ∀ n d o, Py.sIx n d o = HT.sIx n d o := fun n d o => by cases o <;> rfl
        unfold cutS cut
        rw [toS_len]
        simp only [e, toS, List.map_take, List.map_drop]
      rw [e1]
      exact q ρ H _ .refl rg (RX.str _)
    · cases e
  · cases e
    obtain ⟨p, vs, rfl, hp, hr⟩ := rx_tup r1
    refine sl_tupA pins s σ H _ v vl vu lo hi sl Q I rx hs pl' pu ⟨p, vs, rfl, .of hp, fun hw => ?_, fun _ p n => new_tup rg (cut_ok hr) q p n⟩
    refine q ρ H _ .refl rg (RX.tup hp ?_)
    have := cut_ok (lo := lo) (hi := hi) hr
    have e1 : cutV vs lo hi = vs := by
      unfold cutV
      rw [hw.1, hw.2]
      simp
    rw [e1] at this
    exact this
  · cases e
    obtain ⟨p, vs, rfl, hp, hr, _⟩ := r1
    exact sl_list pins s σ H _ v vl vu lo hi sl Q I rx hs pl' pu ⟨p, vs, rfl, .of hp, fun p n => new_tmp rg (cut_ok hr) q p n⟩
  · split at e
    · rename_i eg
      cases e
      obtain ⟨p, rfl, _, vs, hp, hr⟩ := rx_obj rg r1 eg
      exact sl_list pins s σ H _ v vl vu lo hi sl Q I rx hs pl' pu ⟨p, vs, rfl, .of hp, fun p n => new_tmp rg (cut_ok hr) q p n⟩
    · cases e
  · cases e
theorem s_slL (ha : PE X a (tE T pl X.K k W ia)) (hb : PE X b (tE T pl X.K k W ib)) {p2 : Pos} : PE X (.Subscript a (.Slice (some b) none none p2) pos) (tE T pl X.K k W (.slL ia ib)) := by
  refine ⟨fun pins s σ H Q I h => (pe_slice (sl_ok (pl := pl)) ha (po_some hb) po_none).run pins s σ H Q I ?_⟩
  obtain ⟨ρ, L, g, rl, rg, h⟩ := h
  rw [ev] at h
  refine ⟨ρ, L, g, rl, rg, (h.bind (Rel := relX X.K) since_X).imp fun v H1 ⟨ρ1, x, g1, e1, rg1, rx, h⟩ => ?_⟩
  refine ⟨ρ1, L, g1, rl.mono e1, rg1, (h.bind (Rel := relX X.K) since_X).imp fun u H2 ⟨ρ2, y, g2, e2, rg2, ry, h⟩ => ?_⟩
  split at h
  · rename_i i
    obtain ⟨z, ez, h⟩ := h.ofO
    exact ⟨i, rx_int ry, ρ2, g2, x, z, H, rg2, rx.mono e2, ez, h⟩
  · exact h.elim
theorem s_slH (ha : PE X a (tE T pl X.K k W ia)) (hb : PE X b (tE T pl X.K k W ib)) {p2 : Pos} : PE X (.Subscript a (.Slice none (some b) none p2) pos) (tE T pl X.K k W (.slH ia ib)) := by
  refine ⟨fun pins s σ H Q I h => (pe_slice (sl_ok (pl := pl)) ha po_none (po_some hb)).run pins s σ H Q I ?_⟩
  obtain ⟨ρ, L, g, rl, rg, h⟩ := h
  rw [ev] at h
  refine ⟨ρ, L, g, rl, rg, (h.bind (Rel := relX X.K) since_X).imp fun v H1 ⟨ρ1, x, g1, e1, rg1, rx, h⟩ => ?_⟩
  refine ⟨ρ1, L, g1, rl.mono e1, rg1, (h.bind (Rel := relX X.K) since_X).imp fun u H2 ⟨ρ2, y, g2, e2, rg2, ry, h⟩ => ?_⟩
  split at h
  · rename_i i
    obtain ⟨z, ez, h⟩ := h.ofO
    exact ⟨i, rx_int ry, ρ2, g2, x, z, H, rg2, rx.mono e2, ez, h⟩
  · exact h.elim
theorem s_slB (ha : PE X a (tE T pl X.K k W ia)) (hb : PE X b (tE T pl X.K k W ib)) (hc : PE X c (tE T pl X.K k W ic)) {p2 : Pos} : PE X (.Subscript a (.Slice (some b) (some c) none p2) pos) (tE T pl X.K k W (.slB ia ib ic)) := by
  refine ⟨fun pins s σ H Q I h => (pe_slice (sl_ok (pl := pl)) ha (po_some hb) (po_some hc)).run pins s σ H Q I ?_⟩
  obtain ⟨ρ, L, g, rl, rg, h⟩ := h
  rw [ev] at h
  refine ⟨ρ, L, g, rl, rg, (h.bind (Rel := relX X.K) since_X).imp fun v H1 ⟨ρ1, x, g1, e1, rg1, rx, h⟩ => ?_⟩
  refine ⟨ρ1, L, g1, rl.mono e1, rg1, (h.bind (Rel := relX X.K) since_X).imp fun u H2 ⟨ρ2, y, g2, e2, rg2, ry, h⟩ => ?_⟩
  split at h
  · rename_i i
    refine ⟨i, rx_int ry, ρ2, L, g2, (rl.mono e1).mono e2, rg2, (h.bind (Rel := relX X.K) since_X).imp fun w H3 ⟨ρ3, z, g3, e3, rg3, rz, h⟩ => ?_⟩
    split at h
    · rename_i j
      obtain ⟨z, ez, h⟩ := h.ofO
      exact ⟨j, rx_int rz, ρ3, g3, x, z, H, rg3, (rx.mono e2).mono e3, ez, h⟩
    · exact h.elim
  · exact h.elim

/-! ### isinstance -/
def tyN : Ty → String
  | .int => "int" | .bool => "bool" | .str => "str" | .tuple => "tuple" | .list => "list" | .dict => "dict" | .own _ => ""
def isTy : Ty → Bool
  | .own _ => false
  | _ => true
def kdN : Kd → String
  | .non => "NoneType" | .bool => "bool" | .int => "int" | .str => "str" | .tuple => "tuple" | .list => "list" | .dict => "dict"
def kitAll : Bool := [Kd.non, .bool, .int, .str, .tuple, .list, .dict].all fun a => [Ty.int, .bool, .str, .tuple, .list, .dict].all fun t => kitB (kdN a) (tyN t) == some (a.isa t)
theorem kitAll_true : kitAll = true := by decide +kernel
theorem kit_tab {K : PySem.W.Frag} (a : Kd) (t : Ty) (ht : isTy t = true) : PySem.W.kitOne K (.type (kdN a)) (.type (tyN t)) = some (a.isa t) := by
  refine kit_ty ?_
  have h := kitAll_true
  unfold kitAll at h
  rw [List.all_eq_true] at h
  have h1 := h a (by cases a <;> simp)
  rw [List.all_eq_true] at h1
  have h2 := h1 t (by cases t <;> first | (simp; done) | cases ht)
  exact beq_iff_eq.mp h2
theorem kind_ok {K : PySem.W.Frag} {ρ : List Addr} {H H1 : Hp} {g : G} {v : V} {x : XV} {k : Kd} (rg : RG pl K ρ H g) (r : RX K ρ H1 H v x) (e : kdOf g x = some k) : TyX K H v (.type (kdN k)) := by
  have tup : ∀ {p : Addr} {vs : List V}, SqT K H p vs → TyX K H (.ref p) (.type "tuple") := by
    intro p vs h
    rcases h with (h | ⟨o, h⟩) | ⟨o, its, n, hk, hc, _⟩
    · exact .base (.tup h)
    · exact .fTuple h
    · exact .kTuple hk hc
  cases x with
  | tmp xs =>
    obtain ⟨p, vs, rfl, hp, _⟩ := r
    cases e
    exact .base (.lst hp)
  | d d =>
    cases d with
    | non => cases e; obtain rfl := rx_non r; exact .base .non
    | bl i => cases e; obtain rfl := rx_bl r; exact .base (.bl _)
    | int i => cases e; obtain rfl := rx_int r; exact .base (.int _)
    | str i => cases e; obtain rfl := rx_str r; exact .base (.str _)
    | tup i => cases e; obtain ⟨p, vs, rfl, hp, _⟩ := rx_tup r; exact tup (.of hp)
    | kt i => cases e; obtain ⟨p, vs, rfl, hp, _⟩ := rx_kt r; exact tup hp
    | ls i => cases e
    | ref n =>
      simp only [kdOf] at e
      cases eg : g[n]? with
      | none => rw [eg] at e; cases e
      | some o =>
        rw [eg] at e
        obtain ⟨p, rfl, _, ho⟩ := rx_obj rg r eg
        cases o with
        | lst xs => cases e; obtain ⟨vs, h, _⟩ := ho; exact .base (.lst h)
        | dk kvs => cases e; obtain ⟨vs, h, _⟩ := ho; exact .base (.dK h)
        | dt kvs => cases e; obtain ⟨vs, h, _⟩ := ho; exact .base (.dT h)
        | ins C fs => cases e
        | fz kvs => cases e
theorem isinst_x {K : PySem.W.Frag} {ρ : List Addr} {H H1 : Hp} {g : G} {v : V} {x : XV} {t : Ty} {b : Bool} (ht : isTy t = true) (rg : RG pl K ρ H g) (r : RX K ρ H1 H v x) (e : isinst T g x t = some b) :
    ∃ u, TyX K H v u ∧ PySem.W.kitOne K u (.type (tyN t)) = some b := by
  unfold isinst at e
  cases ek : kdOf g x with
  | none => rw [ek] at e; cases e
  | some k =>
    rw [ek] at e
    cases e
    exact ⟨_, kind_ok rg r ek, kit_tab k t ht⟩
def tys : List Ty := [.int, .bool, .str, .tuple, .list, .dict]
theorem mem_tys (t : Ty) (ht : isTy t = true) : t ∈ tys := by cases t <;> first | (simp [tys]; done) | cases ht
def tyFacts (t : Ty) : Bool := bootBuiltins (Str.ofString (tyN t)) == some (.type (tyN t)) && !(Str.ofString (tyN t) == ("__debug__" : Str)) && decide (Str.ofString (tyN t) ≠ ("__name__" : Str)) && decide (Str.ofString (tyN t) ∈ bnames)
theorem tyFacts_all : tys.all tyFacts = true := by decide +kernel
theorem ty_facts (t : Ty) (ht : isTy t = true) : bootBuiltins (Str.ofString (tyN t)) = some (.type (tyN t)) ∧ (Str.ofString (tyN t) == ("__debug__" : Str)) = false ∧ Str.ofString (tyN t) ≠ ("__name__" : Str) ∧ Str.ofString (tyN t) ∈ bnames := by
  have h := List.all_eq_true.mp tyFacts_all t (mem_tys t ht)
  simp only [tyFacts, Bool.and_eq_true, beq_iff_eq, Bool.not_eq_true', decide_eq_true_eq] at h
  exact ⟨h.1.1.1, h.1.1.2, h.1.2, h.2⟩
theorem boot_isi : bootBuiltins ("isinstance" : Str) = some (.builtin "isinstance") := by decide +kernel
theorem s_isi {t : Ty} {p1 p2 : Pos} (G : Good T pl k N sc W X) (ht : isTy t = true) (ha : PE X a (tE T pl X.K k W ia)) (h1 : Gl X "isinstance") (h2 : Gl X (Str.ofString (tyN t))) (hs : ∀ r, starEach (a :: r) X.env = (false, eval a X.env) :: starEach r X.env) :
    PE X (.Call (.Name "isinstance" p1) [a, .Name (Str.ofString (tyN t)) p2] [] pos) (tE T pl X.K k W (.isi ia t)) := by
  have hm1 : X.mg "isinstance" = none := G.top.blt _ (by simp [bnames])
  obtain ⟨hb, hd, hn, hmem⟩ := ty_facts t ht
  have hm2 := G.top.blt _ hmem
  refine ⟨fun pins s σ H Q I h => (pe_callB (call_isi (X := X)) h1 hm1 boot_isi (pa_cons ha (pa_cons (pe_bltn (v := .ty (tyN t)) h2 hm2 hb rfl hn hd) pa_nil) (hs _)) (he := hs _)).run pins s σ H Q I ?_⟩
  obtain ⟨ρ, L, g, rl, rg, h⟩ := h
  rw [ev] at h
  refine ⟨ρ, L, g, rl, rg, (h.bind (Rel := relX X.K) since_X).imp fun v H1 ⟨ρ1, x, g1, e1, rg1, rx, h⟩ => ?_⟩
  obtain ⟨b, eb, h⟩ := h.bool rg1
  obtain ⟨u, hu, hk⟩ := isinst_x ht rg1 rx eb
  exact ⟨v, _, u, _, b, rfl, .ty _, hu, hk, h⟩

/-! ### built-in functions -/
def rB1 (pl : Pl) (K : PySem.W.Frag) (b : BI) : List V → Hp → VK → Prop := fun vs H Q => ∃ v ρ g x z H1, vs = [v] ∧ RG pl K ρ H g ∧ RX K ρ H1 H v x ∧ built1 g b x = some z ∧ ∀ ρ' H' v', Ext ρ ρ' H H' → RG pl K ρ' H' g → RX K ρ' H H' v' z → Q v' H'
theorem bools_ok {K : PySem.W.Frag} {ρ : List Addr} {H : Hp} : ∀ {ds : List D} {vs : List V} {bs : List Bool}, RVs K ρ H ds vs → boolsOf ds = some bs → vs = bs.map V.bl
  | [], vs, bs, r, e => by rw [RVs] at r; subst r; cases e; rfl
  | d :: ds, vs, bs, r, e => by
    rw [RVs] at r
    obtain ⟨v, vr, rfl, q, r⟩ := r
    cases d with
    | bl b =>
      simp only [boolsOf] at e
      cases e1 : boolsOf ds with
      | none => rw [e1] at e; cases e
      | some bs' =>
        rw [e1] at e
        cases e
        rw [rv_bl q, bools_ok r e1]
        rfl
    | _ => cases e
theorem ints_ok {K : PySem.W.Frag} {ρ : List Addr} {H : Hp} : ∀ {ds : List D} {vs : List V} {bs : List Int}, RVs K ρ H ds vs → intsOf ds = some bs → vs = bs.map V.int
  | [], vs, bs, r, e => by rw [RVs] at r; subst r; cases e; rfl
  | d :: ds, vs, bs, r, e => by
    rw [RVs] at r
    obtain ⟨v, vr, rfl, q, r⟩ := r
    cases d with
    | int b =>
      simp only [intsOf] at e
      cases e1 : intsOf ds with
      | none => rw [e1] at e; cases e
      | some bs' =>
        rw [e1] at e
        cases e
        rw [rv_int q, ints_ok r e1]
        rfl
    | _ => cases e
theorem b_len : CallR X (.builtin "len") (rB1 pl X.K .len) := by
  intro pins s σ H vs us Q I r h
  obtain ⟨v, ρ, g, x, z, H1, rfl, rg, rx, e, q⟩ := h
  simp only [built1] at e
  cases en : lenOf g x with
  | none => rw [en] at e; cases e
  | some n =>
    rw [en] at e
    cases e
    have fin : Q (.int n) H := q ρ H _ .refl rg (RX.int _)
    have seq : ∀ {ds : List D}, items g x = some ds → n = ds.length → wpAny (model X.prog X.w) X.A (call (.builtin "len") us) (EP X pins σ Q) X.xe s := by
      intro ds ei hn
      obtain ⟨p, ws, rfl, hp, hr⟩ := items_ok rg rx ei
      refine call_len pins s σ H _ us Q I r ⟨.ref p, n, rfl, ?_, fin⟩
      rcases hp with hp | hp
      · exact .inl ⟨ws, hp, by rw [hn, hr.len]⟩
      · exact .inr ⟨ws, hp, by rw [hn, hr.len]⟩
    cases x with
    | tmp xs => cases en; exact seq rfl rfl
    | d d =>
      cases d with
      | str t =>
        simp only [lenOf] at en
        split at en
        · rename_i hl
          cases en
          obtain rfl := rx_str rx
          exact call_len pins s σ H _ us Q I r ⟨_, _, rfl, ⟨by rw [toS_len, ← line_eq]; exact hl, (toS_len t).symm⟩, fin⟩
        · cases en
      | tup xs => cases en; exact seq rfl rfl
      | kt xs => cases en; exact seq rfl rfl
      | ls xs => cases en; exact seq rfl rfl
      | ref m =>
        simp only [lenOf] at en
        cases eg : g[m]? with
        | none => rw [eg] at en; cases en
        | some o =>
          rw [eg] at en
          cases o with
          | lst xs => cases en; exact seq (by simp [items, eg]) rfl
          | dk kvs =>
            cases en
            obtain ⟨p, rfl, _, ws, hp, hk, _⟩ := rx_obj rg rx eg
            have hl := congrArg List.length hk
            simp only [List.length_map] at hl
            rw [← hl] at fin
            exact call_lenD pins s σ H _ us Q I r ⟨p, ws, rfl, hp, fin⟩
          | dt kvs =>
            cases en
            obtain ⟨p, rfl, _, ws, hp, hk, _⟩ := rx_obj rg rx eg
            have hl := congrArg List.length hk
            simp only [List.length_map] at hl
            rw [← hl] at fin
            exact call_len_dT pins s σ H _ us Q I r ⟨p, ws, rfl, hp, fin⟩
          | ins C fs => cases en
          | fz kvs => cases en
      | _ => cases en
theorem b_abs : CallR X (.builtin "abs") (rB1 pl X.K .abs) := by
  intro pins s σ H vs us Q I r h
  obtain ⟨v, ρ, g, x, z, H1, rfl, rg, rx, e, q⟩ := h
  simp only [built1] at e
  split at e
  · cases e
    obtain rfl := rx_int rx
    exact call_abs pins s σ H _ us Q I r ⟨_, rfl, q ρ H _ .refl rg (RX.int _)⟩
  · cases e
theorem b_int : CallR X (.type "int") (rB1 pl X.K .int) := by
  intro pins s σ H vs us Q I r h
  obtain ⟨v, ρ, g, x, z, H1, rfl, rg, rx, e, q⟩ := h
  simp only [built1] at e
  split at e
  · cases e
    obtain rfl := rx_int rx
    exact call_int1 pins s σ H _ us Q I r (.inl ⟨_, rfl, q ρ H _ .refl rg (RX.int _)⟩)
  · cases e
    obtain rfl := rx_bl rx
    exact call_int1 pins s σ H _ us Q I r (.inr ⟨_, rfl, q ρ H _ .refl rg (RX.int _)⟩)
  · cases e
theorem b_bool : CallR X (.type "bool") (rB1 pl X.K .bool) := by
  intro pins s σ H vs us Q I r h
  obtain ⟨v, ρ, g, x, z, H1, rfl, rg, rx, e, q⟩ := h
  simp only [built1] at e
  split at e
  · cases e
    obtain rfl := rx_int rx
    exact call_bool1 pins s σ H _ us Q I r (.inl ⟨_, rfl, q ρ H _ .refl rg (RX.bl _)⟩)
  · cases e
    obtain rfl := rx_bl rx
    exact call_bool1 pins s σ H _ us Q I r (.inr ⟨_, rfl, q ρ H _ .refl rg (RX.bl _)⟩)
  · cases e
end
end Sd
set_option Elab.async false
set_option linter.all false
set_option maxRecDepth 100000
set_option maxHeartbeats 1000000
/-! Snd7: built-in functions, fields, methods, calls of defs. -/
namespace Sd
open PySem PySem.Spec PyProof.Rows L2 Py

section
variable {T : Tb} {pl : Pl} {X : Cx} {k : Nat} {N : List Str} {sc : Scope} {W : WX} {ia ib ic : E} {ie : Es} {a b c : Expr} {es : List Expr} {pos : Pos}
theorem b_tuple : CallR X (.type "tuple") (rB1 pl X.K .tuple) := by
  intro pins s σ H vs us Q I r h
  obtain ⟨v, ρ, g, x, z, H1, rfl, rg, rx, e, q⟩ := h
  simp only [built1] at e
  have lst : ∀ {ds : List D} {p : Addr} {ws : List V}, v = .ref p → SqL X.K H p ws → RVs X.K ρ H ds ws → some (XV.d (.tup ds)) = some z → wpAny (model X.prog X.w) X.A (call (.type "tuple") us) (EP X pins σ Q) X.xe s := by
    intro ds p ws ev hp hr e
    cases e
    subst ev
    exact call_tuple_of pins s σ H _ us Q I r ⟨p, ws, rfl, .inl ⟨hp, fun l n => new_tup rg hr q l n⟩⟩
  cases x with
  | tmp xs =>
    obtain ⟨p, ws, rfl, hp, hr, _⟩ := rx
    exact lst rfl (.of hp) hr e
  | d d =>
    cases d with
    | tup xs =>
      cases e
      obtain ⟨p, ws, rfl, hp, hr⟩ := rx_tup rx
      exact call_tuple_of pins s σ H _ us Q I r ⟨p, ws, rfl, .inr ⟨.of hp, q ρ H _ .refl rg (RX.tup hp hr)⟩⟩
    | ls xs =>
      obtain ⟨p, ws, rfl, hp, hr⟩ := rx_ls rx
      exact lst rfl hp.sq hr e
    | kt xs => cases e
    | ref n =>
      simp only [items] at e
      cases eg : g[n]? with
      | none => rw [eg] at e; cases e
      | some o =>
        rw [eg] at e
        cases o with
        | lst xs =>
          obtain ⟨p, rfl, _, ws, hp, hr⟩ := rx_obj rg rx eg
          exact lst rfl (.of hp) hr e
        | _ => cases e
    | _ => cases e
theorem b_list : CallR X (.type "list") (rB1 pl X.K .list) := by
  intro pins s σ H vs us Q I r h
  obtain ⟨v, ρ, g, x, z, H1, rfl, rg, rx, e, q⟩ := h
  simp only [built1] at e
  cases ei : items g x with
  | none => rw [ei] at e; cases e
  | some ds =>
    rw [ei] at e
    cases e
    obtain ⟨p, ws, rfl, hp, hr⟩ := items_ok rg rx ei
    exact call_list_of pins s σ H _ us Q I r ⟨p, ws, rfl, hp, fun l n => new_tmp rg hr q l n⟩
theorem b_all (hc : X.calm = true) : CallR X (.builtin "all") (rB1 pl X.K .all) := by
  intro pins s σ H vs us Q I r h
  obtain ⟨v, ρ, g, x, z, H1, rfl, rg, rx, e, q⟩ := h
  simp only [built1] at e
  cases ei : Py.listOf g x with
  | none => rw [ei] at e; cases e
  | some ds =>
    rw [ei] at e
    cases eb : boolsOf ds with
    | none => simp [eb] at e
    | some bs =>
      simp only [eb, Option.bind_some, Option.map_some, Option.some.injEq] at e
      subst e
      obtain ⟨p, ws, rfl, hp, hr⟩ := listOf_ok rg rx ei
      rw [bools_ok hr eb] at hp
      exact cr_all hc pins s σ H _ us Q I r ⟨p, bs, rfl, .of hp, q ρ H _ .refl rg (RX.bl _)⟩
theorem b_any (hc : X.calm = true) : CallR X (.builtin "any") (rB1 pl X.K .any) := by
  intro pins s σ H vs us Q I r h
  obtain ⟨v, ρ, g, x, z, H1, rfl, rg, rx, e, q⟩ := h
  simp only [built1] at e
  cases ei : Py.listOf g x with
  | none => rw [ei] at e; cases e
  | some ds =>
    rw [ei] at e
    cases eb : boolsOf ds with
    | none => simp [eb] at e
    | some bs =>
      simp only [eb, Option.bind_some, Option.map_some, Option.some.injEq] at e
      subst e
      obtain ⟨p, ws, rfl, hp, hr⟩ := listOf_ok rg rx ei
      rw [bools_ok hr eb] at hp
      exact cr_any hc pins s σ H _ us Q I r ⟨p, bs, rfl, .of hp, q ρ H _ .refl rg (RX.bl _)⟩
theorem b_sum (hc : X.calm = true) : CallR X (.builtin "sum") (rB1 pl X.K .sum) := by
  intro pins s σ H vs us Q I r h
  obtain ⟨v, ρ, g, x, z, H1, rfl, rg, rx, e, q⟩ := h
  simp only [built1] at e
  cases ei : Py.listOf g x with
  | none => rw [ei] at e; cases e
  | some ds =>
    rw [ei] at e
    cases eb : intsOf ds with
    | none => simp [eb] at e
    | some bs =>
      simp only [eb, Option.bind_some, Option.map_some, Option.some.injEq] at e
      subst e
      obtain ⟨p, ws, rfl, hp, hr⟩ := listOf_ok rg rx ei
      rw [ints_ok hr eb] at hp
      exact cr_sum hc pins s σ H _ us Q I r ⟨p, bs, rfl, .of hp, q ρ H _ .refl rg (RX.int _)⟩
/-- a built-in function's name, its value -/
def biN : BI → String
  | .len => "len" | .abs => "abs" | .int => "int" | .bool => "bool" | .str => "str" | .tuple => "tuple" | .list => "list" | .all => "all" | .any => "any" | .sum => "sum" | .max => "max" | .min => "min" | .sorted => "sorted" | .dict => "dict" | .repr => "repr"
def biTy : BI → Bool
  | .int | .bool | .str | .tuple | .list | .dict => true
  | _ => false
def biV (b : BI) : Value := if biTy b then .type (biN b) else .builtin (biN b)
def bis : List BI := [.len, .abs, .int, .bool, .str, .tuple, .list, .all, .any, .sum, .max, .min, .sorted, .dict, .repr]
theorem mem_bis (b : BI) : b ∈ bis := by cases b <;> simp [bis]
def biFacts (b : BI) : Bool := bootBuiltins (Str.ofString (biN b)) == some (biV b) && !(Str.ofString (biN b) == ("__debug__" : Str)) && decide (Str.ofString (biN b) ≠ ("__name__" : Str)) && decide (Str.ofString (biN b) ∈ bnames)
theorem biFacts_all : bis.all biFacts = true := by decide +kernel
theorem bi_facts (b : BI) : bootBuiltins (Str.ofString (biN b)) = some (biV b) ∧ (Str.ofString (biN b) == ("__debug__" : Str)) = false ∧ Str.ofString (biN b) ≠ ("__name__" : Str) ∧ Str.ofString (biN b) ∈ bnames := by
  have h := List.all_eq_true.mp biFacts_all b (mem_bis b)
  simp only [biFacts, Bool.and_eq_true, beq_iff_eq, Bool.not_eq_true', decide_eq_true_eq] at h
  exact ⟨h.1.1.1, h.1.1.2, h.1.2, h.2⟩
def b1ok : BI → Bool
  | .len | .abs | .int | .bool | .tuple | .list | .all | .any | .sum => true
  | _ => false
theorem b1_none (b : BI) (h : b1ok b = false) (g : G) (x : XV) : built1 g b x = none := by
  cases b <;> first | rfl | cases h
theorem s_bi1 {bi : BI} {p1 : Pos} (G : Good T pl k N sc W X) (C0 : Calm k X) (hok : b1ok bi = true) (ha : PE X a (tE T pl X.K k W ia)) (h1 : Gl X (Str.ofString (biN bi))) (hs : ∀ r, starEach (a :: r) X.env = (false, eval a X.env) :: starEach r X.env) :
    PE X (.Call (.Name (Str.ofString (biN bi)) p1) [a] [] pos) (tE T pl X.K k W (.bi bi (.cons ia .nil))) := by
  obtain ⟨hb, hd, hn, hmem⟩ := bi_facts bi
  have hm := G.top.blt _ hmem
  have go : ∀ {t : TE}, (PE X (.Call (.Name (Str.ofString (biN bi)) p1) [a] [] pos) (tCB (rB1 pl X.K bi) (tCons (tE T pl X.K k W ia) tNil))) → PE X (.Call (.Name (Str.ofString (biN bi)) p1) [a] [] pos) (tE T pl X.K k W (.bi bi (.cons ia .nil))) := by
    intro t p
    refine ⟨fun pins s σ H Q I h => p.run pins s σ H Q I ?_⟩
    obtain ⟨ρ, L, g, rl, rg, h⟩ := h
    rw [ev] at h
    refine ⟨ρ, L, g, rl, rg, (h.bind (Rel := relX X.K) since_X).imp fun v H1 ⟨ρ1, x, g1, e1, rg1, rx, h⟩ => ?_⟩
    obtain ⟨z, ez, h⟩ := h.ofO
    exact ⟨v, ρ1, g1, x, z, H, rfl, rg1, rx, ez, h⟩
  have fnn : ∀ {r}, biTy bi = false → CallR X (.builtin (biN bi)) r → PE X (.Call (.Name (Str.ofString (biN bi)) p1) [a] [] pos) (tCB r (tCons (tE T pl X.K k W ia) tNil)) := by
    intro r hty hc
    exact pe_callB hc h1 hm (by rw [hb]; unfold biV; rw [hty]; rfl) (pa_cons ha pa_nil (hs _)) hn hd (hs _)
  have tyy : ∀ {r}, biTy bi = true → CallR X (.type (biN bi)) r → PE X (.Call (.Name (Str.ofString (biN bi)) p1) [a] [] pos) (tCB r (tCons (tE T pl X.K k W ia) tNil)) := by
    intro r hty hc
    exact pe_callTy hc h1 hm (by rw [hb]; unfold biV; rw [hty]; rfl) (pa_cons ha pa_nil (hs _)) hn hd (hs _)
  cases bi with
  | len => exact go (t := fun _ _ _ => True) (fnn rfl b_len)
  | abs => exact go (t := fun _ _ _ => True) (fnn rfl b_abs)
  | int => exact go (t := fun _ _ _ => True) (tyy rfl b_int)
  | bool => exact go (t := fun _ _ _ => True) (tyy rfl b_bool)
  | tuple => exact go (t := fun _ _ _ => True) (tyy rfl b_tuple)
  | list => exact go (t := fun _ _ _ => True) (tyy rfl b_list)
  | all => exact go (t := fun _ _ _ => True) (fnn rfl (b_all C0.calm))
  | any => exact go (t := fun _ _ _ => True) (fnn rfl (b_any C0.calm))
  | sum => exact go (t := fun _ _ _ => True) (fnn rfl (b_sum C0.calm))
  | _ => cases hok
/-- two arguments -/
def rB2 (pl : Pl) (K : PySem.W.Frag) (b : BI) : List V → Hp → VK → Prop := fun vs H Q => ∃ v u ρ g x y z H1 H2, vs = [v, u] ∧ RG pl K ρ H g ∧ RX K ρ H1 H v x ∧ RX K ρ H2 H u y ∧ built2 g b x y = some z ∧ ∀ ρ' H' v', Ext ρ ρ' H H' → RG pl K ρ' H' g → RX K ρ' H H' v' z → Q v' H'
theorem b_max (hc : X.calm = true) : CallR X (.builtin "max") (rB2 pl X.K .max) := by
  intro pins s σ H vs us Q I r h
  obtain ⟨v, u, ρ, g, x, y, z, H1, H2, rfl, rg, rx, ry, e, q⟩ := h
  simp only [built2] at e
  split at e
  · cases e
    obtain rfl := rx_int rx
    obtain rfl := rx_int ry
    exact call_max2 hc pins s σ H _ us Q I r ⟨_, _, rfl, q ρ H _ .refl rg (RX.int _)⟩
  · cases e
theorem b_min (hc : X.calm = true) : CallR X (.builtin "min") (rB2 pl X.K .min) := by
  intro pins s σ H vs us Q I r h
  obtain ⟨v, u, ρ, g, x, y, z, H1, H2, rfl, rg, rx, ry, e, q⟩ := h
  simp only [built2] at e
  split at e
  · cases e
    obtain rfl := rx_int rx
    obtain rfl := rx_int ry
    exact call_min2 hc pins s σ H _ us Q I r ⟨_, _, rfl, q ρ H _ .refl rg (RX.int _)⟩
  · cases e
def b2ok : BI → Bool
  | .max | .min => true
  | _ => false
theorem s_bi2 {bi : BI} {p1 : Pos} (G : Good T pl k N sc W X) (C0 : Calm k X) (hok : b2ok bi = true) (ha : PE X a (tE T pl X.K k W ia)) (hb' : PE X b (tE T pl X.K k W ib)) (h1 : Gl X (Str.ofString (biN bi))) (hs : ∀ r, starEach (a :: r) X.env = (false, eval a X.env) :: starEach r X.env) (hs2 : ∀ r, starEach (b :: r) X.env = (false, eval b X.env) :: starEach r X.env) :
    PE X (.Call (.Name (Str.ofString (biN bi)) p1) [a, b] [] pos) (tE T pl X.K k W (.bi bi (.cons ia (.cons ib .nil)))) := by
  obtain ⟨hb, hd, hn, hmem⟩ := bi_facts bi
  have hm := G.top.blt _ hmem
  have hc : CallR X (.builtin (biN bi)) (rB2 pl X.K bi) := by
    cases bi with
    | max => exact b_max C0.calm
    | min => exact b_min C0.calm
    | _ => cases hok
  have hty : biTy bi = false := by cases bi <;> first | rfl | cases hok
  have hpl : (backTo pos (starEach [b] X.env)).any (·.1) = false := by rw [hs2 []]; rfl
  have p := pe_callB (pos := pos) (p := p1) hc h1 hm (by rw [hb]; unfold biV; rw [hty]; rfl) (pa_cons ha (pa_cons hb' pa_nil (hs2 _)) (hs _)) hn hd (hs _) hpl
  refine ⟨fun pins s σ H Q I h => p.run pins s σ H Q I ?_⟩
  obtain ⟨ρ, L, g, rl, rg, h⟩ := h
  rw [ev] at h
  refine ⟨ρ, L, g, rl, rg, (h.bind (Rel := relX X.K) since_X).imp fun v H1 ⟨ρ1, x, g1, e1, rg1, rx, h⟩ => ?_⟩
  refine ⟨ρ1, L, g1, rl.mono e1, rg1, (h.bind (Rel := relX X.K) since_X).imp fun u H2 ⟨ρ2, y, g2, e2, rg2, ry, h⟩ => ?_⟩
  obtain ⟨z, ez, h⟩ := h.ofO
  exact ⟨v, u, ρ2, g2, x, y, z, H, H1, rfl, rg2, rx.mono e2, ry, ez, h⟩

/-! ### fields -/
theorem s_fld {x : Str} {f : Nat} (G : Good T pl k N sc W X) (ha : PE X a (tE T pl X.K k W ia)) (hx : pl.nm.ats[f]? = some x) (hb : attributeBase a x X.env (eval a X.env) = eval a X.env) : PE X (.Attribute a x pos) (tE T pl X.K k W (.fld ia f)) := by
  refine ⟨fun pins s σ H Q I h => (pe_fld ha hb).run pins s σ H Q I ?_⟩
  obtain ⟨ρ, L, g, rl, rg, h⟩ := h
  rw [ev] at h
  refine ⟨ρ, L, g, rl, rg, (h.bind (Rel := relX X.K) since_X).imp fun v H1 ⟨ρ1, x1, g1, e1, rg1, rx, h⟩ => ?_⟩
  cases x1 with
  | tmp xs => exact h.elim
  | d d =>
    obtain ⟨z, ez, h⟩ := h.ofO
    cases d with
    | ref n =>
      simp only [getF] at ez
      cases eg : g1[n]? with
      | none => rw [eg] at ez; cases ez
      | some o =>
        rw [eg] at ez
        cases o with
        | ins C fs =>
          simp only at ez
          split at ez
          · rename_i hmt
            cases el : fs.lookup f with
            | none => rw [el] at ez; cases ez
            | some y =>
              rw [el] at ez
              cases ez
              obtain ⟨p, rfl, _, ⟨fi, hi⟩, dx, fv, hp, hf⟩ := rx_obj rg1 rx eg
              have := hf.2.2 f x hx
              rw [el] at this
              obtain ⟨w, hw, rw'⟩ := this
              rw [G.top.ini] at hi
              refine ⟨p, pl.ca C, dx, fv, w, rfl, hp, G.top.cl C fi hi, G.top.nat C fi f x hi hx (Option.isNone_iff_eq_none.mp hmt), hw, ?_⟩
              exact h ρ1 H1 w .refl rg1 rw'
          · cases ez
        | _ => cases ez
    | _ => cases ez

/-! ### calls -/
/-- what a def's call wants of the evaluator's end -/
theorem spE_of {K : PySem.W.Frag} {np k f : Nat} {vs : List V} {H : Hp} {Q : VK} {σ : L2.St} {ρ : List Addr} {ds : List D} {g : G} (hl : vs.length = np) (rs : RVs K ρ H ds vs) (rg : RG pl K ρ H g) (h : Po pl K (relD K) ρ H (wish pl W σ) Q (runF T k f ds g)) :
    spE pl K T np k f vs H Q (WE W σ) := ⟨hl, ρ, ds, g, rs, rg, h⟩
theorem len_of_run {f : Nat} {F : Fn} {ds : List D} {g : G} {α : Type} {β : Type} {Rel : List Addr → Hp → Hp → β → D → Prop} {K : PySem.W.Frag} {ρ : List Addr} {H : Hp} {Wx : Wish} {Q : β → Hp → Prop} (hF : T.fn f = some F) (h : Po pl K Rel ρ H Wx Q (runF T k f ds g)) : ds.length = F.np := by
  cases k with
  | zero => exact h.elim
  | succ k =>
    simp only [runF, hF] at h
    split at h
    · assumption
    · exact h.elim
theorem go_call {f : Nat} {σ : L2.St} {H : Hp} {Q : VK} {F : Fn} (hF : T.fn f = some F) (h : tE T pl X.K k W (.call f ie) σ H Q) : tEs T pl X.K k W ie σ H fun vs H1 => spE pl X.K T F.np k f vs H1 Q (WE W σ) := by
  obtain ⟨ρ, L, g, rl, rg, h⟩ := h
  rw [ev] at h
  refine ⟨ρ, L, g, rl, rg, (h.bind (Rel := relDs X.K) since_X).imp fun vs H1 ⟨ρ1, ds, g1, e1, rg1, rs, h⟩ => ?_⟩
  have h' : Po pl X.K (relD X.K) ρ1 H1 (wish pl W σ) Q (runF T k f ds g1) := by
    revert h
    cases runF T k f ds g1 with
    | ok d g2 => exact fun h ρ' H' v e rg rv => h ρ' H' v e rg rv
    | ex x g2 => exact id
    | bad => exact id
  exact spE_of (by rw [rs.len]; exact len_of_run (α := D) hF h') rs rg1 h'
theorem nil_es {σ : L2.St} {H : Hp} {Q : List V → Hp → Prop} (h : tEs T pl X.K k W .nil σ H Q) : Q [] H := by
  obtain ⟨ρ, L, g, rl, rg, h⟩ := h
  rw [evs] at h
  exact h ρ H [] .refl rg .nil
theorem s_call0 {x : Str} {f : Nat} {p1 : Pos} (G : Good T pl k N sc W X) (C0 : Calm k X) (hx : pl.nm.fns[f]? = some (some x)) (hg : Gl X x) (hd : (x == ("__debug__" : Str)) = false) :
    PE X (.Call (.Name x p1) [] [] pos) (tE T pl X.K k W (.call f .nil)) := by
  obtain ⟨fa, hm, ⟨fd, ps, F, hF, ok, hb, hps⟩, kp⟩ := G.top.fns f x hx
  refine ⟨fun pins s σ H Q I h => ?_⟩
  have q := nil_es (go_call hF h)
  refine wpAny_Call_Name_kw (ld_glob I hg hm ?_ hd)
  exact PySem.W.callWith_K0 I.kIn kp (run_fnS (us := []) ok (C0.room.mono (lv_le k)) hb (passAt G.tk σ) I .nil q)
theorem s_call {x : Str} {f : Nat} {p1 : Pos} {e : Expr} (G : Good T pl k N sc W X) (C0 : Calm k X) (hx : pl.nm.fns[f]? = some (some x)) (hg : Gl X x) (hd : (x == ("__debug__" : Str)) = false) (ha : PA X (e :: es) (tEs T pl X.K k W ie))
    (h1 : starEach (e :: es) X.env = (false, eval e X.env) :: starEach es X.env) (h2 : (backTo pos (starEach es X.env)).any (·.1) = false) :
    PE X (.Call (.Name x p1) (e :: es) [] pos) (tE T pl X.K k W (.call f ie)) := by
  obtain ⟨fa, hm, ⟨fd, ps, F, hF, ok, hb, hps⟩, kp⟩ := G.top.fns f x hx
  refine ⟨fun pins s σ H Q I h => ?_⟩
  exact (pe_callS ok (C0.room.mono (lv_le k)) hg hm kp hb (passAt G.tk) ha hd h1 h2).run pins s σ H Q I (go_call hF h)

/-! ### new instances -/
theorem run_makeS {C f : Addr} {fd : FuncData} {ps : List Str} {sp : Sp} {E : XK} {pins : List (Addr × Obj)} {σ : L2.St} {H : Hp} {s : Shared} {Q : VK} {us : List Value} {vs : List V} (M : Mk X.K C f) (F : FnOk X.prog X.w X.K X.mg X.base (L2.CX X.prog X.w) k f fd ps sp) (hr : Room (k + 1) X.A) (hb : Binds X.K fd ps [])
    (hx : PassesAt (L2.CX X.prog X.w) X σ E) (I : Inv X pins σ H s) (r : Vals vs us)
    (h : ∀ x dx, H x = none → H dx = none → dx ≠ x → sp (.ref x :: vs) (upd (upd H dx (.own x)) x (.ins C dx [])) (fun v H2 => v = .non ∧ Q (.ref x) H2) E) :
    wpAny (model X.prog X.w) X.A (call (.ref C) us) (EP X pins σ Q) X.xe s := by
  have hq := h (s.heap.objs.size + 1) s.heap.objs.size (I.hok.fresh (Nat.le_succ _)) (I.hok.fresh (Nat.le_refl _)) (Nat.ne_of_lt (Nat.lt_succ_self _))
  have I2 := Inv.made (C := C) I
  have r2 : Vals (V.ref (s.heap.objs.size + 1) :: vs) (Value.ref (s.heap.objs.size + 1) :: us) := .cons rfl r
  have hl : (Value.ref (s.heap.objs.size + 1) :: us).length = ps.length := by
    have e := r2.length
    rw [F.len _ _ _ _ hq] at e
    exact e.symm
  have hbb := hb _ (Value.ref (s.heap.objs.size + 1) :: us) I2.kIn (by rw [List.append_nil]; exact hl)
  rw [List.append_nil] at hbb
  refine wpAny_call (make_map (f := f) I.kIn M.makes M.init (beq_iff_eq.mp M.fn) (codeAny_mono (F.run _ X.stack _ _ ⟨Value.ref (s.heap.objs.size + 1) :: us, []⟩ (Value.ref (s.heap.objs.size + 1) :: us) _ _ E (hr.make C us [])
    (I2.env0.make C us []) hbb r2 hq) fun r s' hq' => ?_))
  cases r with
  | error e => exact hx pins _ _ e s' I2 hq'
  | ok fl =>
    cases fl with
    | ret u =>
      obtain ⟨v, H', I3, rv, ev, q3⟩ := I2.after hq'
      subst ev
      exact ⟨rv, ⟨V.ref (s.heap.objs.size + 1), H', I3, rfl, q3⟩⟩
    | next => exact False.elim hq'
    | brk => exact False.elim hq'
    | cont => exact False.elim hq'
theorem go_mk {C f : Nat} {fa : Addr} {σ : L2.St} {H : Hp} {Q : VK} {F : Fn} (top : Top X.prog X.w X.K X.mg X.base pl T k) (hC : T.ini C = some f) (hF : T.fn f = some F) (h : tE T pl X.K k W (.mk C ie) σ H Q) :
    tEs T pl X.K k W ie σ H fun vs H1 => ∀ x dx, H1 x = none → H1 dx = none → dx ≠ x → spE pl X.K T F.np (k - 1) f (.ref x :: vs) (upd (upd H1 dx (.own x)) x (.ins (pl.ca C) dx [])) (fun v H2 => v = .non ∧ Q (.ref x) H2) (WE W σ) := by
  obtain ⟨ρ, L, g, rl, rg, h⟩ := h
  rw [ev] at h
  simp only [hC] at h
  refine ⟨ρ, L, g, rl, rg, (h.bind (Rel := relDs X.K) since_X).imp fun vs H1 ⟨ρ1, ds, g1, e1, rg1, rs, h⟩ x dx hx hdx hne => ?_⟩
  split at h
  case isFalse => exact h.elim
  rename_i hno
  rw [run_mk (Option.isNone_iff_eq_none.mp hno)] at h
  have x1 : Ext ρ1 ρ1 H1 (upd H1 dx (.own x)) := .fresh hdx
  have hx' : upd H1 dx (.own x) x = none := by rw [upd_ne (Ne.symm hne)]; exact hx
  have x2 : Ext ρ1 (ρ1 ++ [x]) H1 (upd (upd H1 dx (.own x)) x (.ins (pl.ca C) dx [])) := x1.trans ((Ext.fresh hx').push hx')
  have rg2 : RG pl X.K (ρ1 ++ [x]) (upd (upd H1 dx (.own x)) x (.ins (pl.ca C) dx [])) (g1 ++ [.ins C []]) := by
    refine ((rg1.fresh hdx).fresh hx').push (rg1.mem_ne hx) ⟨⟨f, by rw [top.ini]; exact hC⟩, dx, [], upd_same, Nat.le_refl _, fun z v hz => ?_, fun i z hz => ?_⟩
    · simp at hz
    · simp
  have rx : RV X.K (ρ1 ++ [x]) (upd (upd H1 dx (.own x)) x (.ins (pl.ca C) dx [])) (.ref g1.length) (.ref x) := RV.ref (by rw [← rg1.len, List.getElem?_concat_length])
  have h' : Po pl X.K (relD X.K) (ρ1 ++ [x]) (upd (upd H1 dx (.own x)) x (.ins (pl.ca C) dx [])) (wish pl W σ) (fun v H2 => v = .non ∧ Q (.ref x) H2) (runF T (k - 1) f (.ref g1.length :: ds) (g1 ++ [.ins C []])) := by
    have h := Po.shift since_X h x2
    revert h
    cases runF T (k - 1) f (.ref g1.length :: ds) (g1 ++ [.ins C []]) with
    | ok d g2 =>
      intro h ρ' H' v e rg rv
      cases d with
      | non =>
        refine ⟨by simpa [relD, RV] using rv, h ρ' H' _ e rg ?_⟩
        exact RV.mono e rx
      | _ => exact h.elim
    | ex x g2 => exact id
    | bad => exact id
  refine ⟨?_, ρ1 ++ [x], D.ref g1.length :: ds, g1 ++ [Ob.ins C []], RVs.cons rx (rs.mono x2), rg2, h'⟩
  have := len_of_run (α := D) hF h'
  simp [rs.len] at this ⊢
  omega
theorem s_mk0 {x : Str} {C : Nat} {f : Nat} {p1 : Pos} (G : Good T pl k N sc W X) (C0 : Calm k X) (hC : T.ini C = some f) (hx : pl.nm.cls[C]? = some x) (hg : Gl X x) (hd : (x == ("__debug__" : Str)) = false) :
    PE X (.Call (.Name x p1) [] [] pos) (tE T pl X.K k W (.mk C .nil)) := by
  obtain ⟨hm, fa, M, ⟨fd, ps, F, hF, ok, hb, hps⟩, kp⟩ := G.top.cls C x f hC hx
  refine ⟨fun pins s σ H Q I h => ?_⟩
  have q := nil_es (go_mk (fa := fa) G.top hC hF h)
  refine wpAny_Call_Name_kw (ld_glob I hg hm ?_ hd)
  exact PySem.W.callWith_K0 I.kIn M.kp (run_makeS (us := []) M ok (C0.room.mono (lv_pred k)) hb (passAt G.tk σ) I .nil q)
theorem s_mk {x : Str} {C : Nat} {f : Nat} {p1 : Pos} {e : Expr} (G : Good T pl k N sc W X) (C0 : Calm k X) (hC : T.ini C = some f) (hx : pl.nm.cls[C]? = some x) (hg : Gl X x) (hd : (x == ("__debug__" : Str)) = false) (ha : PA X (e :: es) (tEs T pl X.K k W ie))
    (h1 : starEach (e :: es) X.env = (false, eval e X.env) :: starEach es X.env) (h2 : (backTo pos (starEach es X.env)).any (·.1) = false) :
    PE X (.Call (.Name x p1) (e :: es) [] pos) (tE T pl X.K k W (.mk C ie)) := by
  obtain ⟨hm, fa, M, ⟨fd, ps, F, hF, ok, hb, hps⟩, kp⟩ := G.top.cls C x f hC hx
  refine ⟨fun pins s σ H Q I h => ?_⟩
  have q := go_mk (fa := fa) G.top hC hF h
  refine wpAny_Call_Name_kw (ld_glob I hg hm ?_ hd)
  refine PySem.W.callWith_K (h₀ := X.base) I.ok.mod.kin M.kp (thn (ha.run pos pins s σ H _ I q) fun us s1 ⟨vs, H1, I1, r, q⟩ => ⟨I1.kIn, ?_⟩) h1 h2
  exact run_makeS M ok (C0.room.mono (lv_pred k)) hb (passAt G.tk σ) I1 r q

/-! ### methods of the own classes -/
theorem rv_noobj {K : PySem.W.Frag} {ρ : List Addr} {H : Hp} {g : G} {v : V} {n : Nat} {C : Nat} {fs : List (Nat × D)} (rg : RG pl K ρ H g) (rv : RV K ρ H (.ref n) v) (e : g[n]? = some (.ins C fs)) : ∃ a dx fv, v = .ref a ∧ ρ[n]? = some a ∧ H a = some (.ins (pl.ca C) dx fv) ∧ RF pl.nm K ρ H fs fv ∧ ∃ f, pl.ini C = some f := by
  obtain ⟨p, rfl, hn, ⟨f, hi⟩, dx, fv, hp, hf⟩ := rx_obj rg (show RX K ρ H H v (.d (.ref n)) from rv) e
  exact ⟨p, dx, fv, rfl, hn, hp, hf, f, hi⟩
theorem go_mth {m : Nat} {x : Str} {σ : L2.St} {H : Hp} {Q : VK} (top : Top X.prog X.w X.K X.mg X.base pl T k) (hx : pl.nm.ats[m]? = some x) (h : tE T pl X.K k W (.mth ia m ie) σ H Q) :
    tE T pl X.K k W ia σ H fun v H1 => ∃ a C dx fv f fa fd ps F, v = .ref a ∧ H1 a = some (.ins C dx fv) ∧ Cls X.K C ∧ Meth X.K C x fa ∧ fv.lookup x = none ∧ T.fn f = some F ∧ FnOk X.prog X.w X.K X.mg X.base (L2.CX X.prog X.w) (lv k) fa fd ps (spE pl X.K T F.np k f) ∧ Binds X.K fd ps [] ∧
      tEs T pl X.K k W ie σ H1 fun vs H2 => spE pl X.K T F.np k f (.ref a :: vs) H2 Q (WE W σ) := by
  obtain ⟨ρ, L, g, rl, rg, h⟩ := h
  rw [ev] at h
  refine ⟨ρ, L, g, rl, rg, (h.bind (Rel := relX X.K) since_X).imp fun v H1 ⟨ρ1, x1, g1, e1, rg1, rx, h⟩ => ?_⟩
  cases x1 with
  | tmp xs => exact h.elim
  | d d =>
    cases d with
    | ref n =>
      simp only at h
      cases eg : g1[n]? with
      | none => rw [eg] at h; exact h.elim
      | some o =>
        rw [eg] at h
        cases o with
        | ins C fs =>
          simp only at h
          cases em : T.mt C m with
          | none => rw [em] at h; exact h.elim
          | some f =>
            cases el : fs.lookup m with
            | some y => rw [em, el] at h; exact h.elim
            | none =>
              rw [em, el] at h
              simp only at h
              obtain ⟨a, dx, fv, rfl, hn, ha, hf, fi, hi⟩ := rv_noobj rg1 (show RV X.K ρ1 H1 (.ref n) v from rx) eg
              obtain ⟨fa, hmeth, ⟨fd, ps, F, hF, ok, hb, hps⟩, kp⟩ := top.mts C m f x em hx
              have := hf.2.2 m x hx
              rw [el] at this
              rw [top.ini] at hi
              refine ⟨a, pl.ca C, dx, fv, f, fa, fd, ps, F, rfl, ha, top.cl C fi hi, hmeth, this, hF, ok, hb, ρ1, L, g1, rl.mono e1, rg1, (h.bind (Rel := relDs X.K) since_X).imp fun vs H2 ⟨ρ2, ds, g2, e2, rg2, rs, h⟩ => ?_⟩
              have h' : Po pl X.K (relD X.K) ρ2 H2 (wish pl W σ) Q (runF T k f (.ref n :: ds) g2) := by
                revert h
                cases runF T k f (.ref n :: ds) g2 with
                | ok d g2 => exact fun h ρ' H' v e rg rv => h ρ' H' v e rg rv
                | ex x g2 => exact id
                | bad => exact id
              have ra : RV X.K ρ2 H2 (.ref n) (.ref a) := RV.mono e2 rx
              refine ⟨?_, ρ2, .ref n :: ds, g2, .cons ra rs, rg2, h'⟩
              have := len_of_run (α := D) hF h'
              simp [rs.len] at this ⊢
              omega
        | _ => exact h.elim
    | _ => exact h.elim
theorem s_mth {x : Str} {m : Nat} {e : Expr} {apos : Pos} {pli : Sem Bool} (G : Good T pl k N sc W X) (C0 : Calm k X) (ho : PE X a (tE T pl X.K k W ia)) (hx : pl.nm.ats[m]? = some x) (ha : PA X (e :: es) (tEs T pl X.K k W ie))
    (h1 : starEach (e :: es) X.env = (false, eval e X.env) :: starEach es X.env) (h2 : (backTo pos (starEach es X.env)).any (·.1) = false)
    (ht : eval (.Call (.Attribute a x apos) (e :: es) [] pos) X.env = (do
      let ov ← eval a X.env
      standAt apos.atName
      let (f, first) ← holding [ov] (getMethod ov x pli)
      callWith pos f first (backTo pos (starEach (e :: es) X.env)) (backToKw pos (keywordEach [] X.env)))) :
    PE X (.Call (.Attribute a x apos) (e :: es) [] pos) (tE T pl X.K k W (.mth ia m ie)) := by
  refine ⟨fun pins s σ H Q I h => ?_⟩
  refine PySem.W.methodCall_KW (pl := pli) (thn (ho.run pins s σ H _ I (go_mth G.top hx h)) fun u s1 ⟨v, H1, I1, rx, q⟩ => ?_) ht
  obtain ⟨p, C, dx, fv, f, fa, fd, ps, F, rfl, hp, c, hm, l, hF, ok, hb, q⟩ := q
  obtain rfl : u = Value.ref p := rx
  refine getmeth_ok I1 hp c hm l ?_
  refine PySem.W.callWith_K (first := [.ref p]) (h₀ := X.base) I.ok.mod.kin hm.kp (thn (ha.run pos pins s1 σ H1 _ I1 q) fun us s2 ⟨vs, H2, I2, r, q2⟩ => ⟨I2.kIn, ?_⟩) h1 h2
  exact run_fnS (us := .ref p :: us) (vs := .ref p :: vs) ok (C0.room.mono (lv_le k)) hb (passAt G.tk σ) I2 (.cons rfl r) q2
theorem s_mth0 {x : Str} {m : Nat} {apos : Pos} {pli : Sem Bool} (G : Good T pl k N sc W X) (C0 : Calm k X) (ho : PE X a (tE T pl X.K k W ia)) (hx : pl.nm.ats[m]? = some x)
    (ht : eval (.Call (.Attribute a x apos) [] [] pos) X.env = (do
      let ov ← eval a X.env
      standAt apos.atName
      let (f, first) ← holding [ov] (getMethod ov x pli)
      callWith pos f first (backTo pos (starEach [] X.env)) (backToKw pos (keywordEach [] X.env)))) :
    PE X (.Call (.Attribute a x apos) [] [] pos) (tE T pl X.K k W (.mth ia m .nil)) := by
  refine ⟨fun pins s σ H Q I h => ?_⟩
  refine PySem.W.methodCall_KW (pl := pli) (thn (ho.run pins s σ H _ I (go_mth G.top hx h)) fun u s1 ⟨v, H1, I1, rx, q⟩ => ?_) ht
  obtain ⟨p, C, dx, fv, f, fa, fd, ps, F, rfl, hp, c, hm, l, hF, ok, hb, q⟩ := q
  obtain rfl : u = Value.ref p := rx
  refine getmeth_ok I1 hp c hm l ?_
  exact PySem.W.callWith_K0 (first := [.ref p]) I1.kIn hm.kp (run_fnS (us := [.ref p]) (vs := [.ref p]) ok (C0.room.mono (lv_le k)) hb (passAt G.tk σ) I1 (.cons rfl .nil) (nil_es q))
end
end Sd
set_option Elab.async false
set_option linter.all false
set_option maxRecDepth 100000
set_option maxHeartbeats 1000000
/-! Snd8: methods of built-in types. -/
namespace Sd
open PySem PySem.Spec PyProof.Rows L2 Py
section
variable {T : Tb} {pl : Pl} {X : Cx} {k : Nat} {N : List Str} {sc : Scope} {W : WX} {ia ib ic : E} {ie : Es} {a b c : Expr} {es : List Expr} {pos : Pos}
/-- a method of a built-in type, by values -/
def rM (pl : Pl) (K : PySem.W.Frag) (B : BT) (m : BM) : V → List V → Hp → VK → Prop := fun x vs H Q => ∃ ρ g o ds z g' H1, RG pl K ρ H g ∧ RX K ρ H1 H x o ∧ RVs K ρ H ds vs ∧ bmeth g B m o ds = some (z, g') ∧
  ∀ ρ' H' v, Ext ρ ρ' H H' → RG pl K ρ' H' g' → RX K ρ' H H' v z → Q v H'
theorem RVs.one_inv {K : PySem.W.Frag} {ρ : List Addr} {H : Hp} {d : D} {vs : List V} (r : RVs K ρ H [d] vs) : ∃ v, vs = [v] ∧ RV K ρ H d v := by
  rw [RVs] at r
  obtain ⟨v, vr, rfl, q, r⟩ := r
  rw [RVs] at r
  subst r
  exact ⟨v, rfl, q⟩
theorem RVs.two_inv {K : PySem.W.Frag} {ρ : List Addr} {H : Hp} {d e : D} {vs : List V} (r : RVs K ρ H [d, e] vs) : ∃ v u, vs = [v, u] ∧ RV K ρ H d v ∧ RV K ρ H e u := by
  rw [RVs] at r
  obtain ⟨v, vr, rfl, q, r⟩ := r
  obtain ⟨u, rfl, q2⟩ := r.one_inv
  exact ⟨v, u, rfl, q, q2⟩
theorem RVs.nil_inv {K : PySem.W.Frag} {ρ : List Addr} {H : Hp} {vs : List V} (r : RVs K ρ H [] vs) : vs = [] := by
  rw [RVs] at r
  exact r
theorem mono_self {K : PySem.W.Frag} {ρ : List Addr} {H H' : Hp} (x : Mon K ρ ρ H H') {ds : List D} {vs : List V} (r : RVs K ρ H ds vs) : RVs K ρ H' ds vs := r.by_ x
/-- a list written -/
theorem lst_write {K : PySem.W.Frag} {ρ : List Addr} {H : Hp} {g : G} {n : Nat} {a : Addr} {ds es : List D} {vs us : List V} (rg : RG pl K ρ H g) (hn : ρ[n]? = some a) (hg : g[n]? = some (.lst ds)) (r : RVs K ρ H es us) :
    RG pl K ρ (upd H a (.lst us)) (g.set n (.lst es)) ∧ Ext ρ ρ H (upd H a (.lst us)) :=
  rg.write hn ⟨_, hg, rfl⟩ fun H' m e => ⟨us, e, r.by_ m⟩
theorem m_append : MtR X "list.append" (rM pl X.K .list .append) := by
  intro pins s σ H x vs v us Q I rx rs h
  obtain ⟨ρ, g, o, ds, z, g', H1, rg, ro, rd, e, q⟩ := h
  simp only [bmeth] at e
  split at e
  · rename_i n v0
    split at e
    · rename_i xs hg
      split at e
      · rename_i hl
        cases e
        obtain ⟨p, rfl, hn, ws, hp, hr⟩ := rx_obj rg ro hg
        obtain ⟨y, rfl, ry⟩ := rd.one_inv
        obtain ⟨rg', x'⟩ := lst_write (vs := ws) rg hn hg (hr.append (.one ry))
        exact mt_append pins s σ H _ _ v us Q I rx rs ⟨p, ws, y, rfl, rfl, hp, by rw [hr.len, ← line_eq]; exact hl, q ρ _ _ x' rg' RX.non⟩
      · cases e
    · cases e
  · cases e
theorem m_pop : MtR X "list.pop" (rM pl X.K .list .pop) := by
  intro pins s σ H x vs v us Q I rx rs h
  obtain ⟨ρ, g, o, ds, z, g', H1, rg, ro, rd, e, q⟩ := h
  simp only [bmeth] at e
  split at e
  · rename_i n
    split at e
    · rename_i xs hg
      obtain ⟨p, rfl, hn, ws, hp, hr⟩ := rx_obj rg ro hg
      obtain rfl := rd.nil_inv
      cases ey : xs[xs.length - 1]? with
      | none => rw [ey] at e; cases e
      | some y =>
        rw [ey] at e
        cases e
        obtain ⟨w, hw, rw'⟩ := hr.get ey
        obtain ⟨rg', x'⟩ := lst_write (vs := ws) rg hn hg hr.dropLast
        exact mt_pop pins s σ H _ _ v us Q I rx rs ⟨p, ws, w, rfl, rfl, hp, by rw [hr.len]; exact hw, q ρ _ _ x' rg' (RV.mono x' rw')⟩
    · cases e
  · cases e
/-- a list, extended by a tuple -/
theorem meets_ext (l : Addr) (items : Array Value) (n : Nat) (b : Addr) (items2 : Array Value) (n2 : Nat) (dct : Option Addr) (sl : Array (Option Value)) (hs0 : ¬(!items.isEmpty && Builtin.List.listTooLong (items.size + items2.size)) = true) (hs1 : items.size ≤ sizeLine) (hs2 : items.size + items2.size ≤ sizeLine + 1) :
    Meets (Builtin.«list.extend» ⟨[.ref l, .ref b], []⟩) (fun _ R s => s.heap.get? l = some { cls := .type "list", dict := none, data := .seq items n, slots := #[] } ∧ s.heap.get? b = some { cls := .type "tuple", dict := dct, data := .seq items2 n2, slots := sl } ∧ R (.ok (.ret Value.none)) { s with heap := s.heap.update l (Obj.mapSeq fun x => x ++ items2), toks := s.toks }) :=
  .of_wp fun prog w A R s h => by
    obtain ⟨hp, g, d, tk, os⟩ := s; obtain ⟨hl, hb, h⟩ := h; have f1 := AutoSeq1.idx_int; have f2 := AutoSeq1.sub_tuple_tuple; have f3 := AutoSeq1.sub_list_list; have f4 := AutoSeq1.sub_tuple_list; have f5 := AutoSeq1.sub_list_tuple;
    have hz' : (items ++ items2).size ≤ sizeLine + 1 := by rw [Array.size_append]; exact hs2
    wp_walk using (wpAny_updateSeq hl rfl (hz := hs1) (_hz' := hz')), AutoSeq1.wpAny_loadPart' hl, AutoSeq1.wpAny_loadPart' hb; exact ⟨_, rfl, h⟩
def rExtT (K : PySem.W.Frag) : V → List V → Hp → VK → Prop := fun x vs H Q => ∃ l b xs zs, x = .ref l ∧ vs = [.ref b] ∧ H l = some (.lst xs) ∧ SqT K H b zs ∧ xs.length + zs.length ≤ sizeLine ∧ Q .non (upd H l (.lst (xs ++ zs)))
theorem mt_extT : MtM X "list.extend" (rExtT X.K) := by
  intro pins s σ H x vs v us Q I rx rv h
  obtain ⟨l, b, xs, zs, rfl, rfl, hH, hB, hz, q⟩ := h
  cases rx
  obtain ⟨u, rfl, ru⟩ := rv.one
  cases ru
  obtain ⟨z, its, n, r, hl, e⟩ := I.lstM hH
  obtain ⟨its2, r2, p2, _⟩ := I.tuple hB
  have hl2 := r2.length
  obtain ⟨⟨c, dct, dt, sl⟩, e2, hc, n2, hd⟩ := (show s.heap.IsTuple b its2.toArray from p2)
  replace hc : c = .type "tuple" := hc
  replace hd : dt = .seq its2.toArray n2 := hd
  subst hc hd
  have hsz : its.toArray.size + its2.toArray.size ≤ sizeLine := by rw [List.size_toArray, List.size_toArray]; omega
  have hlong : ¬ (!its.toArray.isEmpty && Builtin.List.listTooLong (its.toArray.size + its2.toArray.size)) = true := by
    rw [notLongL hsz, Bool.and_false]
    exact Bool.false_ne_true
  refine call_meets F.slot_list_extend ⟨_, e, rfl⟩ F.entry_list_extend (F.args_list_extend_2 _ _)
    (meets_ext l its.toArray n b its2.toArray n2 dct sl hlong (by rw [List.size_toArray]; omega) (by omega)) ⟨e, e2, ?_⟩
  refine ⟨.non, _, I.lset (its' := its ++ its2) hH e (by simp) (r.append r2) ?_, rfl, q⟩
  rw [List.length_append]
  omega
theorem m_extend : MtR X "list.extend" (rM pl X.K .list .extend) := by
  intro pins s σ H x vs v us Q I rx rs h
  obtain ⟨ρ, g, o, ds, z, g', H1, rg, ro, rd, e, q⟩ := h
  simp only [bmeth] at e
  have tup : ∀ {n : Nat} {xs ys : List D} {y : V}, ds.length = 1 → o = .d (.ref n) → vs = [y] → (∃ p2 ws2, y = .ref p2 ∧ SqT X.K H p2 ws2 ∧ RVs X.K ρ H ys ws2) → g[n]? = some (.lst xs) → xs.length + ys.length ≤ line → z = .d .non → g' = g.set n (.lst (xs ++ ys)) →
      wpAny (model X.prog X.w) X.A (call (.builtin "list.extend") (v :: us)) (EP X pins σ Q) X.xe s := by
    intro n xs ys y _ eo ev ⟨p2, ws2, ey, hp2, hr2⟩ hg hl ez eg'
    subst eo ev ey ez eg'
    obtain ⟨p, rfl, hn, ws, hp, hr⟩ := rx_obj rg ro hg
    obtain ⟨rg', x'⟩ := lst_write (vs := ws) rg hn hg (hr.append hr2)
    exact mt_extT pins s σ H _ _ v us Q I rx rs ⟨p, p2, ws, ws2, rfl, rfl, hp, hp2, by rw [hr.len, hr2.len, ← line_eq]; exact hl, q ρ _ _ x' rg' RX.non⟩
  split at e
  · rename_i n m
    split at e
    · rename_i xs ys hg hg2
      split at e
      · rename_i hl
        cases e
        obtain ⟨p, rfl, hn, ws, hp, hr⟩ := rx_obj rg ro hg
        obtain ⟨y, rfl, ry⟩ := rd.one_inv
        obtain ⟨p2, rfl, hn2, ws2, hp2, hr2⟩ := ref_obj rg ry hg2
        obtain ⟨rg', x'⟩ := lst_write (vs := ws) rg hn hg (hr.append hr2)
        exact mt_extend pins s σ H _ _ v us Q I rx rs ⟨p, p2, ws, ws2, rfl, rfl, hp, hp2, by rw [hr.len, hr2.len, ← line_eq]; exact hl, q ρ _ _ x' rg' RX.non⟩
      · cases e
    · cases e
  · rename_i n ys
    split at e
    · rename_i xs hg
      split at e
      · rename_i hl
        cases e
        obtain ⟨y, rfl, ry⟩ := rd.one_inv
        obtain ⟨p2, ws2, rfl, hp2, hr2⟩ := rv_tup ry
        exact tup rfl rfl rfl ⟨p2, ws2, rfl, .of hp2, hr2⟩ hg hl rfl rfl
      · cases e
    · cases e
  · rename_i n ys
    split at e
    · rename_i xs hg
      split at e
      · rename_i hl
        cases e
        obtain ⟨y, rfl, ry⟩ := rd.one_inv
        obtain ⟨p2, ws2, rfl, hp2, hr2⟩ := rv_kt ry
        exact tup rfl rfl rfl ⟨p2, ws2, rfl, hp2, hr2⟩ hg hl rfl rfl
      · cases e
    · cases e
  · cases e
theorem toPys_get : ∀ (ts : List D) (i : Nat), (toPys ts)[i]? = (ts[i]?).map toPy
  | [], _ => by simp [toPys]
  | _ :: _, 0 => by simp [toPys]
  | _ :: ts, i + 1 => by simpa [toPys] using toPys_get ts i
theorem place_ok (t : D) : ∀ (ts : List D) (i j : Nat), place t i ts = some j → ∃ k, j = i + k ∧ ∃ z, ts[k]? = some z ∧ eqv z t = true ∧ ∀ m z', m < k → ts[m]? = some z' → eqv z' t = false
  | [], i, j, h => by cases h
  | z :: r, i, j, h => by
    unfold place at h
    split at h
    · rename_i hz
      cases h
      exact ⟨0, rfl, z, rfl, hz, fun m z' hm => absurd hm (Nat.not_lt_zero _)⟩
    · rename_i hz
      obtain ⟨k, rfl, z', h1, h2, h3⟩ := place_ok t r (i + 1) j h
      refine ⟨k + 1, by omega, z', by simpa using h1, h2, fun m z2 hm e => ?_⟩
      cases m with
      | zero =>
        simp at e
        subst e
        simpa using hz
      | succ m => exact h3 m z2 (by omega) (by simpa using e)
theorem m_index (hu : X.A.units + 66 < cLine) : MtR X "list.index" (rM pl X.K .list .index) := by
  intro pins s σ H x vs v us Q I rx rs h
  obtain ⟨ρ, g, o, ds, z, g', H1, rg, ro, rd, e, q⟩ := h
  simp only [bmeth] at e
  split at e
  · rename_i d
    split at e
    · rename_i ts t e1 e2
      cases ep : place t 0 ts with
      | none => rw [ep] at e; cases e
      | some i =>
        rw [ep] at e
        cases e
        obtain ⟨y, rfl, ry⟩ := rd.one_inv
        have t1 := trX_ok rg ro e1
        have t2 := tr_ok rg 60 d y t ry e2
        obtain ⟨j, ej, z', h1, h2, h3⟩ := place_ok t ts 0 i ep
        have ej : i = j := by omega
        subst ej
        have hl : ∃ l, x = V.ref l := by
          have := t1.dp
          simp only [toPy] at this
          cases this
          exact ⟨_, rfl⟩
        obtain ⟨l, rfl⟩ := hl
        refine mt_indexD (by omega) pins s σ H _ _ v us Q I rx rs ⟨l, y, toPy t, toPys ts, i, toPy z', rfl, rfl, by have := t1.dp; simpa only [toPy] using this, t2.dp, by have := t1.shaped (by omega); simpa only [toPy] using this, t2.shaped (by omega), ?_, ?_, ?_, ?_⟩
        · rw [toPys_get, h1]; rfl
        · rw [eqv_py]; exact h2
        · intro m z2 hm e
          rw [toPys_get] at e
          cases em : ts[m]? with
          | none => rw [em] at e; cases e
          | some z3 =>
            rw [em] at e
            cases e
            rw [eqv_py]
            exact h3 m z3 hm em
        · exact q ρ H _ .refl rg (RX.int _)
    · cases e
  · cases e
theorem m_get (hu : X.A.units + 66 < cLine) : MtR X "dict.get" (rM pl X.K .dict .get) := by
  intro pins s σ H x vs v us Q I rx rs h
  obtain ⟨ρ, g, o, ds, z, g', H1, rg, ro, rd, e, q⟩ := h
  simp only [bmeth] at e
  split at e
  · rename_i kd
    split at e
    · rename_i kvs hk
      cases ek : kyOf kd with
      | none => rw [ek] at e; cases e
      | some ky =>
        rw [ek] at e
        cases e
        obtain ⟨y, rfl, ry⟩ := rd.one_inv
        obtain ⟨a, r, rfl, dg, hr⟩ := dget_ok rg ro ry (o := look ky kvs) (.inl ⟨kvs, ky, hk, ek, rfl⟩)
        obtain rfl : v = Value.ref a := rx
        obtain ⟨u1, rfl, r1⟩ := rs.one
        refine d_get1 (by omega) I dg r1 fun w' s' I' rw' => ⟨_, H, I', rw', q ρ H _ .refl rg ?_⟩
        cases el : look ky kvs with
        | none => rw [el] at hr; rw [show r = none from hr]; exact RX.non
        | some d => rw [el] at hr; obtain ⟨w, rfl, hw⟩ := hr; exact hw
    · rename_i kvs hk
      split at e
      · rename_i ts
        cases ek : keysOf ts with
        | none => rw [ek] at e; cases e
        | some ky =>
          rw [ek] at e
          cases e
          obtain ⟨y, rfl, ry⟩ := rd.one_inv
          obtain ⟨a, r, rfl, dg, hr⟩ := dget_ok rg ro ry (o := look ky kvs) (.inr ⟨kvs, ts, ky, hk, rfl, ek, rfl⟩)
          obtain rfl : v = Value.ref a := rx
          obtain ⟨u1, rfl, r1⟩ := rs.one
          refine d_get1 (by omega) I dg r1 fun w' s' I' rw' => ⟨_, H, I', rw', q ρ H _ .refl rg ?_⟩
          cases el : look ky kvs with
          | none => rw [el] at hr; rw [show r = none from hr]; exact RX.non
          | some d => rw [el] at hr; obtain ⟨w, rfl, hw⟩ := hr; exact hw
      · cases e
    · cases e
  · rename_i kd d
    split at e
    · rename_i kvs hk
      cases ek : kyOf kd with
      | none => rw [ek] at e; cases e
      | some ky =>
        rw [ek] at e
        cases e
        obtain ⟨y, y2, rfl, ry, ry2⟩ := rd.two_inv
        obtain ⟨a, r, rfl, dg, hr⟩ := dget_ok rg ro ry (o := look ky kvs) (.inl ⟨kvs, ky, hk, ek, rfl⟩)
        obtain rfl : v = Value.ref a := rx
        obtain ⟨u1, u2, rfl, r1, r2⟩ := rs.two
        refine d_get2 (by omega) I dg r1 r2 fun w' s' I' rw' => ⟨_, H, I', rw', q ρ H _ .refl rg ?_⟩
        cases el : look ky kvs with
        | none => rw [el] at hr; rw [show r = none from hr]; exact ry2
        | some d => rw [el] at hr; obtain ⟨w, rfl, hw⟩ := hr; exact hw
    · rename_i kvs hk
      split at e
      · rename_i ts
        cases ek : keysOf ts with
        | none => rw [ek] at e; cases e
        | some ky =>
          rw [ek] at e
          cases e
          obtain ⟨y, y2, rfl, ry, ry2⟩ := rd.two_inv
          obtain ⟨a, r, rfl, dg, hr⟩ := dget_ok rg ro ry (o := look ky kvs) (.inr ⟨kvs, ts, ky, hk, rfl, ek, rfl⟩)
          obtain rfl : v = Value.ref a := rx
          obtain ⟨u1, u2, rfl, r1, r2⟩ := rs.two
          refine d_get2 (by omega) I dg r1 r2 fun w' s' I' rw' => ⟨_, H, I', rw', q ρ H _ .refl rg ?_⟩
          cases el : look ky kvs with
          | none => rw [el] at hr; rw [show r = none from hr]; exact ry2
          | some d => rw [el] at hr; obtain ⟨w, rfl, hw⟩ := hr; exact hw
      · cases e
    · cases e
  · cases e
/-- what is put in -/
theorem putK_ok {κ κ' : Type} [DecidableEq κ] [DecidableEq κ'] {K : PySem.W.Frag} {ρ : List Addr} {H : Hp} (f : κ → κ') (inj : ∀ a b, f a = f b → a = b) (k : κ) {d : D} {v : V} (rv : RV K ρ H d v) {kvs : List (κ × D)} {vs : List (κ' × V)} (hk : vs.map (·.1) = kvs.map (fun p => f p.1)) (hr : RVs K ρ H (kvs.map (·.2)) (vs.map (·.2))) :
    (L2.putK vs (f k) v).map (·.1) = (Py.putK k d kvs).map (fun p => f p.1) ∧ RVs K ρ H ((Py.putK k d kvs).map (·.2)) ((L2.putK vs (f k) v).map (·.2)) := by
  have any : ∀ {kvs : List (κ × D)} {vs : List (κ' × V)}, vs.map (·.1) = kvs.map (fun p => f p.1) → (vs.any fun p => decide (p.1 = f k)) = (kvs.any fun p => decide (p.1 = k)) := by
    intro kvs
    induction kvs with
    | nil => intro vs h; have : vs = [] := by simpa using h
             subst this; rfl
    | cons p r ih =>
      intro vs h
      cases vs with
      | nil => simp at h
      | cons u vr =>
        simp only [List.map_cons, List.cons.injEq] at h
        rw [List.any_cons, List.any_cons, ih h.2, h.1]
        congr 1
        by_cases e : p.1 = k
        · simp [e]
        · have e' : ¬ f p.1 = f k := fun z => e (inj _ _ z)
          simp [e, e']
  unfold L2.putK Py.putK
  rw [any hk]
  split
  · rename_i hx
    clear any hx
    induction kvs generalizing vs with
    | nil =>
      have : vs = [] := by simpa using hk
      subst this
      exact ⟨rfl, .nil⟩
    | cons p r ih =>
      cases vs with
      | nil => simp at hk
      | cons u vr =>
        simp only [List.map_cons, List.cons.injEq] at hk
        simp only [List.map_cons] at hr
        rw [RVs] at hr
        obtain ⟨w, wr, e, q1, q2⟩ := hr
        simp only [List.cons.injEq] at e
        obtain ⟨rfl, rfl⟩ := e
        obtain ⟨i1, i2⟩ := ih hk.2 q2
        by_cases e : p.1 = k
        · have e' : u.1 = f k := by rw [hk.1, e]
          simp only [List.map_cons, e, e', if_true]
          refine ⟨?_, RVs.cons rv i2⟩
          simp only [List.cons.injEq]
          exact ⟨trivial, i1⟩
        · have e' : ¬ u.1 = f k := fun z => e (inj _ _ (hk.1.symm.trans z))
          simp only [List.map_cons, e, e', if_false]
          refine ⟨?_, RVs.cons q1 i2⟩
          simp only [List.cons.injEq]
          exact ⟨hk.1, i1⟩
  · simp only [List.map_append, List.map_cons, List.map_nil]
    exact ⟨by rw [hk], hr.append (.one rv)⟩
/-- d.setdefault(k, x), the keys tuples -/
theorem d_setdT {pins : List (Addr × Obj)} {σ : L2.St} {H : Hp} {s : Shared} {a b : Addr} {r : Value} {d : V} {ks : List Key} {A : Around} {E : Value → Shared → Prop} {kvs : List (List Key × V)} {Q : Value → Shared → Prop} (hu : A.units + 1 < cLine) (I : Inv X pins σ H s) (e : H a = some (.dT kvs)) (eb : H b = some (.tup (ks.map kV))) (rd : RelV d r)
    (h1 : ∀ v, valV kvs ks = some v → ∀ (w' : Value) (s' : Shared), Inv X pins σ H s' → RelV v w' → Q w' s') (h2 : valV kvs ks = none → kvs.length < sizeLine ∧ ∀ (w' : Value) (s' : Shared), Inv X pins σ (upd H a (.dT (L2.putK kvs ks d))) s' → RelV d w' → Q w' s') :
    wpAny (model X.prog X.w) A (call (.builtin "dict.setdefault") [.ref a, .ref b, r]) Q E s := by
  obtain ⟨z, hd, xs, rel, dd⟩ := dt_of I.hok e
  refine call_setdefault_heap (hsz := by rw [← Paired.length rel]; exact z) (tupleKind_room_in1 hu) (key_of I.hok eb) hd dd (fun p hp => ?_) fun hn h' dd' hs => ?_
  · have q := rel.val ks
    rw [hp] at q
    cases q0 : valV kvs ks with
    | none => rw [q0] at q; exact (show False from q).elim
    | some v0 => rw [q0] at q; exact h1 v0 q0 _ _ (I.tok _) q
  · have q := rel.val ks
    rw [hn] at q
    cases q0 : valV kvs ks with
    | some v0 => rw [q0] at q; exact (show False from q).elim
    | none =>
      obtain ⟨hl, h2⟩ := h2 q0
      have hl2 : (L2.putK kvs ks d).length ≤ sizeLine := by
        have := length_putK kvs ks d
        omega
      obtain ⟨o, es, ep, hq, g2, g3, g4, _, g5⟩ := dd'
      refine h2 _ _ (d_write I (by rw [e]; exact True.intro) hs ⟨o, hq⟩ ⟨hl2, hd, _, (rel.put ks eb rd).keeps fun c ys ec => ?_, o, es, ep, hq, g2, g3, g4, g5⟩) rd
      rw [upd_ne (ne_of ec e (fun z => nomatch z))]
      exact ec
theorem m_setdefault (hu : X.A.units + 66 < cLine) : MtR X "dict.setdefault" (rM pl X.K .dict .setdefault) := by
  intro pins s σ H x vs v us Q I rx rs h
  obtain ⟨ρ, g, o, ds, z, g', H1, rg, ro, rd, e, q⟩ := h
  simp only [bmeth] at e
  split at e
  · rename_i n kd d
    split at e
    · rename_i kvs hg
      cases ek : kyOf kd with
      | none => rw [ek] at e; cases e
      | some ky =>
        simp only [ek, Option.bind_some] at e
        obtain ⟨y, y2, rfl, ry, ry2⟩ := rd.two_inv
        obtain ⟨a, rfl, hn, ws, hw, hk, hr⟩ := rx_obj rg ro hg
        obtain rfl : v = Value.ref a := rx
        obtain ⟨u1, u2, rfl, r1, r2⟩ := rs.two
        have lk := look_ok kyT (fun _ _ => kyT_inj) ky hk hr
        obtain rfl := kyOf_ok ry ek
        have hlen : ws.length = kvs.length := by
          have := congrArg List.length hk
          simpa using this
        split at e
        · rename_i w el
          cases e
          rw [el] at lk
          obtain ⟨w', ew, rw'⟩ := lk
          have hb := (dk_of I.hok hw).1
          by_cases hl : ws.length < sizeLine
          · refine d_setd I hw r1 r2 hl (fun v0 hv w2 s' I' r' => ⟨v0, H, I', r', q ρ H _ .refl rg ?_⟩) (fun hv => by rw [ew] at hv; cases hv)
            rw [ew] at hv
            cases hv
            exact rw'
          · obtain ⟨z, hd, vs0, rel, dd⟩ := dk_of I.hok hw
            have hz : vs0.length ≤ sizeLine := by
              rw [← rel.length]
              exact z
            refine call_meetsIn PySem.F.slot_dict_setdefault dd.typeIs PySem.F.entry_dict_setdefault (PySem.F.args_dict_setdefault_3 _ _ _) (kt_meets_setdefault (mixKind X.prog X.w) a (kV_is r1) hd u2) ⟨vs0, dd, hz, fun v hv => ?_, fun hn h' dd' hs => ?_⟩
            · have q1 := rel.val (kyT ky)
              rw [hv, ew] at q1
              exact ⟨w', H, I.tok _, q1, q ρ H _ .refl rg rw'⟩
            · have q1 := rel.val (kyT ky)
              rw [hn, ew] at q1
              exact (show False from q1).elim
        · rename_i el
          split at e
          · rename_i hl
            cases e
            rw [el] at lk
            have lk : valV ws (kyT ky) = none := lk
            obtain ⟨p1, p2⟩ := putK_ok kyT (fun _ _ => kyT_inj) ky ry2 hk hr
            obtain ⟨rg', x'⟩ := rg.write hn ⟨_, hg, rfl⟩ (o := .dk (Py.putK ky d kvs)) (u := .dK (L2.putK ws (kyT ky) y2)) fun H' m e => ⟨_, e, p1, p2.by_ m⟩
            refine d_setd I hw r1 r2 (by rw [hlen, ← line_eq]; exact hl) (fun v0 hv => by rw [lk] at hv; cases hv) (fun hv w2 s' I' r' => ⟨y2, _, I', r', q ρ _ _ x' rg' (RV.mono x' ry2)⟩)
          · cases e
    · rename_i kvs hg
      split at e
      · rename_i ts
        cases ek : keysOf ts with
        | none => rw [ek] at e; cases e
        | some ky =>
          simp only [ek, Option.bind_some] at e
          obtain ⟨y, y2, rfl, ry, ry2⟩ := rd.two_inv
          obtain ⟨a, rfl, hn, ws, hw, hk, hr⟩ := rx_obj rg ro hg
          obtain rfl : v = Value.ref a := rx
          obtain ⟨u1, u2, rfl, r1, r2⟩ := rs.two
          have lk := look_ok (fun ks : List KY => ks.map kyT) (fun _ _ => kyTs_inj) ky hk hr
          obtain ⟨tb, txs, rfl, htb, qtb⟩ := rv_tup ry
          rw [keysOf_ok qtb ek] at htb
          obtain rfl : u1 = Value.ref tb := r1
          have hlen : ws.length = kvs.length := by
            have := congrArg List.length hk
            simpa using this
          split at e
          · rename_i w el
            cases e
            rw [el] at lk
            obtain ⟨w', ew, rw'⟩ := lk
            have ew : valV ws (ky.map kyT) = some w' := ew
            refine d_setdT (by omega) I hw htb r2 (fun v0 hv w2 s' I' r' => ⟨v0, H, I', r', q ρ H _ .refl rg ?_⟩) (fun hv => by rw [ew] at hv; cases hv)
            rw [ew] at hv
            cases hv
            exact rw'
          · rename_i el
            split at e
            · rename_i hl
              cases e
              rw [el] at lk
              have lk : valV ws (ky.map kyT) = none := lk
              obtain ⟨p1, p2⟩ := putK_ok (fun ks : List KY => ks.map kyT) (fun _ _ => kyTs_inj) ky ry2 hk hr
              obtain ⟨rg', x'⟩ := rg.write hn ⟨_, hg, rfl⟩ (o := .dt (Py.putK ky d kvs)) (u := .dT (L2.putK ws (ky.map kyT) y2)) fun H' m e => ⟨_, e, p1, p2.by_ m⟩
              exact d_setdT (by omega) I hw htb r2 (fun v0 hv => by rw [lk] at hv; cases hv) (fun hv => ⟨by rw [hlen, ← line_eq]; exact hl, fun w2 s' I' r' => ⟨y2, _, I', r', q ρ _ _ x' rg' (RV.mono x' ry2)⟩⟩)
            · cases e
      · cases e
    · cases e
  · cases e
theorem strs_ok {K : PySem.W.Frag} {ρ : List Addr} {H : Hp} : ∀ {ds : List D} {vs : List V} {ys : List Tx}, RVs K ρ H ds vs → strsOf ds = some ys → vs = (ys.map toS).map V.str
  | [], vs, ys, r, e => by rw [RVs] at r; subst r; cases e; rfl
  | d :: ds, vs, ys, r, e => by
    rw [RVs] at r
    obtain ⟨v, vr, rfl, q, r⟩ := r
    cases d <;> simp only [strsOf] at e <;> try cases e
    rename_i y
    cases e2 : strsOf ds with
    | none => rw [e2] at e; cases e
    | some ys' =>
      rw [e2] at e
      cases e
      rw [rv_str q, strs_ok r e2]
      rfl
theorem join_ok (z : Tx) : ∀ ys : List Tx, Str.join (toS z) (ys.map toS) = toS (joinT z ys)
  | [] => by simp only [List.map_nil]; rfl
  | [x] => rfl
  | x :: y :: r => by
    show toS x ++ toS z ++ Str.join (toS z) ((y :: r).map toS) = toS (x ++ z ++ joinT z (y :: r))
    rw [join_ok z (y :: r), toS_append, toS_append]
theorem m_join : MtR X "str.join" (rM pl X.K .str .join) := by
  intro pins s σ H x vs v us Q I rx rs h
  obtain ⟨ρ, g, o, ds, z, g', H1, rg, ro, rd, e, q⟩ := h
  simp only [bmeth] at e
  split at e
  · rename_i zt d h1
    cases ei : items g (.d d) with
    | none => rw [ei] at e; cases e
    | some xs =>
      cases es : strsOf xs with
      | none => simp [ei, es] at e
      | some ys =>
        simp only [ei, es, Option.bind_some] at e
        split at e
        · rename_i hl
          cases e
          obtain rfl := rx_str ro
          obtain ⟨y, rfl, ry⟩ := rd.one_inv
          obtain ⟨p, ws, rfl, hp, hr⟩ := items_ok rg (show RX X.K ρ H H y (.d d) from ry) ei
          obtain rfl := strs_ok hr es
          refine mt_join pins s σ H _ _ v us Q I rx rs ⟨toS zt, p, ys.map toS, rfl, rfl, hp, ?_, ?_⟩
          · have e1 : ((ys.map toS).map fun x => x.length) = ys.map List.length := by
              rw [List.map_map]
              exact List.map_congr_left fun x _ => toS_len x
            rw [e1, List.length_map, toS_len]
            exact of_decide_eq_true hl
          · rw [TL.join_eq, join_ok]
            exact q ρ H _ .refl rg (RX.str _)
        · cases e
  · cases e

/-! ### o.m(..) -/
def btN : BT → String
  | .list => "list" | .dict => "dict" | .str => "str"
def bmN : BM → String
  | .append => "append" | .extend => "extend" | .pop => "pop" | .index => "index" | .count => "count" | .insert => "insert" | .get => "get" | .setdefault => "setdefault" | .update => "update" | .join => "join" | .startswith => "startswith" | .lower => "lower" | .lstrip => "lstrip" | .split => "split" | .copy => "copy"
structure BmKit (pl : Pl) (X : Cx) (B : BT) (m : BM) (id : String) : Prop where
  pa : PlainAttrs (btN B)
  slot : Slot (btN B) (Str.ofString (bmN m)) id
  ty : typeOf (.builtin id) = pure (.type "method_descriptor")
  mt : MtR X id (rM pl X.K B m)
theorem bm_kit (hu : X.A.units + 66 < cLine) (B : BT) (m : BM) (h : bmok B m = true) : ∃ id, BmKit pl X B m id := by
  cases B with
  | list =>
    cases m with
    | append => exact ⟨_, F.plainAttrs_list, F.slot_list_append, F.type_list_append, m_append⟩
    | pop => exact ⟨_, F.plainAttrs_list, F.slot_list_pop, F.type_list_pop, m_pop⟩
    | extend => exact ⟨_, F.plainAttrs_list, F.slot_list_extend, F.type_list_extend, m_extend⟩
    | index => exact ⟨_, F.plainAttrs_list, F.slot_list_index, F.type_list_index, m_index hu⟩
    | _ => cases h
  | dict =>
    cases m with
    | get => exact ⟨_, F.plainAttrs_dict, F.slot_dict_get, F.type_dict_get, m_get hu⟩
    | setdefault => exact ⟨_, F.plainAttrs_dict, F.slot_dict_setdefault, F.type_dict_setdefault, m_setdefault hu⟩
    | _ => cases h
  | str =>
    cases m with
    | join => exact ⟨_, F.plainAttrs_str, F.slot_str_join, F.type_str_join, m_join⟩
    | _ => cases h
theorem bty_ok {ρ : List Addr} {H H1 : Hp} {g : G} {v : V} {o : XV} {B : BT} (rg : RG pl X.K ρ H g) (r : RX X.K ρ H1 H v o) (e : btype g o = some B) : tyV X.K (btN B) v H := by
  unfold btype at e
  split at e
  · cases e
    obtain ⟨a, vs, rfl, ha, _⟩ := r
    exact .inl ⟨rfl, vs, .of ha⟩
  · cases e
    obtain rfl := rx_str r
    rfl
  · split at e
    · rename_i hg
      cases e
      obtain ⟨a, rfl, hn, vs, ha, _⟩ := rx_obj rg r hg
      exact .inl ⟨rfl, vs, .of ha⟩
    · rename_i hg
      cases e
      obtain ⟨a, rfl, hn, vs, ha, _⟩ := rx_obj rg r hg
      exact .inr (.inr (.inl ⟨rfl, .inl ⟨vs, ha⟩⟩))
    · rename_i hg
      cases e
      obtain ⟨a, rfl, hn, vs, ha, _⟩ := rx_obj rg r hg
      exact .inr (.inr (.inl ⟨rfl, .inr ⟨vs, ha⟩⟩))
    · cases e
  · cases e
theorem go_bm {m : BM} {σ : L2.St} {H : Hp} {Q : VK} (hu : X.A.units + 66 < cLine) (h : tE T pl X.K k W (.bm m ia ie) σ H Q) : tE T pl X.K k W ia σ H fun x H1 => ∃ B id, tyV X.K (btN B) x H1 ∧ BmKit pl X B m id ∧ tEs T pl X.K k W ie σ H1 fun vs H2 => rM pl X.K B m x vs H2 Q := by
  obtain ⟨ρ, L, g, rl, rg, h⟩ := h
  rw [ev] at h
  refine ⟨ρ, L, g, rl, rg, (h.bind (Rel := relX X.K) since_X).imp fun v H1 ⟨ρ1, x, g1, e1, rg1, rx, h⟩ => ?_⟩
  cases eb : btype g1 x with
  | none => simp only [eb] at h; exact h.elim
  | some B =>
    simp only [eb] at h
    by_cases hok : bmok B m = true
    · rw [if_pos hok] at h
      obtain ⟨id, kit⟩ := bm_kit (pl := pl) hu B m hok
      refine ⟨B, id, bty_ok rg1 rx eb, kit, ρ1, L, g1, rl.mono e1, rg1, (h.bind (Rel := relDs X.K) since_X).imp fun vs H2 ⟨ρ2, ds, g2, e2, rg2, rs, h⟩ => ?_⟩
      cases em : bmeth g2 B m x ds with
      | none => simp only [em] at h; exact h.elim
      | some z =>
        simp only [em] at h
        exact ⟨ρ2, g2, x, ds, z.1, z.2, H, rg2, rx.mono e2, rs, em, h⟩
    · rw [if_neg hok] at h
      exact h.elim
theorem s_bm0 {m : BM} {apos : Pos} (hu : X.A.units + 66 < cLine) (ho : PE X a (tE T pl X.K k W ia))
    (hbase : attributeBase a (Str.ofString (bmN m)) X.env (eval a X.env) = eval a X.env) (hline : (apos.endLine == pos.line) = true) : PE X (.Call (.Attribute a (Str.ofString (bmN m)) apos) [] [] pos) (tE T pl X.K k W (.bm m ia .nil)) := by
  refine ⟨fun pins s σ H Q I h => ?_⟩
  refine wpAny_Call_method0_late hbase hline (thn (ho.run pins s σ H _ I (go_bm hu h)) fun v s1 ⟨x, H1, I1, r1, B, id, ty, kit, q1⟩ => ?_)
  obtain ⟨h1, h2⟩ := tyV_is I1 r1 ty
  exact ⟨btN B, id, kit.pa, kit.slot, kit.ty, h1, h2, Calls.callWith_builtin rfl (PySem.evalArgs_none (kit.mt pins s1 σ H1 x [] v [] Q I1 r1 .nil (nil_es q1)))⟩
theorem s_bm {m : BM} {apos : Pos} {e : Expr} (hu : X.A.units + 66 < cLine) (ho : PE X a (tE T pl X.K k W ia)) (ha : PA X (e :: es) (tEs T pl X.K k W ie))
    (hbase : attributeBase a (Str.ofString (bmN m)) X.env (eval a X.env) = eval a X.env)
    (hfew : ((backTo pos (starEach (e :: es) X.env)).all (fun x => !x.1) && (backToKw pos (keywordEach [] X.env)).all (fun x => x.1.isSome)
      && decide ((e :: es).length + ([] : List Keyword).length + (if ([] : List Keyword).isEmpty then 0 else 1) < 30)) = true)
    (hline : (apos.endLine == pos.line) = true) (hs : starEach (e :: es) X.env = (false, eval e X.env) :: starEach es X.env) (hplain : (backTo pos (starEach es X.env)).any (·.1) = false) :
    PE X (.Call (.Attribute a (Str.ofString (bmN m)) apos) (e :: es) [] pos) (tE T pl X.K k W (.bm m ia ie)) := by
  refine ⟨fun pins s σ H Q I h => ?_⟩
  refine wpAny_Call_method_late hbase hfew hline rfl (thn (ho.run pins s σ H _ I (go_bm hu h)) fun v s1 ⟨x, H1, I1, r1, B, id, ty, kit, q1⟩ => ?_)
  obtain ⟨h1, h2⟩ := tyV_is I1 r1 ty
  refine ⟨btN B, id, kit.pa, kit.slot, kit.ty, h1, h2, ?_⟩
  have hA := ha.run pos pins s1 σ H1 _ I1 q1
  rw [hs] at hA ⊢
  refine Calls.callWith_builtin (by show (false || (backTo pos (starEach es X.env)).any (·.1)) = false; rw [hplain] <;> rfl) (Calls.evalArgs_plain ?_)
  exact thn hA fun us s2 ⟨vs, H2, I2, r2, q2⟩ => kit.mt pins s2 σ H2 x vs v us Q I2 r1 r2 q2
end
end Sd
set_option Elab.async false
set_option linter.all false
set_option maxRecDepth 100000
set_option maxHeartbeats 1000000
/-! Snd9: what a for walks; targets; comprehensions. -/
namespace Sd
open PySem PySem.Spec PyProof.Rows L2 Py
/-- a turn of the one is a turn of the other -/
def StepVal (pl : Pl) (K : PySem.W.Frag) (J : L2.It) (ρ : List Addr) (H : Hp) (g : G) (i : Nat) : Option D → Prop
  | none => J.stop i H
  | some d => J.go i H ∧ ∀ x H', J.yld i H x H' → ∃ ρ', Ext ρ ρ' H H' ∧ RG pl K ρ' H' g ∧ RV K ρ' H' d x
def StepOk (pl : Pl) (K : PySem.W.Frag) (J : L2.It) (it : Py.It) (ρ : List Addr) (H : Hp) (g : G) (i : Nat) : Prop := ∀ o, turn g it i = some o → StepVal pl K J ρ H g i o
abbrev relI (pl : Pl) (K : PySem.W.Frag) : List Addr → Hp → Hp → L2.It → Py.It → Prop := fun ρ _ H J it => ∀ ρ' H', Ext ρ ρ' H H' → ∀ g, RG pl K ρ' H' g → ∀ i, StepOk pl K J it ρ' H' g i
theorem since_I {pl : Pl} {K : PySem.W.Frag} : Since (relI pl K) := fun _ _ _ _ _ _ _ _ _ _ h => h
def tI (T : Tb) (pl : Pl) (K : PySem.W.Frag) (k : Nat) (W : WX) (s : Src) : TI := fun σ H R =>
  ∃ ρ L g, RL K ρ H σ L ∧ RG pl K ρ H g ∧ Po pl K (relI pl K) ρ H (wish pl W σ) R (evI T (runF T k) s L g)
section
variable {pl : Pl} {K : PySem.W.Frag} {ρ ρ' : List Addr} {H H' H0 : Hp} {g : G} {a : Addr} {v : V} {d : D}
theorem rel_list {ds : List D} {vs : List V} (hs : ∀ ρ' H', Ext ρ ρ' H H' → SqL K H' a vs) (r : RVs K ρ H ds vs) : relI pl K ρ H0 H (Itl K a) (.vals ds) := by
  intro ρ' H' e g rg i
  have r' := r.mono e
  have h' := hs ρ' H' e
  intro o eo
  cases eo
  cases ed : ds[i]? with
  | none =>
    refine ⟨vs, h', ?_⟩
    rw [r'.len]
    exact List.getElem?_eq_none_iff.mp ed
  | some d =>
    obtain ⟨w, h1, h2⟩ := r'.get ed
    refine ⟨⟨vs, w, h', h1⟩, fun x H'' y => ?_⟩
    obtain ⟨rfl, y⟩ := y
    have := y vs h'
    rw [h1] at this
    cases this
    exact ⟨ρ', .refl, rg, h2⟩
theorem rel_tup {ds : List D} {vs : List V} (hs : SqT K H a vs) (r : RVs K ρ H ds vs) : relI pl K ρ H0 H (Itt K a) (.vals ds) := by
  intro ρ' H' e g rg i
  have r' := r.mono e
  have h' := e.sqT hs
  intro o eo
  cases eo
  cases ed : ds[i]? with
  | none =>
    refine ⟨vs, h', ?_⟩
    rw [r'.len]
    exact List.getElem?_eq_none_iff.mp ed
  | some d =>
    obtain ⟨w, h1, h2⟩ := r'.get ed
    refine ⟨⟨vs, w, h', h1⟩, fun x H'' y => ?_⟩
    obtain ⟨rfl, y⟩ := y
    have := y vs h'
    rw [h1] at this
    cases this
    exact ⟨ρ', .refl, rg, h2⟩
theorem rel_ref {n : Nat} (hn : ρ[n]? = some a) : relI pl K ρ H0 H (Itl K a) (.lst n) := by
  intro ρ' H' e g rg i o eo
  simp only [turn] at eo
  split at eo
  · rename_i ds eg
    cases eo
    obtain ⟨vs, h', r'⟩ := rg.of eg (e.at hn)
    cases ed : ds[i]? with
    | none =>
      refine ⟨vs, .of h', ?_⟩
      rw [r'.len]
      exact List.getElem?_eq_none_iff.mp ed
    | some d =>
      obtain ⟨w, h1, h2⟩ := r'.get ed
      refine ⟨⟨vs, w, .of h', h1⟩, fun x H'' y => ?_⟩
      obtain ⟨rfl, y⟩ := y
      have := y vs (.of h')
      rw [h1] at this
      cases this
      exact ⟨ρ', .refl, rg, h2⟩
  · cases eo
theorem rel_rng {lo : Int} {n : Nat} : relI pl K ρ H0 H (Itr lo n) (.rng lo n) := by
  intro ρ' H' e g rg i o eo
  cases eo
  by_cases h : i < n
  · rw [if_pos h]
    refine ⟨h, fun x H'' y => ?_⟩
    obtain ⟨rfl, rfl⟩ := y
    exact ⟨ρ', .refl, rg, RV.int _⟩
  · rw [if_neg h]
    exact Nat.le_of_not_lt h
theorem cps_get (z : Tx) (i : Nat) : (toS z).cps[i]? = (z[i]?).map Char.toNat := by
  unfold toS
  simp
theorem rel_sgn {z : Tx} : relI pl K ρ H0 H (Its (toS z)) (.sgn z) := by
  intro ρ' H' e g rg i o eo
  cases eo
  have hz : (toS z).cps.size = z.length := by simp [toS]
  cases ez : z[i]? with
  | none =>
    show (toS z).cps.size ≤ i
    rw [hz]
    exact List.getElem?_eq_none_iff.mp ez
  | some c =>
    refine ⟨?_, fun x H'' y => ?_⟩
    · show i < (toS z).cps.size
      rw [hz]
      exact (List.getElem?_eq_some_iff.mp ez).1
    · obtain ⟨rfl, c', h1, rfl⟩ := y
      rw [cps_get, ez] at h1
      cases h1
      exact ⟨ρ', .refl, rg, RV.str [c]⟩
theorem rel_enum_step {ds : List D} {vs : List V} {i : Nat} (h' : SqL K H' a vs) (rg : RG pl K ρ H' g) (r' : RVs K ρ H' ds vs) :
    StepVal pl K (Ite K a) ρ H' g i ((ds[i]?).map (fun d => D.tup [.int i, d])) := by
  cases ed : ds[i]? with
  | none =>
    refine ⟨vs, h', ?_⟩
    rw [r'.len]
    exact List.getElem?_eq_none_iff.mp ed
  | some d =>
    obtain ⟨w, h1, h2⟩ := r'.get ed
    refine ⟨⟨vs, w, h', h1⟩, fun x H'' y => ?_⟩
    obtain ⟨p, x', rfl, hp, rfl, y⟩ := y
    have := y vs h'
    rw [h1] at this
    cases this
    have e : Ext ρ ρ H' (upd H' p (.tup [.int (i : Nat), w])) := .fresh hp
    refine ⟨ρ, e, rg.fresh hp, RV.tup upd_same (.cons (RV.int _) (.one (h2.mono e)))⟩
theorem rel_enumL {n : Nat} (hn : ρ[n]? = some a) : relI pl K ρ H0 H (Ite K a) (.enumL n) := by
  intro ρ' H' e g rg i o eo
  simp only [turn] at eo
  split at eo
  · rename_i ds eg
    cases eo
    obtain ⟨vs, h', r'⟩ := rg.of eg (e.at hn)
    exact rel_enum_step (.of h') rg r'
  · cases eo
theorem rel_enumT {ds : List D} {vs : List V} (hs : ∀ ρ' H', Ext ρ ρ' H H' → SqL K H' a vs) (r : RVs K ρ H ds vs) : relI pl K ρ H0 H (Ite K a) (.enumT ds) := by
  intro ρ' H' e g rg i o eo
  cases eo
  exact rel_enum_step (hs ρ' H' e) rg (r.mono e)
end
section
variable {T : Tb} {pl : Pl} {X : Cx} {k : Nat} {N : List Str} {sc : Scope} {W : WX} {ia ib ic : E} {ie : Es} {a b c tg : Expr} {es : List Expr} {pos : Pos}
theorem i_it (ha : PE X a (tE T pl X.K k W ia)) : PI X tg a (tI T pl X.K k W (.it ia)) := by
  refine ⟨fun pins s σ H R I h => ?_⟩
  obtain ⟨ρ, L, g, rl, rg, h⟩ := h
  rw [evI] at h
  cases er : ev T (runF T k) ia L g with
  | bad => rw [er] at h; exact h.elim
  | ex x g1 =>
    rw [er] at h
    refine (pi_list ha).run pins s σ H R I ⟨ρ, L, g, rl, rg, ?_⟩
    rw [er]
    exact h
  | ok x g1 =>
    rw [er] at h
    have hL : ∀ {ds : List D}, (∀ ρ' H' v, Ext ρ ρ' H H' → RG pl X.K ρ' H' g1 → RX X.K ρ' H H' v x → ∃ p vs, v = .ref p ∧ (∀ ρ2 H2, Ext ρ' ρ2 H' H2 → SqL X.K H2 p vs) ∧ RVs X.K ρ' H' ds vs) → Po pl X.K (relI pl X.K) ρ H (wish pl W σ) R (.ok (.vals ds) g1) →
        wpAny (model X.prog X.w) X.A (eval a X.env) (fun v s1 => wpAny (model X.prog X.w) X.A (pyIter v) (PIE X pins σ tg R) X.xe s1) X.xe s := by
      intro ds hx h
      refine (pi_list ha).run pins s σ H R I ⟨ρ, L, g, rl, rg, ?_⟩
      rw [er]
      intro ρ' H' v e rg' rx
      obtain ⟨p, vs, rfl, hs, r⟩ := hx ρ' H' v e rg' rx
      exact ⟨p, rfl, ⟨vs, hs ρ' H' .refl⟩, h ρ' H' _ e rg' (rel_list (H0 := H) hs r)⟩
    have hT : ∀ {ds : List D}, (∀ ρ' H' v, Ext ρ ρ' H H' → RG pl X.K ρ' H' g1 → RX X.K ρ' H H' v x → ∃ p vs, v = .ref p ∧ SqT X.K H' p vs ∧ RVs X.K ρ' H' ds vs) → Po pl X.K (relI pl X.K) ρ H (wish pl W σ) R (.ok (.vals ds) g1) →
        wpAny (model X.prog X.w) X.A (eval a X.env) (fun v s1 => wpAny (model X.prog X.w) X.A (pyIter v) (PIE X pins σ tg R) X.xe s1) X.xe s := by
      intro ds hx h
      refine (pi_tup ha).run pins s σ H R I ⟨ρ, L, g, rl, rg, ?_⟩
      rw [er]
      intro ρ' H' v e rg' rx
      obtain ⟨p, vs, rfl, hs, r⟩ := hx ρ' H' v e rg' rx
      exact ⟨p, rfl, ⟨vs, hs⟩, h ρ' H' _ e rg' (rel_tup (H0 := H) hs r)⟩
    cases x with
    | tmp xs =>
      refine hL (fun ρ' H' v e rg' rx => ?_) h
      obtain ⟨p, vs, rfl, hp, r, n, z⟩ := rx
      exact ⟨p, vs, rfl, fun ρ2 H2 e2 => .of (e2.keep _ _ hp n), r⟩
    | d d =>
      cases d with
      | tup xs =>
        refine hT (fun ρ' H' v e rg' rx => ?_) h
        obtain ⟨p, vs, rfl, hp, r⟩ := rx_tup rx
        exact ⟨p, vs, rfl, .of hp, r⟩
      | kt xs =>
        refine hT (fun ρ' H' v e rg' rx => ?_) h
        obtain ⟨p, vs, rfl, hp, r⟩ := rx_kt rx
        exact ⟨p, vs, rfl, hp, r⟩
      | ls xs =>
        refine hL (fun ρ' H' v e rg' rx => ?_) h
        obtain ⟨p, vs, rfl, hp, r⟩ := rx_ls rx
        exact ⟨p, vs, rfl, fun ρ2 H2 e2 => (e2.fzL hp).sq, r⟩
      | str z =>
        refine (pi_str ha).run pins s σ H R I ⟨ρ, L, g, rl, rg, ?_⟩
        rw [er]
        intro ρ' H' v e rg' rx
        obtain rfl := rx_str rx
        exact ⟨_, rfl, h ρ' H' _ e rg' (rel_sgn (H0 := H))⟩
      | ref n =>
        simp only [Py.R.bind] at h
        cases eg : g1[n]? with
        | none => rw [eg] at h; exact h.elim
        | some o =>
          rw [eg] at h
          cases o with
          | lst xs =>
            refine (pi_list ha).run pins s σ H R I ⟨ρ, L, g, rl, rg, ?_⟩
            rw [er]
            intro ρ' H' v e rg' rx
            obtain ⟨p, rfl, hn, vs, hp, r⟩ := rx_obj rg' rx eg
            exact ⟨p, rfl, ⟨vs, .of hp⟩, h ρ' H' _ e rg' (rel_ref (H0 := H) hn)⟩
          | _ => exact h.elim
      | _ => exact h.elim
/-- the names of the built-in iterators are not the module's -/
theorem i_rng1 {p1 : Pos} (G : Good T pl k N sc W X) (hg : Gl X "range") (ha : PE X a (tE T pl X.K k W ia)) (hs : ∀ r, starEach (a :: r) X.env = (false, eval a X.env) :: starEach r X.env) : PI X tg (.Call (.Name "range" p1) [a] [] pos) (tI T pl X.K k W (.rng (.cons ia .nil))) := by
  have hm := G.top.blt "range" (by decide +kernel)
  refine ⟨fun pins s σ H R I h => (pi_range1 hg hm (pa_cons ha pa_nil (hs _)) (by rw [hs []]; rfl)).run pins s σ H R I ?_⟩
  obtain ⟨ρ, L, g, rl, rg, h⟩ := h
  rw [evI] at h
  refine ⟨ρ, L, g, rl, rg, (h.bind (Rel := relX X.K) since_I).imp fun v H1 ⟨ρ1, x, g1, e1, rg1, rx, h⟩ => ?_⟩
  split at h
  · rename_i j
    split at h
    · rename_i hj
      simp only [Bool.and_eq_true, decide_eq_true_eq] at hj
      obtain rfl := rx_int rx
      exact ⟨j, rfl, hj.1, hj.2, h ρ1 H1 _ .refl rg1 (rel_rng (H0 := H1))⟩
    · exact h.elim
  · exact h.elim
theorem i_rng2 {p1 : Pos} (G : Good T pl k N sc W X) (hg : Gl X "range") (ha : PE X a (tE T pl X.K k W ia)) (hb : PE X b (tE T pl X.K k W ib)) (hs : ∀ r, starEach (a :: r) X.env = (false, eval a X.env) :: starEach r X.env) (hs2 : ∀ r, starEach (b :: r) X.env = (false, eval b X.env) :: starEach r X.env) :
    PI X tg (.Call (.Name "range" p1) [a, b] [] pos) (tI T pl X.K k W (.rng (.cons ia (.cons ib .nil)))) := by
  have hm := G.top.blt "range" (by decide +kernel)
  refine ⟨fun pins s σ H R I h => (pi_range2 hg hm (pa_cons ha (pa_cons hb pa_nil (hs2 _)) (hs _)) (by rw [hs, hs2]; rfl) (by rw [hs2]; rfl)).run pins s σ H R I ?_⟩
  obtain ⟨ρ, L, g, rl, rg, h⟩ := h
  rw [evI] at h
  refine ⟨ρ, L, g, rl, rg, (h.bind (Rel := relX X.K) since_I).imp fun v H1 ⟨ρ1, x, g1, e1, rg1, rx, h⟩ => ?_⟩
  refine ⟨ρ1, L, g1, rl.mono e1, rg1, (h.bind (Rel := relX X.K) since_I).imp fun u H2 ⟨ρ2, y, g2, e2, rg2, ry, h⟩ => ?_⟩
  have key : ∃ i j, x = .d (.int i) ∧ y = .d (.int j) := by
    split at h
    · exact ⟨_, _, rfl, rfl⟩
    · exact h.elim
  obtain ⟨i, j, rfl, rfl⟩ := key
  simp only at h
  split at h
  · rename_i hj
    simp only [Bool.and_eq_true, decide_eq_true_eq] at hj
    obtain rfl := rx_int ry
    obtain rfl := rx_int rx
    exact ⟨i, j, rfl, ⟨hj.1.1.1, hj.1.1.2, hj.1.2, hj.2⟩, h ρ2 H2 _ .refl rg2 (rel_rng (H0 := H1))⟩
  · exact h.elim
end
end Sd
set_option Elab.async false
set_option linter.all false
set_option maxRecDepth 100000
set_option maxHeartbeats 1000000
/-! Snd10: targets, comprehensions. -/
namespace Sd
open PySem PySem.Spec PyProof.Rows L2 Py
/-- the slots but those of own -/
def RLx (K : PySem.W.Frag) (ρ : List Addr) (H : Hp) (σ : L2.St) (L : Lc) (own : List Nat) : Prop :=
  σ.length = L.length ∧ ∀ (i : Nat) d, i ∉ own → L[i]? = some (some d) → ∃ v, σ[i]? = some (some v) ∧ RV K ρ H d v
theorem RL.x {K : PySem.W.Frag} {ρ : List Addr} {H : Hp} {σ : L2.St} {L : Lc} (h : RL K ρ H σ L) (own : List Nat) : RLx K ρ H σ L own := ⟨h.1, fun i d _ e => h.2 i d e⟩
theorem RLx.mono {K : PySem.W.Frag} {ρ ρ' : List Addr} {H H' : Hp} (x : Ext ρ ρ' H H') {σ : L2.St} {L : Lc} {own : List Nat} (h : RLx K ρ H σ L own) : RLx K ρ' H' σ L own :=
  ⟨h.1, fun i d n e => let ⟨v, q, r⟩ := h.2 i d n e; ⟨v, q, r.mono x⟩⟩
theorem RLx.set {K : PySem.W.Frag} {ρ : List Addr} {H : Hp} {σ : L2.St} {L : Lc} {own : List Nat} {d : D} {v : V} (h : RLx K ρ H σ L own) (r : RV K ρ H d v) (i : Nat) : RLx K ρ H (σ.set i (some v)) (L.set i (some d)) (own.filter (· ≠ i)) := by
  refine ⟨by simp [h.1], fun j e n q => ?_⟩
  by_cases hj : i = j
  · subst hj
    have hl : i < L.length := by
      have := (List.getElem?_eq_some_iff.mp q).1
      simpa using this
    rw [List.getElem?_set_self hl] at q
    cases q
    exact ⟨v, by rw [List.getElem?_set_self (by rw [h.1]; exact hl)], r⟩
  · rw [List.getElem?_set_ne hj] at q
    obtain ⟨u, q1, q2⟩ := h.2 j e (fun m => n (by simp [m, Ne.symm hj])) q
    exact ⟨u, by rw [List.getElem?_set_ne hj]; exact q1, q2⟩
theorem RLx.rl {K : PySem.W.Frag} {ρ : List Addr} {H : Hp} {σ : L2.St} {L : Lc} (h : RLx K ρ H σ L []) : RL K ρ H σ L := ⟨h.1, fun i d e => h.2 i d (by simp) e⟩
/-- a target -/
def tG (pl : Pl) (K : PySem.W.Frag) (t : Tg) : TG := fun v σ H Q => ∃ ρ L g d L1, RLx K ρ H σ L t.own ∧ RG pl K ρ H g ∧ RV K ρ H d v ∧ asg t d g L = some L1 ∧
  ∀ σ1, RL K ρ H σ1 L1 → σ1.length = σ.length → (∀ i, i ∉ t.own → σ1[i]? = σ[i]?) → Q σ1 H
def NmsOk (X : Cx) : List Expr → List Nat → Prop
  | [], [] => True
  | .Name x p :: es, i :: is => X.N[i]? = some x ∧ Loc X.env.scope x ∧ (X.fn x = true ∨ X.env.scope.names.lookup x = some .local) ∧ NmsOk X es is
  | _, _ => False
def gNms (is : List Nat) : TGs := fun vs σ H Q => vs.length = is.length ∧ Q ((is.zip vs).foldl (fun σ p => σ.set p.1 (some p.2)) σ) H
section
variable {T : Tb} {pl : Pl} {X : Cx} {k : Nat} {N : List Str} {sc : Scope} {W : WX} {ia ib ic : E} {ie : Es} {a b c tg : Expr} {es : List Expr} {pos : Pos}
theorem g_nm {i : Nat} {x : Str} (nd : X.N.Nodup) (hi : X.N[i]? = some x) (hx : Loc X.env.scope x) (hf : X.fn x = true ∨ X.env.scope.names.lookup x = some .local) : PG X (.Name x pos) (tG pl X.K (.nm i)) := by
  refine ⟨fun pins s σ H v u Q I r h => (pg_name nd hi hx hf).run pins s σ H v u Q I r ?_⟩
  obtain ⟨ρ, L, g, d, L1, rl, rg, rv, e, q⟩ := h
  cases e
  have h1 := rl.set rv i
  have e1 : (Tg.own (.nm i)).filter (· ≠ i) = [] := by simp [Tg.own]
  rw [e1] at h1
  exact q _ h1.rl (by simp) fun j hj => List.getElem?_set_ne (fun e => hj (by simp [Tg.own, e]))
theorem gs_nms (nd : X.N.Nodup) : ∀ {es : List Expr} {is : List Nat}, NmsOk X es is → PGs X es (gNms is)
  | [], [], _ => by
    refine ⟨fun pins s σ H vs us Q I r h => pgs_nil.run pins s σ H vs us Q I r ?_⟩
    obtain ⟨hl, q⟩ := h
    have : vs = [] := by simpa using hl
    subst this
    exact ⟨rfl, q⟩
  | e :: es, i :: is, h => by
    cases e with
    | Name x p =>
      obtain ⟨h1, h2, h3, h4⟩ := h
      refine ⟨fun pins s σ H vs us Q I r q => (pgs_cons (pg_name (pos := p) nd h1 h2 h3) (gs_nms nd h4) (by rfl)).run pins s σ H vs us Q I r ?_⟩
      obtain ⟨hl, q⟩ := q
      cases vs with
      | nil => simp at hl
      | cons v vr => exact ⟨v, vr, rfl, by simpa using hl, q⟩
    | _ => exact h.elim
  | [], _ :: _, h => h.elim
  | e :: es, [], h => by
    cases e <;> exact h.elim
theorem nms_len : ∀ {es : List Expr} {is : List Nat}, NmsOk X es is → (assignEach es X.env).length = is.length ∧ (assignEach es X.env).findIdx? (·.1) = none
  | [], [], _ => ⟨rfl, rfl⟩
  | e :: es, i :: is, h => by
    cases e with
    | Name x p =>
      obtain ⟨h1, h2⟩ := nms_len h.2.2.2
      have e : assignEach (.Name x p :: es) X.env = (false, assign (.Name x p) X.env) :: assignEach es X.env := by rfl
      rw [e]
      refine ⟨by simp [h1], ?_⟩
      rw [List.findIdx?_cons]
      simp [h2]
    | _ => exact h.elim
  | [], _ :: _, h => h.elim
  | e :: es, [], h => by
    cases e <;> exact h.elim
theorem fold_ok {K : PySem.W.Frag} {ρ : List Addr} {H : Hp} : ∀ {is : List Nat} {ds : List D} {vs : List V} {σ : L2.St} {L : Lc} {own : List Nat}, RLx K ρ H σ L own → ds.length = is.length → RVs K ρ H ds vs → (∀ i ∈ own, i ∈ is) →
    RL K ρ H ((is.zip vs).foldl (fun σ p => σ.set p.1 (some p.2)) σ) ((is.zip ds).foldl (fun L p => L.set p.1 (some p.2)) L) ∧ ((is.zip vs).foldl (fun σ p => σ.set p.1 (some p.2)) σ).length = σ.length ∧
      ∀ i, i ∉ is → ((is.zip vs).foldl (fun σ p => σ.set p.1 (some p.2)) σ)[i]? = σ[i]?
  | [], ds, vs, σ, L, own, h, hl, r, ho => by
    have : own = [] := by
      cases own with
      | nil => rfl
      | cons a b => exact absurd (ho a List.mem_cons_self) (by simp)
    subst this
    exact ⟨h.rl, rfl, fun _ _ => rfl⟩
  | i :: is, [], vs, σ, L, own, h, hl, r, ho => by simp at hl
  | i :: is, d :: ds, vs, σ, L, own, h, hl, r, ho => by
    rw [RVs] at r
    obtain ⟨v, vr, rfl, rv, r⟩ := r
    have h1 := h.set rv i
    obtain ⟨q1, q2, q3⟩ := fold_ok h1 (by simpa using hl) r (fun j hj => by
      simp at hj
      have := ho j hj.1
      simp [hj.2] at this
      exact this)
    refine ⟨q1, by simpa using q2, fun j hj => ?_⟩
    simp at hj
    show ((is.zip vr).foldl _ (σ.set i (some v)))[j]? = _
    rw [q3 j hj.2]
    exact List.getElem?_set_ne (Ne.symm hj.1)
theorem g_tp {is : List Nat} {kk : Nat} (hc : X.calm = true) (nd : X.N.Nodup) (h : NmsOk X es is) : PG X (.Tuple es kk pos) (tG pl X.K (.tp is)) := by
  obtain ⟨l1, l2⟩ := nms_len h
  refine ⟨fun pins s σ H v u Q I r q => ?_⟩
  obtain ⟨ρ, L, g, d, L1, rl, rg, rv, e, q⟩ := q
  simp only [asg] at e
  cases ei : items g (.d d) with
  | none => rw [ei] at e; cases e
  | some ds =>
    rw [ei] at e
    simp only at e
    split at e
    · rename_i hl
      cases e
      obtain ⟨p, vs, rfl, hp, rvs⟩ := items_ok rg (show RX X.K ρ H H v (.d d) from rv) ei
      obtain ⟨f1, f2, f3⟩ := fold_ok (is := is) rl hl rvs (fun i hi => hi)
      have fin : gNms is vs σ H Q := ⟨by rw [rvs.len, hl], q _ f1 f2 f3⟩
      rcases hp with hp | hp
      · exact (pg_lst (n := is.length) hc (gs_nms nd h) l1 l2).run pins s σ H _ u Q I r ⟨p, vs, rfl, hp, by rw [rvs.len, hl], fin⟩
      · exact (pg_tup (n := is.length) hc (gs_nms nd h) l1 l2).run pins s σ H _ u Q I r ⟨p, vs, rfl, hp, by rw [rvs.len, hl], fin⟩
    · cases e

/-! ### comprehensions -/
theorem wipe_get {σ : L2.St} : ∀ {vs : List Nat} {i : Nat}, i ∉ vs → (wipe σ vs)[i]? = σ[i]?
  | [], _, _ => rfl
  | v :: vs, i, h => by
    simp at h
    unfold wipe
    rw [List.getElem?_set_ne (Ne.symm h.1)]
    exact wipe_get h.2
theorem wipe_in {σ : L2.St} : ∀ {vs : List Nat} {i : Nat}, i ∈ vs → i < σ.length → (wipe σ vs)[i]? = some none
  | v :: vs, i, h, hl => by
    unfold wipe
    by_cases e : v = i
    · subst e
      rw [List.getElem?_set_self (by rw [wipe_length]; exact hl)]
    · rw [List.getElem?_set_ne e]
      exact wipe_in (by simpa [Ne.symm e] using h) hl
theorem wipe_eq {σ σ1 : L2.St} {vs : List Nat} (hl : σ1.length = σ.length) (h : ∀ i, i ∉ vs → σ1[i]? = (wipe σ vs)[i]?) : wipe σ1 vs = wipe σ vs := by
  refine List.ext_getElem? fun i => ?_
  by_cases m : i ∈ vs
  · by_cases hi : i < σ.length
    · rw [wipe_in m (by rw [hl]; exact hi), wipe_in m hi]
    · rw [List.getElem?_eq_none (by rw [wipe_length]; omega), List.getElem?_eq_none (by rw [wipe_length]; omega)]
  · rw [wipe_get m, h i m]
theorem RL.wiped {K : PySem.W.Frag} {ρ : List Addr} {H : Hp} {σ : L2.St} {L : Lc} {vs : List Nat} (h : RL K ρ H σ L) : RLx K ρ H (wipe σ vs) L vs :=
  ⟨by rw [wipe_length]; exact h.1, fun i d n e => let ⟨v, q, r⟩ := h.2 i d e; ⟨v, by rw [wipe_get n]; exact q, r⟩⟩
def noW : WX := fun _ _ _ _ => False
theorem Good.blk (G : Good T pl k N sc W X) (s : Shared) (H : Hp) (scope : Scope) (C : Addr) (cl : List (Str × Addr)) (fp : List Addr) : Good T pl k N (relS scope sc) noW (X.blk s H scope (compEnvC scope cl C X.env) fp) where
  top := G.top
  hN := G.hN
  sc_ := by rw [← G.sc_]; rfl
  nd := G.nd
  un := G.un
  tk := fun u s' ⟨a, B, sI, pins, σ, H, cls, d, e, I, nb, up, sky, na, os, ag, w⟩ => w.elim
theorem Calm.blk (C0 : Calm k X) (s : Shared) (H : Hp) (scope : Scope) (C : Addr) (cl : List (Str × Addr)) (fp : List Addr) : Calm k (X.blk s H scope (compEnvC scope cl C X.env) fp) := ⟨C0.calm, C0.room⟩
theorem Ext.over {ρ ρ' : List Addr} {H H' : Hp} {p : Addr} {u : HO} (x : Ext ρ ρ' H H') (n : H p = none) : Ext ρ ρ' H (upd H' p u) :=
  ⟨x.pre, x.new, fun b o h m => by rw [upd_ne (ne_of_none h n)]; exact x.keep b o h m, fun b xs h => by rw [upd_ne (ne_of_none h n)]; exact x.tups b xs h, fun b o w h => by rw [upd_ne (ne_of_none h n)]; exact x.frzs b o w h⟩
theorem Mon.lst {K : PySem.W.Frag} {ρ : List Addr} {H : Hp} {p : Addr} {xs ys : List V} (h : H p = some (.lst xs)) : Mon K ρ ρ H (upd H p (.lst ys)) := by
  have t : ∀ a zs, H a = some (.tup zs) → upd H p (.lst ys) a = some (.tup zs) := fun a zs e => by
    rw [upd_ne (fun z => by rw [z, h] at e; cases e)]; exact e
  have f : ∀ a o u, H a = some (.frz o u) → upd H p (.lst ys) a = some (.frz o u) := fun a o u e => by
    rw [upd_ne (fun z => by rw [z, h] at e; cases e)]; exact e
  refine ⟨fun _ _ e => e, t, fun a zs q => ?_, fun a zs q => ?_⟩
  · rcases q with (q | ⟨o, q⟩) | q
    · exact .inl (.inl (t _ _ q))
    · exact .inl (.inr ⟨o, f _ _ _ q⟩)
    · exact .inr q
  · rcases q with ⟨o, q⟩ | q
    · exact .inl ⟨o, f _ _ _ q⟩
    · exact .inr q
theorem RG.mon {K : PySem.W.Frag} {ρ : List Addr} {H H' : Hp} {g : G} (r : RG pl K ρ H g) (x : Mon K ρ ρ H H') (e : ∀ a ∈ ρ, H' a = H a) : RG pl K ρ H' g :=
  ⟨r.len, r.nd, fun n o a h q => (r.obj n o a h q).by_ x (e a (List.mem_of_getElem? q))⟩
theorem pts_true : PTs X [] (tT T pl X.K k W (.c (.bl true))) := by
  refine ⟨fun pins s σ H Q I h => pts_nil.run pins s σ H Q I ?_⟩
  obtain ⟨ρ, L, g, rl, rg, h⟩ := h
  rw [ev] at h
  exact h ρ H true .refl rg rfl
/-- what is wanted behind a comprehension's turns -/
def FinC (pl : Pl) (K : PySem.W.Frag) (ρ1 : List Addr) (H1 : Hp) (D' : Addr) (Q : VK) : R (List D) → Prop
  | .ok acc g => ∀ ρ H vs, Ext ρ1 ρ H1 H → RG pl K ρ H g → D' ∉ ρ → H D' = some (.lst vs) → RVs K ρ H acc vs → Q (.ref D') H
  | .ex _ _ => True
  | .bad => False
theorem go_comp {t : Tg} {src : Src} {own : List (Str × Nat)} (hown : own.map (·.2) = t.own) {σ : L2.St} {H : Hp} {Q : VK} (h : tE T pl X.K k W (.comp t src ic ia) σ H Q) :
    tLc (tI T pl X.K k W src) (tG pl X.K t) (tT T pl X.K k noW ic) (tD T pl X.K k noW ia) (own.map (·.2)) σ H Q := by
  rw [hown]
  obtain ⟨ρ, L, g, rl, rg, h⟩ := h
  rw [ev] at h
  refine ⟨ρ, L, g, rl, rg, (h.bind (Rel := relI pl X.K) since_X).imp fun J H1 ⟨ρ1, it, g1, e1, rg1, ri, h⟩ D' hD => ?_⟩
  have rl1 := rl.mono e1
  have hD1 : D' ∉ ρ1 := rg1.mem_ne hD
  -- the wanted end
  have fin : FinC pl X.K ρ1 H1 D' Q (loopC it t (fun L g => (ev T (runF T k) ic L g).test) (fun L g => (ev T (runF T k) ia L g).lay) L fuel 0 [] g1) := by
    revert h
    cases loopC it t (fun L g => (ev T (runF T k) ic L g).test) (fun L g => (ev T (runF T k) ia L g).lay) L fuel 0 [] g1 with
    | ok acc g2 => exact fun h ρ H vs e rg n hd r => h ρ H (.ref D') e rg ⟨D', vs, rfl, hd, r, n, hD⟩
    | ex x g2 => exact fun _ => trivial
    | bad => exact fun h => h
  refine ⟨fun i m H2 => ∃ ρ2 g2 acc vs, Ext ρ1 ρ2 H1 H2 ∧ RG pl X.K ρ2 H2 g2 ∧ D' ∉ ρ2 ∧ H2 D' = some (.lst vs) ∧ RVs X.K ρ2 H2 acc vs ∧
    FinC pl X.K ρ1 H1 D' Q (loopC it t (fun L g => (ev T (runF T k) ic L g).test) (fun L g => (ev T (runF T k) ia L g).lay) L m i acc g2), ⟨fuel, ρ1, g1, [], [], .fresh hD, rg1.fresh hD, hD1, upd_same, .nil, fin⟩, ?_⟩
  rintro i m H2 ⟨ρ2, g2, acc, vs, e2, rg2, n2, hd2, r2, f2⟩
  cases m with
  | zero => exact f2.elim
  | succ m =>
    have st := ri ρ2 H2 e2 g2 rg2 i
    rw [loopC] at f2
    cases et : turn g2 it i with
    | none => rw [et] at f2; exact f2.elim
    | some o =>
      have st := st o et
      rw [et] at f2
      cases o with
      | none => exact .inl ⟨st, f2 ρ2 H2 vs e2 rg2 n2 hd2 r2⟩
      | some d =>
        simp only at f2
        obtain ⟨go, st⟩ := st
        refine .inr ⟨go, fun H' => ∃ ρ2 g2 acc vs, Ext ρ1 ρ2 H1 H' ∧ RG pl X.K ρ2 H' g2 ∧ D' ∉ ρ2 ∧ H' D' = some (.lst vs) ∧ RVs X.K ρ2 H' acc vs ∧
          FinC pl X.K ρ1 H1 D' Q (loopC it t (fun L g => (ev T (runF T k) ic L g).test) (fun L g => (ev T (runF T k) ia L g).lay) L m (i + 1) acc g2), fun H' q => ⟨m, Nat.lt_succ_self _, q⟩, fun x H3 y => ?_⟩
        obtain ⟨ρ3, e3, rg3, rv3⟩ := st x H3 y
        cases ea : asg t d g2 L with
        | none => rw [ea] at f2; exact f2.elim
        | some L1 =>
          rw [ea] at f2
          simp only at f2
          have hd3 := e3.keep _ _ hd2 n2
          have n3 := e3.nmem hd2 n2
          have r3 := r2.mono e3
          refine ⟨ρ3, L, g2, d, L1, ((rl1.mono e2).mono e3).wiped, rg3, rv3, ea, fun σ1 rl3 hl1 ho1 => ⟨wipe_eq (by rw [hl1, wipe_length]) ho1, ρ3, L1, g2, rl3, rg3, ?_⟩⟩
          have x3 := e2.trans e3
          cases ec : (ev T (runF T k) ic L1 g2).test with
          | bad => rw [ec] at f2; exact f2.elim
          | ex x g3 => rw [ec] at f2; exact f2.elim
          | ok b g3 =>
            rw [ec] at f2
            intro ρ4 H4 b' e4 rg4 eb
            obtain rfl : b' = b := eb
            have hd4 := e4.keep _ _ hd3 n3
            have n4 := e4.nmem hd3 n3
            have r4 := r3.mono e4
            have x4 := x3.trans e4
            cases b' with
            | false =>
              rw [if_neg (by decide)]
              exact ⟨ρ4, g3, acc, vs, x4, rg4, n4, hd4, r4, f2⟩
            | true =>
              rw [if_pos rfl]
              refine ⟨ρ4, L1, g3, rl3.mono e4, rg4, ?_⟩
              simp only at f2
              cases ee : (ev T (runF T k) ia L1 g3).lay with
              | bad => rw [ee] at f2; exact f2.elim
              | ex x g3 => rw [ee] at f2; exact f2.elim
              | ok z g4 =>
                rw [ee] at f2
                simp only at f2
                intro ρ5 H5 v e5 rg5 rv
                split at f2
                · rename_i hlen
                  have hd5 := e5.keep _ _ hd4 n4
                  have n5 := e5.nmem hd4 n4
                  have r5 := r4.mono e5
                  have x5 := x4.trans e5
                  have mo : Mon X.K ρ5 ρ5 H5 (upd H5 D' (.lst (vs ++ [v]))) := Mon.lst hd5
                  exact ⟨vs, hd5, by rw [r5.len, ← line_eq]; exact hlen, ρ5, g4, acc ++ [z], vs ++ [v], x5.over hD, rg5.mon mo (fun a ha => upd_ne fun q => n5 (q ▸ ha)), n5, upd_same, (r5.append (.one rv)).by_ mo, f2⟩
                · exact f2.elim
theorem s_comp {t : Tg} {src : Src} {iter : Expr} {ifs : List Expr} {scope : Scope} {own : List (Str × Nat)} (G : Good T pl k N sc W X) (C0 : Calm k X) (hi : PI X tg iter (tI T pl X.K k W src)) (ok : BlkOk X.N X.env.scope scope own) (hown : own.map (·.2) = t.own)
    (hg : ∀ (s : Shared) (H : Hp) (C : Addr) (cl : List (Str × Addr)) (fp : List Addr), PG (X.blk s H scope (compEnvC scope cl C X.env) fp) tg (tG pl X.K t))
    (ht : ∀ (s : Shared) (H : Hp) (C : Addr) (cl : List (Str × Addr)) (fp : List Addr), PTs (X.blk s H scope (compEnvC scope cl C X.env) fp) ifs (tT T pl X.K k noW ic))
    (he : ∀ (s : Shared) (H : Hp) (C : Addr) (cl : List (Str × Addr)) (fp : List Addr), PE (X.blk s H scope (compEnvC scope cl C X.env) fp) a (tE T pl X.K k noW ia)) (hs : ∀ x, foldedSetIterable iter X.env x = pure x) :
    PE X (.ListComp a [⟨tg, iter, ifs, 0⟩] scope pos) (tE T pl X.K k W (.comp t src ic ia)) :=
  ⟨fun pins s σ H Q I h => (pe_lc (te := tD T pl X.K k noW ia) C0.calm (by rw [G.hN]; exact G.nd) hi ok hg ht (fun s H C cl fp => s_lay (T := T) (pl := pl) (k := k) (W := noW) (he s H C cl fp)) hs).run pins s σ H Q I (go_comp hown h)⟩
end
end Sd
set_option Elab.async false
set_option linter.all false
set_option maxRecDepth 100000
set_option maxHeartbeats 1000000
/-! SndA: reversed copies, len(set(..)), the module's dicts. -/
namespace HT2
open PySem PySem.Spec PyProof.Rows L2 HT
section
variable {prog : Program} {w : World} {A : Around} {E : Value → Shared → Prop} {s : Shared}
theorem fm_congr {α β : Type} {f g : α → Option β} : ∀ {l : List α}, (∀ x ∈ l, f x = g x) → l.filterMap f = l.filterMap g
  | [], _ => rfl
  | x :: l, h => by
    rw [List.filterMap_cons, List.filterMap_cons, h x List.mem_cons_self, fm_congr fun y hy => h y (List.mem_cons_of_mem _ hy)]
theorem back_pick (xs : Array Value) : ((List.range xs.size).filterMap fun (m : Nat) => xs[(((xs.size : Int) - 1) + (m : Int) * (-1)).toNat]?) = xs.toList.reverse := by
  have e : ((List.range xs.size).filterMap fun (m : Nat) => xs[(((xs.size : Int) - 1) + (m : Int) * (-1)).toNat]?) = ((List.range xs.size).map fun k => xs.size - 1 - k).filterMap (xs[·]?) := by
    rw [List.filterMap_map]
    refine fm_congr fun m hm => ?_
    have := List.mem_range.mp hm
    show _ = xs[xs.size - 1 - m]?
    congr 1
    omega
  rw [e, PySem.W.krv_range, List.filterMap_reverse, PySem.W.krv_all]
theorem applied_back {sl : Addr} {vl vu vs : Value} {n : Nat} {Q : Int × Int × Nat → Shared → Prop} (hs : s.heap.IsSliceOf sl vl vu vs) (pl : IsPart vl none) (pu : IsPart vu none) (ps : IsPart vs (some (-1)))
    (h : Q ((n : Int) - 1, -1, n) s) : wpAny (model prog w) A (Builtin.Slice.sliceApplied (.ref sl) (pure (n : Int))) Q E s := by
  obtain ⟨os, hos, hcs, hds⟩ := id hs
  unfold Builtin.Slice.sliceApplied Builtin.Slice.sliceFields
  refine wpAny_bind (wpAny_bind (wpAny_field hos hds (x := vl) rfl (wpAny_bind (wpAny_field hos hds (x := vu) rfl (wpAny_bind (wpAny_field hos hds (x := vs) rfl (wpAny_pure ?_)))))))
  refine wpAny_bind (slicePart_ ps ?_)
  show wpAny _ _ (if ((-1 : Int) == 0) = true then _ else _) _ _ s
  rw [if_neg (by decide)]
  refine wpAny_bind (slicePart_ pl (wpAny_bind (slicePart_ pu (wpAny_bind (wpAny_pure ?_)))))
  have e : Builtin.Slice.slicePlaces ((n : Int) - 1) (-1) (-1) = n := by
    unfold Builtin.Slice.slicePlaces
    by_cases hn : n = 0
    · subst hn; rfl
    · have h1 : ((n : Int) - 1 - -1 - -1 - 1) / (- -1) = (n : Int) := by
        rw [show (- -1 : Int) = 1 by decide, Int.ediv_one]
        omega
      simp
      omega
  have e2 : Builtin.Slice.sliceAdjust none none (-1) (n : Int) = ((n : Int) - 1, -1) := by
    unfold Builtin.Slice.sliceAdjust
    simp
  show wpAny _ _ (match Builtin.Slice.sliceAdjust none none (-1) (n : Int) with | (lo, hi) => pure (lo, (-1 : Int), Builtin.Slice.slicePlaces lo hi (-1))) _ _ s
  rw [e2]
  show wpAny _ _ (pure ((n : Int) - 1, (-1 : Int), Builtin.Slice.slicePlaces ((n : Int) - 1) (-1) (-1))) _ _ s
  rw [e]
  exact wpAny_pure h
theorem getItem_tuple_back {t sl : Addr} {items : Array Value} {vl vu vs : Value} {Q : Value → Shared → Prop} (ht : IsTup s.heap t items) (hs : s.heap.IsSliceOf sl vl vu vs) (pl : IsPart vl none) (pu : IsPart vu none) (ps : IsPart vs (some (-1)))
    (h : Q (.ref s.heap.objs.size) { s with heap := s.heap.push { cls := .type "tuple", data := .seq items.toList.reverse.toArray } })
    (hsz : items.size ≤ sizeLine) : wpAny (model prog w) A (getItem (.ref t) (.ref sl)) Q E s := by
  have hok : sizeOk (.seq items.toList.reverse.toArray) := by
    show items.toList.reverse.toArray.size ≤ sizeLine
    simpa using hsz
  obtain ⟨os, hos, hcs, hds⟩ := id hs
  have hTs : s.TypeIs (.ref sl) "slice" := ⟨os, hos, hcs⟩
  unfold getItem
  try with_reducible refine wpAny_holding ?_
  first | refine wpAny_bind (wpAny_pure ?_) | skip
  refine wpAny_bind (wpAny_sequenceKey ht.typeIs (by decide) ?_)
  refine wpAny_bind (wpAny_callSpecial?_slot (name := Str.ofString "__getitem__") ht.typeIs PyProof.Rows.slot_tuple_getitem
    (wpAny_call_entry PyProof.Rows.slot_tuple_getitem ht.typeIs entry_tuple_getitem ?_ (args_tuple_getitem _ _)))
  show wpAny _ _ (Builtin.Tuple.tupleItemsOf (.ref t) >>= _) _ _ s
  refine wpAny_bind (tupleItemsOf_ ht ?_)
  refine wpAny_bind (wpAny_typeOf hTs ?_)
  rw [if_pos (by decide)]
  refine wpAny_bind (applied_back hs pl pu ps ?_)
  have no : ¬ ((((items.size : Int) - 1) == 0 && (-1 : Int) == 1 && items.size == items.size) = true) := by
    intro q
    rw [Bool.and_eq_true, Bool.and_eq_true] at q
    exact absurd q.1.2 (by decide)
  show wpAny _ _ (if (((items.size : Int) - 1) == 0 && (-1 : Int) == 1 && items.size == items.size) = true then _ else _) _ _ s
  rw [if_neg no, back_pick]
  first
    | exact wpAny_bind (m := Builtin.Tuple.tupleExact _) (wpAny_newObj_type (wpAny_pure ⟨_, rfl, wpAny_pure h⟩) hok)
    | exact wpAny_bind (m := Builtin.Tuple.tupleExact _) (wpAny_newObj_type (wpAny_bind (wpAny_pure (wpAny_pure ⟨_, rfl, wpAny_pure h⟩))) hok)
    | exact wpAny_bind (wpAny_bind (m := Builtin.Tuple.tupleExact _) (wpAny_newObj_type (wpAny_pure (wpAny_pure ⟨_, rfl, wpAny_pure h⟩)) hok))
    | exact wpAny_bind (wpAny_bind (m := Builtin.Tuple.tupleExact _) (wpAny_newObj_type (wpAny_pure ⟨_, rfl, wpAny_pure h⟩) hok))
end
end HT2
namespace Sd
open PySem PySem.Spec PyProof.Rows L2 Py
/-- x[::-1], a list or a tuple -/
def tBack (K : PySem.W.Frag) (te : TE) : TE := fun σ H Q => te σ H fun x H1 => ∃ a xs, x = .ref a ∧ ((SqL K H1 a xs ∧ ∀ p, H1 p = none → Q (.ref p) (upd H1 p (.lst xs.reverse))) ∨ (SqT K H1 a xs ∧ ∀ p, H1 p = none → Q (.ref p) (upd H1 p (.tup xs.reverse))))
section
variable {X : Cx}
theorem pe_back {e : Expr} {te : TE} {k : Nat} {p1 p2 p3 pos : Pos} (he : PE X e te) : PE X (.Subscript e (.Slice none none (some (.UnaryOp .USub (.Constant (.int 1) k p1) p2)) p3) pos) (tBack X.K te) := by
  refine ⟨fun pins s σ H Q I h => ?_⟩
  refine Subscript_ (thn (he.run pins s σ H _ I h) fun v s1 ⟨x, H1, I1, r1, q1⟩ => ?_)
  obtain ⟨a, xs, ex, q⟩ := q1
  subst ex
  cases r1
  have hst : PO X (some (.UnaryOp .USub (.Constant (.int 1) k p1) p2)) (tPart (tUn (rU fun i => .int (-i)) (tC (.int 1)))) := po_some (pe_un un_neg pe_int)
  refine wpAny_Slice (thn (po_none.run pins s1 σ H1 (fun o H2 => o = none ∧ H2 = H1) I1 ⟨rfl, rfl⟩) fun vl s2 ⟨l, H2, I2, pl, el, e2⟩ => ?_)
  subst el e2
  refine thn (po_none.run pins s2 σ H2 (fun o H3 => o = none ∧ H3 = H2) I2 ⟨rfl, rfl⟩) fun vu s3 ⟨u, H3, I3, pu, eu, e3⟩ => ?_
  subst eu e3
  refine thn (hst.run pins s3 σ H3 (fun o H4 => o = some (-1) ∧ H4 = H3) I3 ⟨1, rfl, -1, rfl, rfl, rfl⟩) fun vs s4 ⟨o, H4, I4, ps, eo, e4⟩ => ?_
  subst eo e4
  have I5 : Inv X pins σ H4 { s4 with heap := s4.heap.push { cls := .type "slice", data := .fields #[vl, vu, vs] } } := I4.kept (t' := s4.toks) fun b ob q => Heap.get?_push_of_some _ q
  show wpAny (model X.prog X.w) X.A (subscriptTail e (.Slice none none (some (.UnaryOp .USub (.Constant (.int 1) k p1) p2)) p3) (.ref a) (.ref s4.heap.objs.size)) (EP X pins σ Q) X.xe { s4 with heap := s4.heap.push { cls := .type "slice", data := .fields #[vl, vu, vs] } }
  rcases q with ⟨hx, q⟩ | ⟨hx, q⟩
  · obtain ⟨its, r, ht, hz⟩ := I5.list hx
    have hlen := r.length
    refine tail_any (ops := [.ref a, .ref s4.heap.objs.size]) ht.isList.typeIs (PySem.slot_list_getitem.lookup) ?_ (by with_unfolding_all rfl)
    refine wpAny_getItem_list_slice ht.isList (Heap.IsSliceOf.new _ vl vu vs) pl pu ps (by decide) ?_ (by rw [List.size_toArray]; omega)
    rw [PySem.W.krv_pick]
    refine ⟨.ref _, _, I5.laid (t' := s4.toks) (o := .lst xs.reverse) (fun b ob q => Heap.get?_push_of_some _ q) (Nat.le_refl _) ?_, rfl, q _ (I5.hok.fresh (Nat.le_refl _))⟩
    exact ⟨by rw [List.length_reverse]; exact hz, _, 0, r.reverse, Heap.get?_push_size _ rfl⟩
  · obtain ⟨its, r, ht, hz⟩ := I5.tuple hx
    have hlen := r.length
    refine tail_any (ops := [.ref a, .ref s4.heap.objs.size]) ht.typeIs (PyProof.Rows.slot_tuple_getitem.lookup) ?_ (by with_unfolding_all rfl)
    refine HT2.getItem_tuple_back ht (Heap.IsSliceOf.new _ vl vu vs) pl pu ps ?_ (by rw [List.size_toArray]; omega)
    refine ⟨.ref _, _, I5.laid (t' := s4.toks) (o := .tup xs.reverse) (fun b ob q => Heap.get?_push_of_some _ q) (Nat.le_refl _) ?_, rfl, q _ (I5.hok.fresh (Nat.le_refl _))⟩
    exact ⟨by rw [List.length_reverse]; exact hz, _, r.reverse, IsTup.new _ _⟩
end
section
variable {T : Tb} {pl : Pl} {X : Cx} {k : Nat} {N : List Str} {sc : Scope} {W : WX} {ia ib ic : E} {a b c : Expr} {pos : Pos}
theorem s_rev {j : Nat} {p1 p2 p3 : Pos} (ha : PE X a (tE T pl X.K k W ia)) : PE X (.Subscript a (.Slice none none (some (.UnaryOp .USub (.Constant (.int 1) j p1) p2)) p3) pos) (tE T pl X.K k W (.rev ia)) := by
  refine ⟨fun pins s σ H Q I h => (pe_back ha).run pins s σ H Q I ?_⟩
  obtain ⟨ρ, L, g, rl, rg, h⟩ := h
  rw [ev] at h
  refine ⟨ρ, L, g, rl, rg, (h.bind (Rel := relX X.K) since_X).imp fun v H1 ⟨ρ1, x, g1, e1, rg1, rx, h⟩ => ?_⟩
  obtain ⟨z, ez, h⟩ := h.ofO
  unfold revX at ez
  split at ez
  · cases ez
    obtain ⟨a, xs, rfl, ha, r⟩ := rx_tup rx
    exact ⟨a, xs, rfl, .inr ⟨.of ha, fun p np => new_tup rg1 r.reverse h p np⟩⟩
  · cases ez
    obtain ⟨a, vs, rfl, ha, r, _⟩ := rx
    exact ⟨a, vs, rfl, .inl ⟨.of ha, fun p np => new_tmp rg1 r.reverse h p np⟩⟩
  · split at ez
    · rename_i hg
      cases ez
      obtain ⟨a, rfl, hn, vs, ha, r⟩ := rx_obj rg1 rx hg
      exact ⟨a, vs, rfl, .inl ⟨.of ha, fun p np => new_tmp rg1 r.reverse h p np⟩⟩
    · cases ez
  · cases ez

/-! ### len(set(xs)) -/
theorem firstMet_len (ns : List Int) : ∀ i, i ≤ ns.length → PyProof.Rows.firstMet (fun i => ns.getD i 0) i = (ns.take i).eraseDups := by
  intro i
  induction i with
  | zero => intro _; simp [PyProof.Rows.firstMet_zero]
  | succ i ih =>
    intro hi
    have hlt : i < ns.length := hi
    have e1 : ns.getD i 0 = ns[i] := by
      rw [List.getD_eq_getElem?_getD, List.getElem?_eq_getElem hlt]; rfl
    have e2 : ns.take (i + 1) = ns.take i ++ [ns[i]] := by
      rw [List.take_add_one, List.getElem?_eq_getElem hlt]; rfl
    rw [PyProof.Rows.firstMet_succ, ih (Nat.le_of_lt hlt), e1, e2, List.eraseDups_append]
    unfold PyProof.Rows.step_dedup
    by_cases hm : ns[i] ∈ ns.take i
    · have h1 : ((ns.take i).eraseDups.any (· == ns[i])) = true := List.any_eq_true.mpr ⟨ns[i], List.mem_eraseDups.mpr hm, by simp⟩
      rw [if_pos h1]
      simp [List.removeAll, hm]
    · have h1 : ((ns.take i).eraseDups.any (· == ns[i])) = false := by
        rw [Bool.eq_false_iff]
        intro h
        obtain ⟨y, hy, ey⟩ := List.any_eq_true.mp h
        have : y = ns[i] := eq_of_beq ey
        subst this
        exact hm (List.mem_eraseDups.mp hy)
      rw [if_neg (by rw [h1]; decide)]
      simp [List.removeAll, hm, List.eraseDups_cons]
def tLenSet (K : PySem.W.Frag) (ta : TE) : TE := fun σ H Q => ta σ H fun x H1 => ∃ (l : Addr) (ns : List Int), x = .ref l ∧ SqL K H1 l (ns.map V.int) ∧ ns.length ≤ 4000 ∧ Q (.int (ns.eraseDups.length : Nat)) H1
theorem pe_lenSet {p p2 q pos : Pos} {ta : TE} (hg : Gl X "len") (hm : X.mg "len" = none) (hg2 : Gl X "set") (hm2 : X.mg "set" = none) (ha : PE X a ta) (hc : X.calm = true)
    (na : starEach [a] X.env = (false, eval a X.env) :: starEach [] X.env) : PE X (.Call (.Name "len" p) [.Call (.Name "set" p2) [a] [] q] [] pos) (tLenSet X.K ta) := by
  refine ⟨fun pins s σ H Q I h => ?_⟩
  refine Call_ (ld_blt I hg hm boot_len ?_)
  refine PyProof.Rows.callWith_builtin1 (PyProof.Rows.args_cons ?_ rfl) rfl rfl
  refine Call_ (ld_blt I hg2 hm2 boot_set ?_)
  refine PyProof.Rows.callWith_type1 (PyProof.Rows.args_cons (thn (ha.run pins s σ H _ I h) fun v s1 ⟨x, H1, I1, r1, q1⟩ => PyProof.Rows.args_nil ?_) na) na rfl
  obtain ⟨l, ns, rfl, hq, hl, q1⟩ := q1
  cases r1
  obtain ⟨its, r, pl', hz⟩ := I1.list hq
  have hlen : its.toArray.size = ns.length := by rw [List.size_toArray, ← r.length, List.length_map]
  refine call_set_list (I1.ok.hd hc) pl'.isList (by simpa using RZ.intsAre_vals r) (by rw [hlen]; unfold scanBound; omega) fun h' tk hS hk => ?_
  refine PyProof.Rows.args_nil ?_
  rw [hlen, firstMet_len ns ns.length (Nat.le_refl _), List.take_length] at hS
  obtain ⟨o, es, ep, t, ho, hex, hd, _, _, _, hf, hn⟩ := hS
  have I2 : Inv X pins σ H1 { s1 with heap := h', toks := tk } := I1.kept fun b o e => hk b o (Heap.lt_size e) e
  have hle : ns.eraseDups.length ≤ ns.length := by
    have := PyProof.Rows.firstMet_length_le (fun i => ns.getD i 0) ns.length
    rw [firstMet_len ns ns.length (Nat.le_refl _), List.take_length] at this
    exact this
  exact call_len_set ho hex hd hf (by rw [hn]; omega) ⟨.int ns.eraseDups.length, H1, I2.tok _, ⟨_, by rw [hn]⟩, q1⟩
theorem s_lenset {p1 p2 q : Pos} (G : Good T pl k N sc W X) (C0 : Calm k X) (hg : Gl X "len") (hg2 : Gl X "set") (ha : PE X a (tE T pl X.K k W ia)) (hs : ∀ r, starEach (a :: r) X.env = (false, eval a X.env) :: starEach r X.env) :
    PE X (.Call (.Name "len" p1) [.Call (.Name "set" p2) [a] [] q] [] pos) (tE T pl X.K k W (.lenset ia)) := by
  refine ⟨fun pins s σ H Q I h => (pe_lenSet hg (G.top.blt _ (by decide)) hg2 (G.top.blt _ (by decide)) ha C0.calm (hs [])).run pins s σ H Q I ?_⟩
  obtain ⟨ρ, L, g, rl, rg, h⟩ := h
  rw [ev] at h
  refine ⟨ρ, L, g, rl, rg, (h.bind (Rel := relX X.K) since_X).imp fun v H1 ⟨ρ1, x, g1, e1, rg1, rx, h⟩ => ?_⟩
  obtain ⟨z, ez, h⟩ := h.ofO
  unfold lensetX at ez
  cases el : Py.listOf g1 x with
  | none => rw [el] at ez; cases ez
  | some ds =>
    cases ei : intsOf ds with
    | none => rw [el] at ez; simp only [Option.bind_some] at ez; rw [ei] at ez; cases ez
    | some is =>
      rw [el] at ez
      simp only [Option.bind_some] at ez
      rw [ei] at ez
      simp only [Option.bind_some] at ez
      split at ez
      · rename_i hl
        cases ez
        obtain ⟨p, ws, rfl, hp, hr⟩ := listOf_ok rg1 rx el
        rw [ints_ok hr ei] at hp
        exact ⟨p, is, rfl, .of hp, hl, h ρ1 H1 _ .refl rg1 (RX.int _)⟩
      · cases ez
end
end Sd
set_option Elab.async false
set_option linter.all false
set_option maxRecDepth 100000
set_option maxHeartbeats 1000000
/-! SndB: the module's dicts; written dicts. -/
namespace Sd
open PySem PySem.Spec PyProof.Rows L2 Py
section
variable {T : Tb} {pl : Pl} {X : Cx} {k : Nat} {N : List Str} {sc : Scope} {W : WX} {ia ib ic : E} {a b c : Expr} {pos : Pos}
/-- a name of the module's dict -/
theorem pe_gd {q : Nat} {x : Str} {kvs : List (Tx × D)} {p : Pos} (G : Good T pl k N sc W X) (hx : pl.nm.gls[q]? = some x) (hd : T.gd q = some kvs) (hg : Gl X x) (hdb : (x == ("__debug__" : Str)) = false) :
    ∃ a, GDict X.K X.w a kvs ∧ PE X (.Name x p) (tC (.ref a)) := by
  obtain ⟨a, hm, gd⟩ := G.top.gds q x kvs hx hd
  exact ⟨a, gd, pe_glob hg hm rfl hdb⟩
theorem s_gix {q : Nat} {x : Str} {p : Pos} (G : Good T pl k N sc W X) (hx : pl.nm.gls[q]? = some x) (hg : Gl X x) (hdb : (x == ("__debug__" : Str)) = false) (hb : PE X b (tE T pl X.K k W ib)) (hs : PlainIx b) :
    PE X (.Subscript (.Name x p) b pos) (tE T pl X.K k W (.gix q ib)) := by
  cases hd : T.gd q with
  | none =>
    refine ⟨fun pins s σ H Q I h => False.elim ?_⟩
    obtain ⟨ρ, L, g, rl, rg, h⟩ := h
    rw [ev, hd] at h
    exact h
  | some kvs =>
    obtain ⟨a, gd, pe⟩ := pe_gd (p := p) G hx hd hg hdb
    refine ⟨fun pins s σ H Q I h => (pe_ix ix_kdict pe hb hs).run pins s σ H Q I ?_⟩
    obtain ⟨ρ, L, g, rl, rg, h⟩ := h
    rw [ev, hd] at h
    refine ⟨ρ, L, g, rl, rg, (h.bind (Rel := relX X.K) since_X).imp fun u H1 ⟨ρ1, y, g1, e1, rg1, ry, h⟩ => ?_⟩
    cases y with
    | tmp xs => exact h.elim
    | d y =>
      cases y with
      | str z =>
        obtain rfl := rx_str ry
        obtain ⟨_, es, n, lk, kl, al⟩ := gd
        have hz := al z
        cases el : kvs.lookup z with
        | none =>
          simp only [el] at h
          exact h.elim
        | some d =>
          rw [el] at hz
          obtain ⟨u, v, e1', r1, r2⟩ := hz
          simp only [el, Option.map_some] at h
          exact ⟨a, toS z, v, rfl, rfl, ⟨es, n, u, lk, kl, e1', r1⟩, h ρ1 H1 v .refl rg1 (r2 ρ1 H1)⟩
      | _ => exact h.elim

/-- x in X, x not in X -/
theorem s_gin {n : Bool} {q : Nat} {x : Str} {p : Pos} (G : Good T pl k N sc W X) (hx : pl.nm.gls[q]? = some x) (hg : Gl X x) (hdb : (x == ("__debug__" : Str)) = false) (ha : PE X a (tE T pl X.K k W ia)) :
    PE X (.Compare a [if n then .NotIn else .In] [.Name x p] pos) (tE T pl X.K k W (.gin n q ia)) := by
  cases hd : T.gd q with
  | none =>
    refine ⟨fun pins s σ H Q I h => False.elim ?_⟩
    obtain ⟨ρ, L, g, rl, rg, h⟩ := h
    rw [ev, hd] at h
    exact h
  | some kvs =>
    obtain ⟨d, gd, pe⟩ := pe_gd (p := p) G hx hd hg hdb
    obtain ⟨low, es, nn, lk, kl, al⟩ := gd
    have D : KDict X.K X.w d es nn := ⟨lk, kl, low⟩
    have go : ∀ {σ : L2.St} {H : Hp} {Q : VK}, tE T pl X.K k W (.gin n q ia) σ H Q → tE T pl X.K k W ia σ H fun v H1 => ∃ z r, v = .str (toS z) ∧ PySem.W.nsIn X.K d (toS z) = some r ∧ Q (.bl (r.isSome != n)) H1 := by
      intro σ H Q h
      obtain ⟨ρ, L, g, rl, rg, h⟩ := h
      rw [ev, hd] at h
      refine ⟨ρ, L, g, rl, rg, (h.bind (Rel := relX X.K) since_X).imp fun u H1 ⟨ρ1, y, g1, e1, rg1, ry, h⟩ => ?_⟩
      cases y with
      | tmp xs => exact h.elim
      | d y =>
        cases y with
        | str z =>
          obtain rfl := rx_str ry
          have hz := al z
          cases el : kvs.lookup z with
          | none =>
            rw [el] at hz
            simp only [el] at h
            exact ⟨z, none, rfl, hz, h ρ1 H1 _ .refl rg1 (RX.bl _)⟩
          | some d =>
            rw [el] at hz
            obtain ⟨u, v, e1', r1, r2⟩ := hz
            simp only [el] at h
            exact ⟨z, some u, rfl, e1', h ρ1 H1 _ .refl rg1 (RX.bl _)⟩
        | _ => exact h.elim
    cases n with
    | false =>
      refine ⟨fun pins s σ H Q I h => (pe_cmpR (op_in_kd D) ha pe rfl).run pins s σ H Q I ?_⟩
      obtain ⟨ρ, L, g, rl, rg, h⟩ := go h
      refine ⟨ρ, L, g, rl, rg, h.imp fun v H1 ⟨z, r, e, hz, q⟩ => ⟨toS z, r, e, rfl, hz, ?_⟩⟩
      cases r <;> exact q
    | true =>
      refine ⟨fun pins s σ H Q I h => (pe_cmpR (op_notIn_kd D) ha pe rfl).run pins s σ H Q I ?_⟩
      obtain ⟨ρ, L, g, rl, rg, h⟩ := go h
      refine ⟨ρ, L, g, rl, rg, h.imp fun v H1 ⟨z, r, e, hz, q⟩ => ⟨toS z, r, e, rfl, hz, ?_⟩⟩
      cases r <;> exact q
/-- x in X, x not in X, as a test -/
theorem t_gin {n : Bool} {q : Nat} {x : Str} {p : Pos} (G : Good T pl k N sc W X) (hx : pl.nm.gls[q]? = some x) (hg : Gl X x) (hdb : (x == ("__debug__" : Str)) = false) (ha : PE X a (tE T pl X.K k W ia)) :
    PT X (.Compare a [if n then .NotIn else .In] [.Name x p] pos) (tT T pl X.K k W (.gin n q ia)) := by
  cases hd : T.gd q with
  | none =>
    refine ⟨fun pins s σ H Q I h => False.elim ?_⟩
    obtain ⟨ρ, L, g, rl, rg, h⟩ := h
    rw [ev, hd] at h
    exact h
  | some kvs =>
    obtain ⟨d, gd, pe⟩ := pe_gd (p := p) G hx hd hg hdb
    obtain ⟨low, es, nn, lk, kl, al⟩ := gd
    have D : KDict X.K X.w d es nn := ⟨lk, kl, low⟩
    have go : ∀ {σ : L2.St} {H : Hp} {Q : Bool → Hp → Prop}, tT T pl X.K k W (.gin n q ia) σ H Q → tE T pl X.K k W ia σ H fun v H1 => ∃ z r, v = .str (toS z) ∧ PySem.W.nsIn X.K d (toS z) = some r ∧ Q (r.isSome != n) H1 := by
      intro σ H Q h
      obtain ⟨ρ, L, g, rl, rg, h⟩ := h
      rw [ev, hd] at h
      refine ⟨ρ, L, g, rl, rg, (Po.bind (Rel := relX X.K) since_B (tT_bind h)).imp fun u H1 ⟨ρ1, y, g1, e1, rg1, ry, h⟩ => ?_⟩
      cases y with
      | tmp xs => exact h.elim
      | d y =>
        cases y with
        | str z =>
          obtain rfl := rx_str ry
          have hz := al z
          cases el : kvs.lookup z with
          | none =>
            rw [el] at hz
            simp only [el] at h
            exact ⟨z, none, rfl, hz, h ρ1 H1 _ .refl rg1 rfl⟩
          | some d =>
            rw [el] at hz
            obtain ⟨u, v, e1', r1, r2⟩ := hz
            simp only [el] at h
            exact ⟨z, some u, rfl, e1', h ρ1 H1 _ .refl rg1 rfl⟩
        | _ => exact h.elim
    cases n with
    | false =>
      refine ⟨fun pins s σ H Q I h => (pt_cmpR (op_in_kd D) ha pe rfl).run pins s σ H Q I ?_⟩
      obtain ⟨ρ, L, g, rl, rg, h⟩ := go h
      refine ⟨ρ, L, g, rl, rg, h.imp fun v H1 ⟨z, r, e, hz, q⟩ => ⟨toS z, r, e, rfl, hz, _, rfl, ?_⟩⟩
      cases r <;> exact q
    | true =>
      refine ⟨fun pins s σ H Q I h => (pt_cmpR (op_notIn_kd D) ha pe rfl).run pins s σ H Q I ?_⟩
      obtain ⟨ρ, L, g, rl, rg, h⟩ := go h
      refine ⟨ρ, L, g, rl, rg, h.imp fun v H1 ⟨z, r, e, hz, q⟩ => ⟨toS z, r, e, rfl, hz, _, rfl, ?_⟩⟩
      cases r <;> exact q
/-- X.get(e, d) -/
theorem s_gget {q : Nat} {x : Str} {p apos : Pos} (C0 : Calm k X) (G : Good T pl k N sc W X) (hx : pl.nm.gls[q]? = some x) (hg : Gl X x) (hdb : (x == ("__debug__" : Str)) = false) (ha : PE X a (tE T pl X.K k W ia)) (hb : PE X b (tE T pl X.K k W ib)) (hl : (apos.endLine == pos.line) = true)
    (s1 : ∀ r, starEach (a :: r) X.env = (false, eval a X.env) :: starEach r X.env) (s2 : ∀ r, starEach (b :: r) X.env = (false, eval b X.env) :: starEach r X.env) :
    PE X (.Call (.Attribute (.Name x p) "get" apos) [a, b] [] pos) (tE T pl X.K k W (.gget q ia ib)) := by
  cases hd : T.gd q with
  | none =>
    refine ⟨fun pins s σ H Q I h => False.elim ?_⟩
    obtain ⟨ρ, L, g, rl, rg, h⟩ := h
    rw [ev, hd] at h
    exact h
  | some kvs =>
    obtain ⟨dd, gd, pe⟩ := pe_gd (p := p) G hx hd hg hdb
    obtain ⟨low, es, nn, lk, kl, al⟩ := gd
    have ht : (backTo pos (starEach [a, b] X.env)) = [(false, eval a X.env), (false, eval b X.env)] := by rw [s1, s2]; rfl
    have few : ((backTo pos (starEach [a, b] X.env)).all (fun x => !x.1) && (backToKw pos (keywordEach [] X.env)).all (fun x => x.1.isSome)
      && decide (([a, b] : List Expr).length + ([] : List Keyword).length + (if ([] : List Keyword).isEmpty then 0 else 1) < 30)) = true := by rw [ht]; rfl
    refine ⟨fun pins s σ H Q I h => ?_⟩
    obtain ⟨ρ, L, g, rl, rg, h⟩ := h
    rw [ev, hd] at h
    refine wpAny_Call_method rfl few hl PySem.F.plainAttrs_dict PySem.F.slot_dict_get PySem.F.type_dict_get (thn (pe.run pins s σ H (fun v H1 => v = .ref dd ∧ H1 = H) I ⟨rfl, rfl⟩) fun u t1 ⟨v, H1, I1, rv, ev', eH⟩ => ?_)
    subst ev' eH
    obtain rfl : u = Value.ref dd := rv
    have hm := PySem.W.mapOf_K (prog := X.prog) (w := X.w) I1.kIn lk kl
    have hob : ∀ a, Value.ref dd = .ref a → ∃ ob, t1.heap.get? a = some ob ∧ ob.dict = none := fun a e => by
      cases e
      exact ⟨_, I1.kIn _ _ lk, rfl⟩
    refine ⟨hm.typeIs, hob, ?_⟩
    rw [ht]
    refine Calls.callWith_builtin rfl (Calls.evalArgs_plain (Calls.spliced_cons (thn ((s_lay ha).run pins t1 σ H1 _ I1 ⟨ρ, L, g, rl, rg, (h.bind (Rel := relD X.K) since_X)⟩) fun iv t2 ⟨y, H2, I2, ry, ρ2, dy, g2, e2, rg2, rdy, h2⟩ =>
      Calls.spliced_cons (thn ((s_lay hb).run pins t2 σ H2 _ I2 ⟨ρ2, L, g2, rl.mono e2, rg2, (h2.bind (Rel := relD X.K) since_X)⟩) fun fv t3 ⟨z, H3, I3, rz, ρ3, dz, g3, e3, rg3, rdz, h3⟩ => Calls.spliced_nil ?_))))
    cases dy with
    | str tx =>
      obtain rfl := rv_str rdy
      have hz := al tx
      obtain ⟨tk, rfl⟩ := ry
      have hm3 := PySem.W.mapOf_K (prog := X.prog) (w := X.w) I3.kIn lk kl
      refine call_meetsIn PySem.F.slot_dict_get hm3.typeIs PySem.F.entry_dict_get (PySem.F.args_dict_get_3 _ _ _) (meets_dict_get_default (strKind X.prog X.w) dd (strKind_is X.prog X.w (toS tx) tk) low fv) ⟨_, hm3, ?_⟩
      cases el : kvs.lookup tx with
      | none =>
        rw [el] at hz
        rw [PySem.W.find_K lk hz]
        simp only [el, Option.getD_none] at h3
        exact ⟨z, H3, I3.tok _, rz, h3 ρ3 H3 z .refl rg3 rdz⟩
      | some d =>
        rw [el] at hz
        obtain ⟨u, v, e1', r1, r2⟩ := hz
        rw [PySem.W.find_K lk e1']
        simp only [el, Option.getD_some] at h3
        exact ⟨v, H3, I3.tok _, r1, h3 ρ3 H3 v .refl rg3 (r2 ρ3 H3)⟩
    | _ => exact h3.elim
end
end Sd
set_option Elab.async false
set_option linter.all false
set_option maxRecDepth 100000
set_option maxHeartbeats 1000000
/-! SndC: written dicts. -/
namespace Py
theorem R.bind_assoc {α β γ : Type} (r : R α) (f : α → G → R β) (h : β → G → R γ) : (r.bind f).bind h = r.bind fun a g => (f a g).bind h := by
  cases r <;> rfl
theorem evens_len {α : Type} : ∀ (n : Nat) (l : List α), l.length = 2 * n → (evens l).length = n ∧ (odds l).length = n
  | 0, l, h => by
    have : l = [] := List.eq_nil_of_length_eq_zero (by omega)
    subst this
    exact ⟨rfl, rfl⟩
  | n + 1, l, h => by
    rcases l with _ | ⟨a, _ | ⟨b, r⟩⟩
    · simp at h
    · simp at h
      omega
    · simp only [List.length_cons] at h
      obtain ⟨h1, h2⟩ := evens_len n r (by omega)
      simp [evens, odds, h1, h2]
end Py
namespace Sd
open PySem PySem.Spec PyProof.Rows L2 Py
def pairs {α : Type} : List α → List (α × α)
  | a :: b :: r => (a, b) :: pairs r
  | _ => []
section
variable {T : Tb} {pl : Pl} {X : Cx} {k : Nat} {N : List Str} {sc : Scope} {W : WX} {ia ib ic : E} {ie : Es} {a b c : Expr} {pos : Pos} {ks : List (Option Expr)} {vs : List Expr}
/-- the keys and values of a display -/
structure PKV (T : Tb) (pl : Pl) (k : Nat) (W : WX) (X : Cx) (pos : Pos) (ks : List (Option Expr)) (vs : List Expr) (ie : Es) : Prop where
  run : ∀ (pins : List (Addr × Obj)) (s : Shared) (σ : L2.St) (H : Hp) (Q : List V → Hp → Prop), Inv X pins σ H s → tEs T pl X.K k W ie σ H Q →
    wpAny (model X.prog X.w) X.A (evalPairs (pairTrees ks vs X.env pos)) (fun ws s' => ∃ us H', Inv X pins σ H' s' ∧ VV (pairs us) ws ∧ Q us H') X.xe s
theorem kv_nil : PKV T pl k W X pos [] [] .nil := ⟨fun pins s σ H Q I h => pairTrees_nil_walk ⟨[], H, I, .nil, by
  obtain ⟨ρ, L, g, rl, rg, h⟩ := h
  rw [evs] at h
  exact h ρ H [] .refl rg .nil⟩⟩
theorem kv_cons (ha : PE X a (tE T pl X.K k W ia)) (hb : PE X b (tE T pl X.K k W ib)) (hr : PKV T pl k W X pos ks vs ie) : PKV T pl k W X pos (some a :: ks) (b :: vs) (.cons ia (.cons ib ie)) := ⟨fun pins s σ H Q I h => by
  obtain ⟨ρ, L, g, rl, rg, h⟩ := h
  rw [evs] at h
  refine pairTrees_cons_walk (thn ((s_lay ha).run pins s σ H _ I ⟨ρ, L, g, rl, rg, h.bind (Rel := relD X.K) since_Ds⟩) fun u s1 ⟨x, H1, I1, rx, ρ1, d, g1, e1, rg1, rd, h1⟩ => ?_)
  rw [evs, R.bind_assoc] at h1
  refine thn ((s_lay hb).run pins s1 σ H1 _ I1 ⟨ρ1, L, g1, rl.mono e1, rg1, h1.bind (Rel := relD X.K) since_Ds⟩) fun u2 s2 ⟨y, H2, I2, ry, ρ2, d2, g2, e2, rg2, rd2, h2⟩ => ?_
  rw [R.bind_assoc] at h2
  refine thn (hr.run pins s2 σ H2 _ I2 ⟨ρ2, L, g2, (rl.mono e1).mono e2, rg2, h2.bind (Rel := relDs X.K) since_Ds⟩) fun ws s3 ⟨us, H3, I3, rel, ρ3, ds, g3, e3, rg3, rds, h3⟩ => ?_
  exact ⟨x :: y :: us, H3, I3, .cons ⟨rx, ry⟩ rel, h3 ρ3 H3 _ .refl rg3 (.cons ((rd.mono e2).mono e3) (.cons (rd2.mono e3) rds))⟩⟩

/-! ### stores one after another -/
section
variable {pins : List (Addr × Obj)} {σ : L2.St} {p : Addr} {A : Around} {E : Value → Shared → Prop}
theorem store_nil {s : Shared} {Q : PUnit → Shared → Prop} {M : Model} (h : Q PUnit.unit s) : wpAny M A (storeAll p []) Q E s := by
  unfold storeAll
  rw [List.forIn_nil]
  exact wpAny_pure h
theorem store_cons {s : Shared} {Q : PUnit → Shared → Prop} {M : Model} {x : Value × Value} {vs : List (Value × Value)} (h : wpAny M A (dictSet p x.1 x.2) (fun _ s1 => wpAny M A (storeAll p vs) Q E s1) E s) : wpAny M A (storeAll p (x :: vs)) Q E s := by
  unfold storeAll
  rw [List.forIn_cons]
  refine wpAny_bind (wpAny_bind (wpAny_mono h (fun _ s1 h1 => wpAny_pure ?_) fun _ _ e => e))
  unfold storeAll at h1
  exact h1
theorem stores_k : ∀ (more : List (Key × V)) {ws : List (Value × Value)} {kvs : List (Key × V)} {H : Hp} {s : Shared} {Q : PUnit → Shared → Prop}, Inv X pins σ H s → H p = some (.dK kvs) → VV (more.map fun q => (kV q.1, q.2)) ws → kvs.length + more.length ≤ 1000 →
    (∀ s', Inv X pins σ (upd H p (.dK (mergeK kvs more))) s' → Q PUnit.unit s') → wpAny (model X.prog X.w) A (storeAll p ws) Q E s
  | [], ws, kvs, H, s, Q, I, e, r, _, h => by
    rw [List.map_nil] at r
    cases r
    refine store_nil (h s ?_)
    have : upd H p (.dK (mergeK kvs [])) = H := by
      funext b
      by_cases hb : b = p
      · subst hb
        rw [upd_same]
        exact e.symm
      · rw [upd_ne hb]
    rw [this]
    exact I
  | q :: more, ws, kvs, H, s, Q, I, e, r, hl, h => by
    rw [List.map_cons] at r
    cases r with
    | @cons a b as bs hh t =>
      obtain ⟨r1, r2⟩ := hh
      obtain ⟨z, hd, vs0, rel, dd⟩ := dk_of I.hok e
      rw [List.length_cons] at hl
      refine store_cons (wpAny_dictSet_pairs (hsz := by rw [← rel.length]; exact z) (kV_is r1) dd fun h' dd' hs => ?_)
      have hz : (L2.putK kvs q.1 q.2).length ≤ sizeLine := by
        have := length_putK kvs q.1 q.2
        rw [sizeLine_eq]
        omega
      have I2 := d_write (t' := s.toks + 1) (ob := .dK (L2.putK kvs q.1 q.2)) I (by rw [e]; exact True.intro) hs (let ⟨o, _, _, ho, _⟩ := dd'; ⟨o, ho⟩) (dk_new hz hd (rel.put q.1 r2) dd')
      refine stores_k more I2 upd_same t (by have := length_putK kvs q.1 q.2; omega) fun s' I' => h s' ?_
      rw [show upd H p (.dK (mergeK kvs (q :: more))) = upd (upd H p (.dK (L2.putK kvs q.1 q.2))) p (.dK (mergeK (L2.putK kvs q.1 q.2) more)) from ?_]
      · exact I'
      · funext c
        by_cases hc : c = p
        · subst hc
          rw [upd_same, upd_same]
          rfl
        · rw [upd_ne hc, upd_ne hc, upd_ne hc]
def mergeT (kvs more : List (List Key × V)) : List (List Key × V) := more.foldl (fun acc kv => L2.putK acc kv.1 kv.2) kvs
/-- keys that are tuples -/
def TKeys (H : Hp) : List (V × V) → List (List Key × V) → Prop
  | [], [] => True
  | (x, v) :: r, (ks, v') :: q => (∃ b, x = .ref b ∧ H b = some (.tup (ks.map kV))) ∧ v' = v ∧ TKeys H r q
  | _, _ => False
theorem TKeys.upd {H : Hp} {u : HO} (hp : ∀ xs, H p ≠ some (.tup xs)) : ∀ {l : List (V × V)} {m : List (List Key × V)}, TKeys H l m → TKeys (upd H p u) l m
  | [], [], h => h
  | [], _ :: _, h => h
  | _ :: _, [], h => h
  | (x, v) :: r, (ks, v') :: q, h => by
    obtain ⟨⟨b, e1, e2⟩, e3, h⟩ := h
    exact ⟨⟨b, e1, by rw [upd_ne (fun z => hp _ (z ▸ e2))]; exact e2⟩, e3, TKeys.upd hp h⟩
theorem stores_t (hu : A.units < cLine) : ∀ (more : List (List Key × V)) {ps : List (V × V)} {ws : List (Value × Value)} {kvs : List (List Key × V)} {H : Hp} {s : Shared} {Q : PUnit → Shared → Prop}, Inv X pins σ H s → H p = some (.dT kvs) → TKeys H ps more → VV ps ws → kvs.length + more.length ≤ 1000 →
    (∀ s', Inv X pins σ (upd H p (.dT (mergeT kvs more))) s' → Q PUnit.unit s') → wpAny (model X.prog X.w) A (storeAll p ws) Q E s
  | [], ps, ws, kvs, H, s, Q, I, e, tk, r, _, h => by
    cases ps with
    | cons _ _ => exact tk.elim
    | nil =>
      cases r
      refine store_nil (h s ?_)
      have : upd H p (.dT (mergeT kvs [])) = H := by
        funext b
        by_cases hb : b = p
        · subst hb
          rw [upd_same]
          exact e.symm
        · rw [upd_ne hb]
      rw [this]
      exact I
  | q :: more, ps, ws, kvs, H, s, Q, I, e, tk, r, hl, h => by
    cases ps with
    | nil => exact tk.elim
    | cons x ps =>
      obtain ⟨⟨tb, e1, e2⟩, e3, tk⟩ := tk
      cases r with
      | @cons a b as bs hh t =>
        obtain ⟨r1, r2⟩ := hh
        rw [e1] at r1
        rw [← e3] at r2
        obtain ⟨b1, b2⟩ := b
        obtain rfl : b1 = Value.ref tb := r1
        obtain ⟨z, hd, xs, rel, dd⟩ := dt_of I.hok e
        rw [List.length_cons] at hl
        refine store_cons (wpAny_dictSet_heap (hsz := by rw [← Paired.length rel]; exact z) (knd := tupleKind (mixKind X.prog X.w)) hu (key_of I.hok e2) dd fun h' dd' hs => ?_)
        have hz : (L2.putK kvs q.1 q.2).length ≤ sizeLine := by
          have := length_putK kvs q.1 q.2
          rw [sizeLine_eq]
          omega
        have ne : ∀ ys, H p ≠ some (.tup ys) := fun ys z => by rw [e] at z; cases z
        obtain ⟨o, es, ep, hq, g2, g3, g4, _, g5⟩ := dd'
        have I2 := d_write (t' := s.toks + (tupleKind (mixKind X.prog X.w)).draws q.1) (ob := .dT (L2.putK kvs q.1 q.2)) I (by rw [e]; exact True.intro) hs ⟨o, hq⟩ ⟨hz, hd, _, (rel.put q.1 e2 r2).keeps fun c ys ec => by rw [upd_ne (ne_of ec e (fun z => nomatch z))]; exact ec, o, es, ep, hq, g2, g3, g4, g5⟩
        refine stores_t hu more I2 upd_same (TKeys.upd ne tk) t (by have := length_putK kvs q.1 q.2; omega) fun s' I' => h s' ?_
        rw [show L2.upd H p (.dT (mergeT kvs (q :: more))) = L2.upd (L2.upd H p (.dT (L2.putK kvs q.1 q.2))) p (.dT (mergeT (L2.putK kvs q.1 q.2) more)) from ?_]
        · exact I'
        · funext c
          by_cases hc : c = p
          · subst hc
            rw [upd_same, upd_same]
            rfl
          · rw [upd_ne hc, upd_ne hc, upd_ne hc]
end

theorem pairs_zip {α : Type} : ∀ (n : Nat) (l : List α), l.length = 2 * n → pairs l = (evens l).zip (odds l)
  | 0, l, h => by
    have : l = [] := List.eq_nil_of_length_eq_zero (by omega)
    subst this
    rfl
  | n + 1, l, h => by
    rcases l with _ | ⟨a, _ | ⟨b, r⟩⟩
    · simp at h
    · simp at h; omega
    · simp only [List.length_cons] at h
      simp [pairs, evens, odds, pairs_zip n r (by omega)]
section
variable {K : PySem.W.Frag} {ρ : List Addr} {H : Hp}
theorem rvs_eo : ∀ (n : Nat) {ds : List D} {us : List V}, ds.length = 2 * n → RVs K ρ H ds us → RVs K ρ H (evens ds) (evens us) ∧ RVs K ρ H (odds ds) (odds us)
  | 0, ds, us, h, r => by
    have : ds = [] := List.eq_nil_of_length_eq_zero (by omega)
    subst this
    rw [RVs] at r
    subst r
    exact ⟨.nil, .nil⟩
  | n + 1, ds, us, h, r => by
    rcases ds with _ | ⟨a, _ | ⟨b, ds⟩⟩
    · simp at h
    · simp at h; omega
    · simp only [List.length_cons] at h
      rw [RVs] at r
      obtain ⟨v, vr, rfl, q, r⟩ := r
      rw [RVs] at r
      obtain ⟨v2, vr2, rfl, q2, r⟩ := r
      obtain ⟨h1, h2⟩ := rvs_eo n (by omega) r
      exact ⟨.cons q h1, .cons q2 h2⟩
theorem merge_ok {κ κ' : Type} [DecidableEq κ] [DecidableEq κ'] (f : κ → κ') (inj : ∀ a b, f a = f b → a = b) : ∀ {more : List (κ × D)} {mv : List (κ' × V)} {kvs : List (κ × D)} {vs : List (κ' × V)}, mv.map (·.1) = more.map (fun p => f p.1) → RVs K ρ H (more.map (·.2)) (mv.map (·.2)) → vs.map (·.1) = kvs.map (fun p => f p.1) → RVs K ρ H (kvs.map (·.2)) (vs.map (·.2)) →
    (mv.foldl (fun acc q => L2.putK acc q.1 q.2) vs).map (·.1) = (more.foldl (fun acc q => Py.putK q.1 q.2 acc) kvs).map (fun p => f p.1) ∧ RVs K ρ H ((more.foldl (fun acc q => Py.putK q.1 q.2 acc) kvs).map (·.2)) ((mv.foldl (fun acc q => L2.putK acc q.1 q.2) vs).map (·.2))
  | [], mv, kvs, vs, h1, h2, h3, h4 => by
    have : mv = [] := by simpa using h1
    subst this
    exact ⟨h3, h4⟩
  | p :: more, mv, kvs, vs, h1, h2, h3, h4 => by
    cases mv with
    | nil => simp at h1
    | cons q mv =>
      simp only [List.map_cons, List.cons.injEq] at h1
      simp only [List.map_cons] at h2
      rw [RVs] at h2
      obtain ⟨v, vr, e, r1, r2⟩ := h2
      simp only [List.cons.injEq] at e
      obtain ⟨rfl, rfl⟩ := e
      obtain ⟨p1, p2⟩ := putK_ok f inj p.1 r1 h3 h4
      simp only [List.foldl_cons]
      rw [h1.1]
      exact merge_ok f inj h1.2 r2 p1 p2
theorem zip_fst {α β : Type} : ∀ {a : List α} {b : List β}, a.length = b.length → (a.zip b).map (·.1) = a ∧ (a.zip b).map (·.2) = b
  | [], [], _ => ⟨rfl, rfl⟩
  | [], _ :: _, h => by simp at h
  | _ :: _, [], h => by simp at h
  | x :: a, y :: b, h => by
    obtain ⟨h1, h2⟩ := zip_fst (a := a) (b := b) (by simpa using h)
    simp [h1, h2]
theorem keysOf_len : ∀ {ds : List D} {ks : List KY}, keysOf ds = some ks → ks.length = ds.length
  | [], ks, h => by cases h; rfl
  | d :: ds, ks, h => by
    simp only [keysOf] at h
    split at h
    · rename_i k ks' h1 h2
      cases h
      simp [keysOf_len h2]
    · cases h
theorem keyss_len : ∀ {ds : List D} {ks : List (List KY)}, keyss ds = some ks → ks.length = ds.length
  | [], ks, h => by cases h; rfl
  | d :: ds, ks, h => by
    cases d with
    | tup xs =>
      simp only [keyss] at h
      split at h
      · rename_i k ks' h1 h2
        cases h
        simp [keyss_len h2]
      · cases h
    | _ => cases h
theorem tkeys_ok : ∀ {ds es : List D} {us ws : List V} {ks : List (List KY)}, keyss ds = some ks → RVs K ρ H ds us → us.length = ws.length → TKeys H (us.zip ws) ((ks.map fun k => k.map kyT).zip ws)
  | [], _, us, ws, ks, h, r, hl => by
    cases h
    rw [RVs] at r
    subst r
    exact trivial
  | d :: ds, es, us, ws, ks, h, r, hl => by
    cases d with
    | tup xs =>
      simp only [keyss] at h
      split at h
      · rename_i k ks' h1 h2
        cases h
        rw [RVs] at r
        obtain ⟨v, vr, rfl, q, r⟩ := r
        cases ws with
        | nil => simp at hl
        | cons w ws =>
          obtain ⟨b, ys, rfl, hb, qb⟩ := rv_tup q
          rw [keysOf_ok qb h1] at hb
          exact ⟨⟨b, rfl, hb⟩, rfl, tkeys_ok (es := es) h2 r (by simpa using hl)⟩
      · cases h
    | _ => cases h
end
theorem dk_at {P : Program} {w : World} {K : PySem.W.Frag} {ρ ρ2 : List Addr} {H H2 : Hp} {g g1 : G} {p : Addr} {o : Ob} {u u0 : HO} (n : H p = none) (rg : RG pl K ρ H g) (e : Ext ρ ρ2 (upd H p u0) H2) (rg2 : RG pl K ρ2 H2 g1) (mu : (∀ xs, u0 ≠ .tup xs) ∧ ∀ a b, u0 ≠ .frz a b)
    (ro : ∀ H', Mon K ρ2 ρ2 H2 H' → H' p = some u → RO pl K ρ2 H' p o) : H2 p = some u0 ∧ Ext ρ (ρ2 ++ [p]) H (upd H2 p u) ∧ RG pl K (ρ2 ++ [p]) (upd H2 p u) (g1 ++ [o]) := by
  have np : p ∉ ρ := rg.mem_ne n
  have h2 : H2 p = some u0 := e.keep p u0 upd_same np
  have np2 : p ∉ ρ2 := e.nmem upd_same np
  have x : Ext ρ ρ2 H H2 := (Ext.fresh n).trans e
  have m1 : ∀ xs, H2 p ≠ some (.tup xs) := fun xs z => by rw [h2] at z; cases z; exact mu.1 _ rfl
  have m2 : ∀ a b, H2 p ≠ some (.frz a b) := fun a b z => by rw [h2] at z; cases z; exact mu.2 _ _ rfl
  have mo : Mon K ρ2 ρ2 H2 (upd H2 p u) := by
    refine ⟨fun _ _ h => h, fun a xs h => by rw [upd_ne (fun z : a = p => m1 xs (by rw [← z]; exact h))]; exact h, fun a xs h => ?_, fun a xs h => ?_⟩
    · rcases h with (h | ⟨o, h⟩) | h
      · exact .inl (.inl (by rw [upd_ne (fun z : a = p => m1 xs (by rw [← z]; exact h))]; exact h))
      · exact .inl (.inr ⟨o, by rw [upd_ne (fun z : a = p => m2 _ _ (by rw [← z]; exact h))]; exact h⟩)
      · exact .inr h
    · rcases h with ⟨o, h⟩ | h
      · exact .inl ⟨o, by rw [upd_ne (fun z : a = p => m2 _ _ (by rw [← z]; exact h))]; exact h⟩
      · exact .inr h
  have rg3 : RG pl K ρ2 (upd H2 p u) g1 := rg2.mon mo fun a ha => upd_ne fun z : a = p => np2 (z ▸ ha)
  exact ⟨h2, Ext.push n (x.over n), rg3.push np2 (ro _ mo upd_same)⟩
theorem s_dic (hu : X.A.units + 66 < cLine) (hall : ks.all (·.isSome) = true) (hl : ks.length = vs.length) (h15 : ks.length ≤ 15) (h0 : ks ≠ []) (hkv : PKV T pl k W X pos ks vs ie) : PE X (.Dict ks vs pos) (tE T pl X.K k W (.dic ie)) := by
  refine ⟨fun pins s σ H Q I h => ?_⟩
  obtain ⟨ρ, L, g, rl, rg, h⟩ := h
  rw [ev] at h
  have hn := I.hok.fresh (Nat.le_refl s.heap.objs.size)
  have Ik := I.laid (a := s.heap.objs.size) (o := .dK []) (h' := s.heap.push { cls := .type "dict", data := .dict #[] }) (t' := s.toks) (fun _ _ q => Heap.get?_push_of_some _ q) (Nat.le_refl _) (dk_empty s.heap I.big)
  have It := I.laid (a := s.heap.objs.size) (o := .dT []) (h' := s.heap.push { cls := .type "dict", data := .dict #[] }) (t' := s.toks) (fun _ _ q => Heap.get?_push_of_some _ q) (Nat.le_refl _) (dt_empty s.heap I.big)
  refine wpAny_Dict_any hall hl h0 h15 ?_
  generalize s.heap.objs.size = p at hn Ik It ⊢
  cases hr : evs T (runF T k) ie L g with
  | bad => rw [hr] at h; exact h.elim
  | ex x g1 =>
    rw [hr] at h
    refine wpAny_mono (hkv.run pins _ σ _ (fun _ _ => False) Ik ⟨ρ, L, g, rl.mono (.fresh hn), rg.fresh hn, ?_⟩) (fun ws s2 ⟨us, H2, I2, rel, z⟩ => z.elim) fun _ _ e => e
    rw [hr]
    exact fun ρ' H' e rg' => h ρ' H' ((Ext.fresh hn).trans e) rg'
  | ok ds g1 =>
    rw [hr] at h
    have h : Po pl X.K (relX X.K) ρ H (wish pl W σ) Q (match dicOf (evens ds) (odds ds) with
      | some o => .ok (.d (.ref g1.length)) (g1 ++ [o])
      | none => .bad) := h
    unfold dicOf at h
    split at h
    · rename_i o hd
      split at hd
      · rename_i hlen
        have fin : ∀ {ρ2 : List Addr} {H3 : Hp}, Ext ρ (ρ2 ++ [p]) H H3 → RG pl X.K (ρ2 ++ [p]) H3 (g1 ++ [o]) → Q (.ref p) H3 := fun {ρ2 H3} e rg' => h _ H3 _ e rg' (RX.ref (by
          have := rg'.len
          simp only [List.length_append, List.length_cons, List.length_nil] at this
          rw [← show ρ2.length = g1.length from by omega, List.getElem?_concat_length]))
        have len2 : ∃ n, ds.length = 2 * n ∧ n ≤ 15 := by
          obtain ⟨l1, l2, l3⟩ := hlen
          clear h hd hr fin
          refine ⟨(odds ds).length, ?_, by omega⟩
          have : ∀ l : List D, (evens l).length = (odds l).length → l.length = 2 * (odds l).length := by
            intro l
            induction l using evens.induct with
            | case1 x y r ih =>
              intro z
              simp only [evens, odds, List.length_cons] at z ⊢
              have := ih (by omega)
              omega
            | case2 r hne =>
              intro z
              rcases r with _ | ⟨a, _ | ⟨b, r⟩⟩
              · rfl
              · simp [evens, odds] at z
              · exact absurd rfl (hne a b r)
          exact this ds l1
        obtain ⟨n, en, hn15⟩ := len2
        split at hd
        · rename_i kk ek
          cases hd
          refine wpAny_mono (hkv.run pins _ σ _ (fun us H2 => ∃ ρ2, Ext ρ ρ2 (upd H p (.dK [])) H2 ∧ RG pl X.K ρ2 H2 g1 ∧ RVs X.K ρ2 H2 ds us) Ik ⟨ρ, L, g, rl.mono (.fresh hn), rg.fresh hn, ?_⟩) (fun ws s2 ⟨us, H2, I2, rel, ρ2, e2, rg2, rv2⟩ => ?_) fun _ _ e => e
          · rw [hr]
            exact fun ρ' H' us e rg' r => ⟨ρ', e, rg', r⟩
          · obtain ⟨re, ro⟩ := rvs_eo n en rv2
            have lu : us.length = 2 * n := by rw [rv2.len]; exact en
            have le := evens_len n us lu
            have lk := keysOf_len ek
            rw [(evens_len n ds en).1] at lk
            have ekk := keysOf_ok re ek
            have hpz : pairs us = ((kk.map kyT).zip (odds us)).map fun q => (kV q.1, q.2) := by
              rw [pairs_zip n us lu, ekk, List.zip_map_left]
              rfl
            rw [hpz] at rel
            have z1 := zip_fst (a := kk.map kyT) (b := odds us) (by simp [le.2, lk])
            have z2 := zip_fst (a := kk) (b := odds ds) (by rw [(evens_len n ds en).2]; exact lk)
            obtain ⟨m1, m2⟩ := merge_ok kyT (fun _ _ => kyT_inj) (more := kk.zip (odds ds)) (mv := (kk.map kyT).zip (odds us)) (kvs := []) (vs := []) (by rw [z1.1, show (fun p : KY × D => kyT p.1) = kyT ∘ (·.1) from rfl, ← List.map_map, z2.1]) (by rw [z1.2, z2.2]; exact ro) rfl .nil
            obtain ⟨q1, q2, q3⟩ := dk_at (P := X.prog) (w := X.w) (u := .dK (mergeK [] ((kk.map kyT).zip (odds us)))) (o := .dk (mergeL [] (kk.zip (odds ds)))) hn rg e2 rg2 ⟨fun _ z => (by cases z), fun _ _ z => (by cases z)⟩ fun H' mo e => ⟨_, e, m1, m2.by_ mo⟩
            refine stores_k _ I2 q1 rel (by simp [le.2, lk]; omega) fun s' I' => ⟨.ref p, _, I', rfl, fin q2 q3⟩
        · split at hd
          · rename_i ek0 kk ek
            cases hd
            refine wpAny_mono (hkv.run pins _ σ _ (fun us H2 => ∃ ρ2, Ext ρ ρ2 (upd H p (.dT [])) H2 ∧ RG pl X.K ρ2 H2 g1 ∧ RVs X.K ρ2 H2 ds us) It ⟨ρ, L, g, rl.mono (.fresh hn), rg.fresh hn, ?_⟩) (fun ws s2 ⟨us, H2, I2, rel, ρ2, e2, rg2, rv2⟩ => ?_) fun _ _ e => e
            · rw [hr]
              exact fun ρ' H' us e rg' r => ⟨ρ', e, rg', r⟩
            · obtain ⟨re, ro⟩ := rvs_eo n en rv2
              have lu : us.length = 2 * n := by rw [rv2.len]; exact en
              have le := evens_len n us lu
              have lk := keyss_len ek
              rw [(evens_len n ds en).1] at lk
              have tk := tkeys_ok (es := []) (ws := odds us) ek re (by rw [le.1, le.2])
              rw [← pairs_zip n us lu] at tk
              have z1 := zip_fst (a := kk.map fun k : List KY => k.map kyT) (b := odds us) (by simp [le.2, lk])
              have z2 := zip_fst (a := kk) (b := odds ds) (by rw [(evens_len n ds en).2]; exact lk)
              obtain ⟨m1, m2⟩ := merge_ok (fun ks : List KY => ks.map kyT) (fun _ _ => kyTs_inj) (more := kk.zip (odds ds)) (mv := (kk.map fun k : List KY => k.map kyT).zip (odds us)) (kvs := []) (vs := []) (by rw [z1.1, show (fun p : List KY × D => p.1.map kyT) = (fun k : List KY => k.map kyT) ∘ (·.1) from rfl, ← List.map_map, z2.1]) (by rw [z1.2, z2.2]; exact ro) rfl .nil
              obtain ⟨q1, q2, q3⟩ := dk_at (P := X.prog) (w := X.w) (u := .dT (mergeT [] ((kk.map fun k : List KY => k.map kyT).zip (odds us)))) (o := .dt (mergeL [] (kk.zip (odds ds)))) hn rg e2 rg2 ⟨fun _ z => (by cases z), fun _ _ z => (by cases z)⟩ fun H' mo e => ⟨_, e, m1, m2.by_ mo⟩
              refine stores_t (by omega) _ I2 q1 tk rel (by simp [le.2, lk]; omega) fun s' I' => ⟨.ref p, _, I', rfl, fin q2 q3⟩
          · cases hd
      · cases hd
    · exact h.elim
end
end Sd
set_option Elab.async false
set_option linter.all false
set_option maxRecDepth 100000
set_option maxHeartbeats 1000000
/-! SndZ: zip of two tuples whose pairs are kept. -/
namespace ZN
open PySem PySem.Spec PyProof.Rows L2 RZ
section
variable {prog : Program} {w : World} {A : Around} {E : Value → Shared → Prop} {s : Shared} {z TI TO T i1 i2 l1 l2 : Addr} {f : Bool} {oT : Obj} {k1 k2 : Nat} {xs ys : Array Value}
/-- the next pair while one that was handed out is still there -/
theorem body_item {x y : Value} {Q : Value → Shared → Prop} (D : ZipApart z TI TO i1 i2 l1 l2) (hz : IsZipHeld s.heap z TI TO T f) (hT : s.heap.get? T = some oT) (hTI : IsPair s.heap TI (.ref i1) (.ref i2)) (u1 : s.heap.IsTupleIter i1 l1 k1) (u2 : s.heap.IsTupleIter i2 l2 k2) (t1 : s.heap.IsTuple l1 xs) (t2 : s.heap.IsTuple l2 ys) (hx : xs[k1]? = some x) (hy : ys[k2]? = some y)
    (hQ : ∀ h', IsZipHeld h' z TI TO T true → h'.IsTupleIter i1 l1 (k1 + 1) → h'.IsTupleIter i2 l2 (k2 + 1) → IsPair h' s.heap.objs.size x y → (∀ c o, c ≠ z → c ≠ i1 → c ≠ i2 → s.heap.get? c = some o → h'.get? c = some o) → Q (.ref s.heap.objs.size) { s with heap := h' }) :
    wpAny (model prog w) A (Builtin.«zip.__next__» ⟨[.ref z], []⟩) (fun fin s' => ∃ v, fin = .done (.ret v) ∧ Q v s') E s := by
  show wpAny _ _ (field (.ref z) 2 >>= fun _ => _) _ _ s
  refine wpAny_bind (wpAny_field hz rfl (x := .bool false) rfl (show wpAny _ _ (field (.ref z) 3 >>= fun _ => _) _ _ s from wpAny_bind (wpAny_field hz rfl (x := .ref TI) rfl (wpAny_bind (wpAny_seqItems hTI rfl
    (show wpAny _ _ (Builtin.SmallTypes.ownedTupleIsFree (.ref z) >>= fun _ => _) _ _ s from wpAny_bind (wpAny_tupleHeld_zip hz hT fun g0 z0 b0 => ?_)))))))
  simp only [Bool.false_eq_true, if_false]
  rw [← Array.forIn_toList]
  simp only [List.forIn_cons, List.forIn_nil]
  refine wpAny_bind (wpAny_bind (wpAny_bind (wpAny_holding (show wpAny _ _ (Builtin.SmallTypes.nextOf (.ref i1) >>= fun _ => _) _ _ _ from wpAny_bind (nextOf_tuple_item (s := { s with heap := g0 }) (u1.extBut b0.extBut D.i1z) (t1.extBut b0.extBut D.l1z) hx fun g1 v1 b1 => wpAny_pure (wpAny_pure ?_))))))
  refine wpAny_bind (wpAny_bind (wpAny_holding (show wpAny _ _ (Builtin.SmallTypes.nextOf (.ref i2) >>= fun _ => _) _ _ _ from wpAny_bind (nextOf_tuple_item (s := { s with heap := g1 }) ((u2.extBut b0.extBut D.i2z).extBut b1.extBut D.i12.symm) ((t2.extBut b0.extBut D.l2z).extBut b1.extBut D.l2i1) hy fun g2 v2 b2 => wpAny_pure (wpAny_pure (wpAny_pure ?_))))))
  show wpAny _ _ (newTuple [x, y] >>= fun _ => _) _ _ _
  have n0 : g2.objs.size = s.heap.objs.size := by rw [b2.1, b1.1, b0.1]
  have zz : IsZipHeld g2 z TI TO T true := b2.extBut _ _ D.i2z.symm (b1.extBut _ _ D.i1z.symm z0)
  have kk : ∀ c o, c ≠ z → c ≠ i1 → c ≠ i2 → s.heap.get? c = some o → g2.get? c = some o := fun c o c1 c2 c3 e => b2.extBut _ _ c3 (b1.extBut _ _ c2 (b0.extBut _ _ c1 e))
  have w1 : g2.IsTupleIter i1 l1 (k1 + 1) := v1.extBut b2.extBut D.i12
  refine wpAny_bind (wpAny_newTuple (wpAny_pure ⟨_, rfl, ?_⟩))
  have pp : IsPair (g2.push { cls := .type "tuple", data := .seq #[x, y] }) g2.objs.size x y := Heap.get?_push_size _ rfl
  show Q (.ref g2.objs.size) _
  rw [n0] at pp ⊢
  exact hQ _ (Heap.get?_push_of_some _ zz) (w1.at fun o e => Heap.get?_push_of_some _ e) (v2.at fun o e => Heap.get?_push_of_some _ e) pp fun c o c1 c2 c3 e => Heap.get?_push_of_some _ (kk c o c1 c2 c3 e)
theorem body_end {Q : Fin → Shared → Prop} (hh : A.handled = none) (D : ZipApart z TI TO i1 i2 l1 l2) (hz : IsZipHeld s.heap z TI TO T f) (hT : s.heap.get? T = some oT) (hTI : IsPair s.heap TI (.ref i1) (.ref i2)) (u1 : s.heap.IsTupleIter i1 l1 k1) (u2 : s.heap.IsTupleIter i2 l2 k2) (t1 : s.heap.IsTuple l1 xs) (t2 : s.heap.IsTuple l2 ys) (hend : xs[k1]? = none ∨ ys[k2]? = none)
    (hE : ∀ h' e, (∀ c o, c ≠ z → c ≠ i1 → c ≠ i2 → s.heap.get? c = some o → h'.get? c = some o) → (∃ o, h'.get? e = some o ∧ o.cls = .type "StopIteration") → E (.ref e) { s with heap := h' }) :
    wpAny (model prog w) A (Builtin.«zip.__next__» ⟨[.ref z], []⟩) Q E s := by
  show wpAny _ _ (field (.ref z) 2 >>= fun _ => _) _ _ s
  refine wpAny_bind (wpAny_field hz rfl (x := .bool false) rfl (show wpAny _ _ (field (.ref z) 3 >>= fun _ => _) _ _ s from wpAny_bind (wpAny_field hz rfl (x := .ref TI) rfl (wpAny_bind (wpAny_seqItems hTI rfl
    (show wpAny _ _ (Builtin.SmallTypes.ownedTupleIsFree (.ref z) >>= fun _ => _) _ _ s from wpAny_bind (wpAny_tupleHeld_zip hz hT fun g0 z0 b0 => ?_)))))))
  simp only [Bool.false_eq_true, if_false]
  rw [← Array.forIn_toList]
  simp only [List.forIn_cons, List.forIn_nil]
  refine wpAny_bind (wpAny_bind (wpAny_bind (wpAny_holding (show wpAny _ _ (Builtin.SmallTypes.nextOf (.ref i1) >>= fun _ => _) _ _ _ from ?_))))
  cases hx : xs[k1]? with
  | none => exact wpAny_bind (nextOf_tuple_end (s := { s with heap := g0 }) hh (u1.extBut b0.extBut D.i1z) (t1.extBut b0.extBut D.l1z) hx fun g1 e b1 he => hE g1 e (fun c o c1 c2 _ q => b1 _ _ c2 (b0.extBut _ _ c1 q)) he)
  | some x =>
    have hy : ys[k2]? = none := by
      rcases hend with h | h
      · rw [hx] at h; cases h
      · exact h
    refine wpAny_bind (nextOf_tuple_item (s := { s with heap := g0 }) (u1.extBut b0.extBut D.i1z) (t1.extBut b0.extBut D.l1z) hx fun g1 v1 b1 => wpAny_pure (wpAny_pure ?_))
    exact wpAny_bind (wpAny_bind (wpAny_holding (show wpAny _ _ (Builtin.SmallTypes.nextOf (.ref i2) >>= fun _ => _) _ _ _ from wpAny_bind (nextOf_tuple_end (s := { s with heap := g1 }) hh ((u2.extBut b0.extBut D.i2z).extBut b1.extBut D.i12.symm) ((t2.extBut b0.extBut D.l2z).extBut b1.extBut D.l2i1) hy fun g2 e b2 he =>
      hE g2 e (fun c o c1 c2 c3 q => b2 _ _ c3 (b1.extBut _ _ c2 (b0.extBut _ _ c1 q))) he))))
/-- a zip object: what it has handed out, whether that is known to be held -/
abbrev IsZ (h : Heap) (z TI TO : Addr) (f0 : Value) (fl : Bool) : Prop := h.get? z = some { cls := .type "zip", dict := none, data := .fields #[f0, .bool fl, .bool false, .ref TI, .ref TO], slots := #[] }
/-- what was handed out is gone, or nothing was -/
def Gone (h : Heap) (f0 : Value) : Prop := f0 = .none ∨ ∃ T : Addr, f0 = rawInt T ∧ h.get? T = none
theorem look_gone {a : Addr} {Q : Option Obj → Shared → Prop} (ho : s.heap.get? a = none) (h : Q none s) : wpAny (model prog w) A (loadIfAlive a) Q E s := by
  have h' : Q (s.heap.get? a) s := by rw [ho]; exact h
  exact fun _ _ _ => h'
theorem free_gone {f0 : Value} {fl : Bool} {Q : Bool → Shared → Prop} (hz : IsZ s.heap z TI TO f0 fl) (hg : Gone s.heap f0) (h : Q true s) : wpAny (model prog w) A (Builtin.SmallTypes.ownedTupleIsFree (.ref z)) Q E s := by
  unfold Builtin.SmallTypes.ownedTupleIsFree
  rcases hg with rfl | ⟨T, rfl, hT⟩
  · exact wpAny_bind (wpAny_field hz rfl (x := .none) rfl (wpAny_pure h))
  · refine wpAny_bind (wpAny_field hz rfl (x := rawInt T) rfl ?_)
    show wpAny _ _ (loadIfAlive ((T : Int).toNat) >>= fun _ => _) _ _ _
    rw [Int.toNat_natCast]
    refine wpAny_bind (look_gone hT ?_)
    simp only [Option.isNone_none, if_true]
    exact wpAny_pure h
theorem free_item {f0 : Value} {fl : Bool} {x y a b : Value} {Q : Value → Shared → Prop} (D : ZipApart z TI TO i1 i2 l1 l2) (hz : IsZ s.heap z TI TO f0 fl) (hg : Gone s.heap f0) (hTI : IsPair s.heap TI (.ref i1) (.ref i2)) (hTO : IsPair s.heap TO a b) (u1 : s.heap.IsTupleIter i1 l1 k1) (u2 : s.heap.IsTupleIter i2 l2 k2) (t1 : s.heap.IsTuple l1 xs) (t2 : s.heap.IsTuple l2 ys) (hx : xs[k1]? = some x) (hy : ys[k2]? = some y)
    (hQ : ∀ h', IsZ h' z TI TO (rawInt s.heap.objs.size) false → IsPair h' TO x y → h'.IsTupleIter i1 l1 (k1 + 1) → h'.IsTupleIter i2 l2 (k2 + 1) → IsPair h' s.heap.objs.size x y → (∀ c o, c ≠ z → c ≠ TO → c ≠ i1 → c ≠ i2 → s.heap.get? c = some o → h'.get? c = some o) → Q (.ref s.heap.objs.size) { s with heap := h' }) :
    wpAny (model prog w) A (Builtin.«zip.__next__» ⟨[.ref z], []⟩) (fun fin s' => ∃ v, fin = .done (.ret v) ∧ Q v s') E s := by
  show wpAny _ _ (field (.ref z) 2 >>= fun _ => _) _ _ s
  refine wpAny_bind (wpAny_field hz rfl (x := .bool false) rfl (show wpAny _ _ (field (.ref z) 3 >>= fun _ => _) _ _ s from wpAny_bind (wpAny_field hz rfl (x := .ref TI) rfl (wpAny_bind (wpAny_seqItems hTI rfl
    (show wpAny _ _ (Builtin.SmallTypes.ownedTupleIsFree (.ref z) >>= fun _ => _) _ _ s from wpAny_bind (free_gone hz hg ?_)))))))
  simp only [if_true]
  refine wpAny_bind (wpAny_rule (wpAny_bind (wpAny_field hz rfl (x := .ref TO) rfl (wpAny_bind (wpAny_setField_rec hz (by simp) fun g0 z0 b0 => wpAny_bind ?_)))))
  replace z0 : IsZ g0 z TI TO .ellipsis fl := z0
  simp only [List.zipIdx_cons, List.zipIdx_nil, List.forIn_cons, List.forIn_nil]
  refine wpAny_bind (wpAny_bind (wpAny_onRaise (show wpAny _ _ (Builtin.SmallTypes.nextOf (.ref i1) >>= fun _ => _) _ _ _ from wpAny_bind (nextOf_tuple_item (u1.extBut b0.extBut D.i1z) (t1.extBut b0.extBut D.l1z) hx fun g1 v1 b1 => wpAny_pure ?_))))
  have p1 : IsPair g1 TO a b := b1.extBut _ _ D.TOi1 (b0.extBut _ _ D.TOz hTO)
  refine wpAny_bind (wpAny_seqItems p1 rfl (wpAny_bind (wpAny_updateSeq_pair p1 fun g2 p2 b2 => wpAny_bind (wpAny_letGo (wpAny_pure ?_)))))
  replace p2 : IsPair g2 TO x b := p2
  refine wpAny_bind (wpAny_bind (wpAny_onRaise (show wpAny _ _ (Builtin.SmallTypes.nextOf (.ref i2) >>= fun _ => _) _ _ _ from wpAny_bind (nextOf_tuple_item (((u2.extBut b0.extBut D.i2z).extBut b1.extBut D.i12.symm).extBut b2.extBut D.TOi2.symm) (((t2.extBut b0.extBut D.l2z).extBut b1.extBut D.l2i1).extBut b2.extBut D.l2TO) hy fun g3 v3 b3 => wpAny_pure ?_))))
  have p3 : IsPair g3 TO x b := b3.extBut _ _ D.TOi2 p2
  refine wpAny_bind (wpAny_seqItems p3 rfl (wpAny_bind (wpAny_updateSeq_pair p3 fun g4 p4 b4 => wpAny_bind (wpAny_letGo (wpAny_pure (wpAny_pure ?_))))))
  replace p4 : IsPair g4 TO x y := p4
  refine wpAny_bind (wpAny_seqItems p4 rfl (wpAny_bind (wpAny_newTuple ?_)))
  have n0 : g4.objs.size = s.heap.objs.size := by rw [b4.1, b3.1, b2.1, b1.1, b0.1]
  have z4 : IsZ g4 z TI TO .ellipsis fl := b4.extBut _ _ D.TOz.symm (b3.extBut _ _ D.i2z.symm (b2.extBut _ _ D.TOz.symm (b1.extBut _ _ D.i1z.symm z0)))
  have kk : ∀ c o, c ≠ z → c ≠ TO → c ≠ i1 → c ≠ i2 → s.heap.get? c = some o → g4.get? c = some o := fun c o c1 c2 c3 c4 e => b4.extBut _ _ c2 (b3.extBut _ _ c4 (b2.extBut _ _ c2 (b1.extBut _ _ c3 (b0.extBut _ _ c1 e))))
  have w1 : g4.IsTupleIter i1 l1 (k1 + 1) := ((v1.extBut b2.extBut D.TOi1.symm).extBut b3.extBut D.i12).extBut b4.extBut D.TOi1.symm
  have w2 : g4.IsTupleIter i2 l2 (k2 + 1) := v3.extBut b4.extBut D.TOi2.symm
  have zlt : z < g4.objs.size := Heap.lt_size z4
  show wpAny _ _ (Builtin.SmallTypes.ownedTupleHandOut (.ref z) (.ref g4.objs.size) >>= fun _ => _) _ _ _
  refine wpAny_bind ?_
  unfold Builtin.SmallTypes.ownedTupleHandOut
  have z5 : IsZ (g4.push { cls := .type "tuple", data := .seq #[x, y] }) z TI TO .ellipsis fl := Heap.get?_push_of_some _ z4
  refine wpAny_bind (wpAny_setField_rec z5 (by simp) fun g6 z6 b6 => ?_)
  replace z6 : IsZ g6 z TI TO (rawInt g4.objs.size) fl := z6
  refine wpAny_setField_rec z6 (by simp) fun g7 z7 b7 => wpAny_pure ⟨_, rfl, ?_⟩
  replace z7 : IsZ g7 z TI TO (rawInt g4.objs.size) false := z7
  have up : ∀ c o, c ≠ z → g4.get? c = some o → g7.get? c = some o := fun c o c1 e => b7.extBut _ _ c1 (b6.extBut _ _ c1 (Heap.get?_push_of_some _ e))
  have pT : IsPair g7 g4.objs.size x y := b7.extBut _ _ (Nat.ne_of_gt zlt) (b6.extBut _ _ (Nat.ne_of_gt zlt) (Heap.get?_push_size _ rfl))
  show Q (.ref g4.objs.size) _
  rw [n0] at z7 pT ⊢
  exact hQ g7 z7 (up _ _ D.TOz p4) (w1.at fun o e => up _ o D.i1z e) (w2.at fun o e => up _ o D.i2z e) pT fun c o c1 c2 c3 c4 e => up c o c1 (kk c o c1 c2 c3 c4 e)
theorem free_end {f0 : Value} {fl : Bool} {a b : Value} {Q : Fin → Shared → Prop} (hh : A.handled = none) (D : ZipApart z TI TO i1 i2 l1 l2) (hz : IsZ s.heap z TI TO f0 fl) (hg : Gone s.heap f0) (hTI : IsPair s.heap TI (.ref i1) (.ref i2)) (hTO : IsPair s.heap TO a b) (u1 : s.heap.IsTupleIter i1 l1 k1) (u2 : s.heap.IsTupleIter i2 l2 k2) (t1 : s.heap.IsTuple l1 xs) (t2 : s.heap.IsTuple l2 ys) (hend : xs[k1]? = none ∨ ys[k2]? = none)
    (hE : ∀ h' e, (∀ c o, c ≠ z → c ≠ TO → c ≠ i1 → c ≠ i2 → s.heap.get? c = some o → h'.get? c = some o) → (∃ o, h'.get? e = some o ∧ o.cls = .type "StopIteration") → E (.ref e) { s with heap := h' }) :
    wpAny (model prog w) A (Builtin.«zip.__next__» ⟨[.ref z], []⟩) Q E s := by
  show wpAny _ _ (field (.ref z) 2 >>= fun _ => _) _ _ s
  refine wpAny_bind (wpAny_field hz rfl (x := .bool false) rfl (show wpAny _ _ (field (.ref z) 3 >>= fun _ => _) _ _ s from wpAny_bind (wpAny_field hz rfl (x := .ref TI) rfl (wpAny_bind (wpAny_seqItems hTI rfl
    (show wpAny _ _ (Builtin.SmallTypes.ownedTupleIsFree (.ref z) >>= fun _ => _) _ _ s from wpAny_bind (free_gone hz hg ?_)))))))
  simp only [if_true]
  refine wpAny_bind (wpAny_rule (wpAny_bind (wpAny_field hz rfl (x := .ref TO) rfl (wpAny_bind (wpAny_setField_rec hz (by simp) fun g0 z0 b0 => wpAny_bind ?_)))))
  replace z0 : IsZ g0 z TI TO .ellipsis fl := z0
  simp only [List.zipIdx_cons, List.zipIdx_nil, List.forIn_cons, List.forIn_nil]
  refine wpAny_bind (wpAny_bind (wpAny_onRaise (show wpAny _ _ (Builtin.SmallTypes.nextOf (.ref i1) >>= fun _ => _) _ _ _ from ?_)))
  cases hx : xs[k1]? with
  | none =>
    refine wpAny_bind (nextOf_tuple_end hh (u1.extBut b0.extBut D.i1z) (t1.extBut b0.extBut D.l1z) hx fun g1 e b1 he => ?_)
    obtain ⟨oe, hoe, hce⟩ := he
    have z1 : IsZ g1 z TI TO .ellipsis fl := b1 _ _ D.i1z.symm z0
    have ez : e ≠ z := fun q => by subst q; rw [z1] at hoe; cases hoe; simp at hce
    exact wpAny_setField_rec z1 (by simp) fun g2 _ b2 => hE g2 e (fun c o c1 _ c3 _ q => b2.extBut _ _ c1 (b1 _ _ c3 (b0.extBut _ _ c1 q))) ⟨oe, b2.extBut _ _ ez hoe, hce⟩
  | some x =>
    have hy : ys[k2]? = none := by
      rcases hend with h | h
      · rw [hx] at h; cases h
      · exact h
    refine wpAny_bind (nextOf_tuple_item (u1.extBut b0.extBut D.i1z) (t1.extBut b0.extBut D.l1z) hx fun g1 v1 b1 => wpAny_pure ?_)
    have p1 : IsPair g1 TO a b := b1.extBut _ _ D.TOi1 (b0.extBut _ _ D.TOz hTO)
    refine wpAny_bind (wpAny_seqItems p1 rfl (wpAny_bind (wpAny_updateSeq_pair p1 fun g2 p2 b2 => wpAny_bind (wpAny_letGo (wpAny_pure ?_)))))
    refine wpAny_bind (wpAny_bind (wpAny_onRaise (show wpAny _ _ (Builtin.SmallTypes.nextOf (.ref i2) >>= fun _ => _) _ _ _ from wpAny_bind (nextOf_tuple_end hh (((u2.extBut b0.extBut D.i2z).extBut b1.extBut D.i12.symm).extBut b2.extBut D.TOi2.symm) (((t2.extBut b0.extBut D.l2z).extBut b1.extBut D.l2i1).extBut b2.extBut D.l2TO) hy fun g3 e b3 he => ?_))))
    obtain ⟨oe, hoe, hce⟩ := he
    have z3 : IsZ g3 z TI TO .ellipsis fl := b3 _ _ D.i2z.symm (b2.extBut _ _ D.TOz.symm (b1.extBut _ _ D.i1z.symm z0))
    have ez : e ≠ z := fun q => by subst q; rw [z3] at hoe; cases hoe; simp at hce
    exact wpAny_setField_rec z3 (by simp) fun g4 _ b4 => hE g4 e (fun c o c1 c2 c3 c4 q => b4.extBut _ _ c1 (b3 _ _ c4 (b2.extBut _ _ c2 (b1.extBut _ _ c3 (b0.extBut _ _ c1 q))))) ⟨oe, b4.extBut _ _ ez hoe, hce⟩
/-- what a zip may have handed out -/
def Out (f0 : Value) : Prop := f0 = .none ∨ ∃ T : Addr, f0 = rawInt T
theorem gone_or (h : Heap) {f0 : Value} (o : Out f0) : Gone h f0 ∨ ∃ (T : Addr) (oT : Obj), f0 = rawInt T ∧ h.get? T = some oT := by
  rcases o with rfl | ⟨T, rfl⟩
  · exact .inl (.inl rfl)
  · cases e : h.get? T with
    | none => exact .inl (.inr ⟨T, rfl, e⟩)
    | some oT => exact .inr ⟨T, oT, rfl, e⟩
/-- the next pair -/
theorem next_item {f0 : Value} {fl : Bool} {x y a b : Value} {Q : Option Value → Shared → Prop} (D : ZipApart z TI TO i1 i2 l1 l2) (hz : IsZ s.heap z TI TO f0 fl) (ho : Out f0) (hTI : IsPair s.heap TI (.ref i1) (.ref i2)) (hTO : IsPair s.heap TO a b) (u1 : s.heap.IsTupleIter i1 l1 k1) (u2 : s.heap.IsTupleIter i2 l2 k2) (t1 : s.heap.IsTuple l1 xs) (t2 : s.heap.IsTuple l2 ys) (hx : xs[k1]? = some x) (hy : ys[k2]? = some y)
    (hQ : ∀ h', (∃ f1 fl, Out f1 ∧ IsZ h' z TI TO f1 fl) → (∃ a b, IsPair h' TO a b) → h'.IsTupleIter i1 l1 (k1 + 1) → h'.IsTupleIter i2 l2 (k2 + 1) → IsPair h' s.heap.objs.size x y → (∀ c o, c ≠ z → c ≠ TO → c ≠ i1 → c ≠ i2 → s.heap.get? c = some o → h'.get? c = some o) → Q (some (.ref s.heap.objs.size)) { s with heap := h' }) :
    wpAny (model prog w) A (pyNext (.ref z)) Q E s := by
  have ty : s.TypeIs (.ref z) "zip" := ⟨_, hz, rfl⟩
  unfold pyNext
  refine wpAny_bind (wpAny_attempt (wpAny_callSpecial?_slot (name := Str.ofString "__next__") ty F.slot_zip_next (wpAny_call_entry F.slot_zip_next ty F.entry_zip_next ?_ (F.args_zip_next_1 _))))
  rcases gone_or s.heap ho with g | ⟨T, oT, rfl, hT⟩
  · exact free_item D hz g hTI hTO u1 u2 t1 t2 hx hy fun h' a1 a2 a3 a4 a5 a6 => wpAny_pure (hQ h' ⟨_, _, .inr ⟨_, rfl⟩, a1⟩ ⟨_, _, a2⟩ a3 a4 a5 a6)
  · refine body_item D hz hT hTI u1 u2 t1 t2 hx hy fun h' a1 a3 a4 a5 a6 => wpAny_pure (hQ h' ⟨_, _, .inr ⟨_, rfl⟩, a1⟩ ⟨_, _, a6 _ _ D.TOz D.TOi1 D.TOi2 hTO⟩ a3 a4 a5 fun c o c1 _ c3 c4 e => a6 c o c1 c3 c4 e)
theorem next_end {f0 : Value} {fl : Bool} {a b : Value} {Q : Option Value → Shared → Prop} (hh : A.handled = none) (D : ZipApart z TI TO i1 i2 l1 l2) (hz : IsZ s.heap z TI TO f0 fl) (ho : Out f0) (hTI : IsPair s.heap TI (.ref i1) (.ref i2)) (hTO : IsPair s.heap TO a b) (u1 : s.heap.IsTupleIter i1 l1 k1) (u2 : s.heap.IsTupleIter i2 l2 k2) (t1 : s.heap.IsTuple l1 xs) (t2 : s.heap.IsTuple l2 ys) (hend : xs[k1]? = none ∨ ys[k2]? = none)
    (hQ : ∀ h', (∀ c o, c ≠ z → c ≠ TO → c ≠ i1 → c ≠ i2 → s.heap.get? c = some o → h'.get? c = some o) → Q none { s with heap := h' }) : wpAny (model prog w) A (pyNext (.ref z)) Q E s := by
  have ty : s.TypeIs (.ref z) "zip" := ⟨_, hz, rfl⟩
  unfold pyNext
  refine wpAny_bind (wpAny_attempt (wpAny_callSpecial?_slot (name := Str.ofString "__next__") ty F.slot_zip_next (wpAny_call_entry F.slot_zip_next ty F.entry_zip_next ?_ (F.args_zip_next_1 _))))
  rcases gone_or s.heap ho with g | ⟨T, oT, rfl, hT⟩
  · exact free_end hh D hz g hTI hTO u1 u2 t1 t2 hend fun h' e hk ⟨o, h1, h2⟩ => wpAny_bind (wpAny_isInstance (T := "StopIteration") (b := true) ⟨o, h1, h2⟩ isSubtype_stop (wpAny_pure (hQ _ hk)))
  · exact body_end hh D hz hT hTI u1 u2 t1 t2 hend fun h' e hk ⟨o, h1, h2⟩ => wpAny_bind (wpAny_isInstance (T := "StopIteration") (b := true) ⟨o, h1, h2⟩ isSubtype_stop (wpAny_pure (hQ _ fun c o c1 _ c3 c4 q => hk c o c1 c3 c4 q)))
end
/-- a target that is a name -/
def NameT : Expr → Prop
  | .Name _ _ => True
  | _ => False
theorem go_name {M : Model} {A : Around} {E : Value → Shared → Prop} {s : Shared} {tg : Expr} {it : Value} {u : Value} {Q : Unit → Shared → Prop} (h : NameT tg) (hQ : Q () s) : wpAny M A (letOwnedTupleGo tg it u) Q E s := by
  cases tg with
  | Name x p =>
    unfold letOwnedTupleGo
    exact wpAny_pure hQ
  | _ => exact h.elim
/-- how the zip stands -/
def StN (z TI TO i1 i2 a b : Addr) (i : Nat) (h : Heap) : Prop :=
  (∃ f0 fl, Out f0 ∧ IsZ h z TI TO f0 fl) ∧ IsPair h TI (.ref i1) (.ref i2) ∧ (∃ x y, IsPair h TO x y) ∧ h.IsTupleIter i1 a i ∧ h.IsTupleIter i2 b i
theorem turn_zipN {P : Program} {w : World} {K : PySem.W.Frag} {tg : Expr} (ht : NameT tg) {a b z TI TO i1 i2 : Addr} (D : ZipApart z TI TO i1 i2 a b) : Turn P w K tg (ItzT K a b) [z, TI, TO, i1, i2] z (StN z TI TO i1 i2 a b) where
  mem := by simp
  obj := fun i h st c hc => by
    obtain ⟨⟨f0, fl, _, hz⟩, hTI, ⟨x, y, hTO⟩, ⟨o1, e1, _, d1⟩, ⟨o2, e2, _, d2⟩⟩ := st
    have e' : c = z ∨ c = TI ∨ c = TO ∨ c = i1 ∨ c = i2 := by simpa using hc
    rcases e' with rfl | rfl | rfl | rfl | rfl
    · exact ⟨_, hz, fun v q => nomatch q⟩
    · exact ⟨_, hTI, fun v q => nomatch q⟩
    · exact ⟨_, hTO, fun v q => nomatch q⟩
    · exact ⟨o1, e1, fun v q => by rw [d1] at q; cases q⟩
    · exact ⟨o2, e2, fun v q => by rw [d2] at q; cases q⟩
  keep := fun i h h' ⟨⟨f0, fl, ho, hz⟩, hTI, ⟨x, y, hTO⟩, u1, u2⟩ k =>
    ⟨⟨f0, fl, ho, k z (by simp) _ hz⟩, k TI (by simp) _ hTI, ⟨x, y, k TO (by simp) _ hTO⟩, u1.at fun o q => k i1 (by simp) o q, u2.at fun o q => k i2 (by simp) o q⟩
  item := by
    intro X hP hw hK hc i pins s σ H E I hf st hg
    subst hP hw hK
    obtain ⟨⟨f0, fl, ho, hz⟩, hTI, ⟨x0, y0, hTO⟩, u1, u2⟩ := st
    obtain ⟨xs, ys, x, y, qx, qy, hx, hy⟩ := hg
    obtain ⟨its, rv, p, _⟩ := I.tuple qx
    obtain ⟨its2, rv2, p2, _⟩ := I.tuple qy
    obtain ⟨u, hu, ru⟩ := rv.get hx
    obtain ⟨v, hv, rw_⟩ := rv2.get hy
    have zl : z < s.heap.objs.size := Heap.lt_size hz
    refine next_item D hz ho hTI hTO u1 u2 p p2 (x := u) (y := v) (by simpa using hu) (by simpa using hv) fun h' z' TO' v1 v2 hT hk => ⟨_, rfl, go_name ht ?_⟩
    have new : ObjOk X.prog X.w (upd H s.heap.objs.size (.tup [x, y])) h' s.heap.objs.size (.tup [x, y]) := ⟨by show 2 ≤ sizeLine; decide, [u, v], .cons ru (.cons rw_ .nil), ⟨_, hT, rfl, _, rfl⟩⟩
    have I1 : Inv X pins σ (upd H s.heap.objs.size (.tup [x, y])) { s with heap := h' } :=
      I.turnedNew (t' := s.toks) (ch := [z, TI, TO, i1, i2]) (fun c o hb q => hk c o (fun q' => hb (by simp [q'])) (fun q' => hb (by simp [q'])) (fun q' => hb (by simp [q'])) (fun q' => hb (by simp [q'])) q) hf (Nat.le_refl _) new
    refine ⟨.ref s.heap.objs.size, _, I1, rfl, ⟨_, x, y, rfl, I.hok.fresh (Nat.le_refl _), rfl, fun l hl => by rw [I.tuple_inj hl qx]; exact hx, fun l hl => by rw [I.tuple_inj hl qy]; exact hy⟩, ⟨z'.elim fun f1 ⟨fl1, o1, q⟩ => ⟨f1, fl1, o1, q⟩, hk _ _ D.TIz D.TITO D.TIi1 D.TIi2 hTI, TO', v1, v2⟩, fun c hcm => ?_⟩
    have hlt : c < s.heap.objs.size := by
      have e' : c = z ∨ c = TI ∨ c = TO ∨ c = i1 ∨ c = i2 := by simpa using hcm
      rcases e' with q | q | q | q | q
      · rw [q]; exact zl
      · rw [q]; exact Heap.lt_size hTI
      · rw [q]; exact Heap.lt_size hTO
      · rw [q]; obtain ⟨_, e1, _⟩ := u1; exact Heap.lt_size e1
      · rw [q]; obtain ⟨_, e2, _⟩ := u2; exact Heap.lt_size e2
    rw [upd_ne (Nat.ne_of_lt hlt)]
    exact (hf c hcm).1
  done := by
    intro X hP hw hK hc i pins s σ H E I hf st hg
    subst hP hw hK
    obtain ⟨⟨f0, fl, ho, hz⟩, hTI, ⟨x0, y0, hTO⟩, u1, u2⟩ := st
    obtain ⟨xs, ys, qx, qy, hend⟩ := hg
    obtain ⟨its, rv, p, _⟩ := I.tuple qx
    obtain ⟨its2, rv2, p2, _⟩ := I.tuple qy
    have l1 := rv.length
    have l2 := rv2.length
    have he : its.toArray[i]? = none ∨ its2.toArray[i]? = none := by
      rcases hend with q | q
      · exact .inl (by simp; omega)
      · exact .inr (by simp; omega)
    exact next_end (I.ok.hd hc) D hz ho hTI hTO u1 u2 p p2 he fun h' hk => ⟨rfl, I.turnedL (t' := s.toks) (ch := [z, TI, TO, i1, i2]) (fun c o hb q =>
      hk c o (fun q' => hb (by simp [q'])) (fun q' => hb (by simp [q'])) (fun q' => hb (by simp [q'])) (fun q' => hb (by simp [q'])) q) hf⟩
  self := fun A i s Q E ⟨⟨f0, fl, _, hz⟩, _⟩ h => by
    have ty : s.TypeIs (.ref z) "zip" := ⟨_, hz, rfl⟩
    refine wpAny_pyIter_slot ty F.slot_zip_iter (wpAny_call_entry F.slot_zip_iter ty F.entry_zip_iter ?_ (F.args_zip_iter_1 _))
    show wpAny _ _ (ret (.ref z)) _ _ s
    exact wpAny_pure ⟨_, rfl, "zip", _, ty, F.slot_zip_next.lookup, h⟩
def iZipN (K : PySem.W.Frag) (ta : TA) : TI := fun σ H R => ta σ H fun vs H1 => ∃ a b xs ys, vs = [.ref a, .ref b] ∧ SqT K H1 a xs ∧ SqT K H1 b ys ∧ R (ItzT K a b) H1
theorem pi_zipN {X : Cx} {tg e e2 : Expr} {ta : TA} {p pos : Pos} (ht : NameT tg) (hg : Gl X "zip") (hm : X.mg "zip" = none) (ha : PA X [e, e2] ta)
    (hs : starEach [e, e2] X.env = (false, eval e X.env) :: starEach [e2] X.env) (hpl : (backTo pos (starEach [e2] X.env)).any (·.1) = false) :
    PI X tg (.Call (.Name "zip" p) [e, e2] [] pos) (iZipN X.K ta) := by
  refine ⟨fun pins s σ H R I h => ?_⟩
  refine Call_ (ld_blt I hg hm PyProof.Rows.boot_zip (PyProof.Rows.callWith_type1 (thn (ha.run pos pins s σ H _ I h) fun us s1 ⟨vs, H1, I1, r1, a, b, xs, ys, ex, qx, qy, q⟩ => ?_) hs hpl))
  subst ex
  cases r1 with
  | cons r rr =>
    cases rr with
    | cons r' rr =>
      cases rr
      cases r
      cases r'
      obtain ⟨its, rv, p1, _⟩ := I1.tuple qx
      obtain ⟨its2, rv2, p2, _⟩ := I1.tuple qy
      obtain ⟨o1, ho1, _⟩ := id p1
      obtain ⟨o2, ho2, _⟩ := id p2
      refine call_zipT (show s1.heap.IsTuple a its.toArray from p1) (show s1.heap.IsTuple b its2.toArray from p2) fun h' hz hTI hTO h1 h2 hsz hk => wpAny_pyIter_zip hz ?_
      have I2 : Inv X pins σ H1 { s1 with heap := h' } := I1.kept (t' := s1.toks) hk
      refine ⟨s1.heap.objs.size + 4, [s1.heap.objs.size + 4, s1.heap.objs.size + 2, s1.heap.objs.size + 3, s1.heap.objs.size, s1.heap.objs.size + 1], _, _, H1, rfl, I2, turn_zipN ht (PySem.W.ktu_apart s1.heap.objs.size a b (Heap.lt_size ho1) (Heap.lt_size ho2)), ⟨⟨_, false, .inl rfl, hz⟩, hTI, ⟨_, _, hTO⟩, h1, h2⟩, fun c hcm => ?_, q⟩
      have hle : s1.heap.objs.size ≤ c := by
        have e' : c = s1.heap.objs.size + 4 ∨ c = s1.heap.objs.size + 2 ∨ c = s1.heap.objs.size + 3 ∨ c = s1.heap.objs.size ∨ c = s1.heap.objs.size + 1 := by simpa using hcm
        rcases e' with z | z | z | z | z <;> rw [z] <;> first | exact Nat.le_refl _ | exact Nat.le_add_right _ _
      exact I1.fpOk hle (I1.hok.fresh hle)
end ZN
set_option Elab.async false
set_option linter.all false
set_option maxRecDepth 100000
set_option maxHeartbeats 1000000
/-! SndE: enumerate over tuples. -/
namespace ZE
open PySem PySem.Spec PyProof.Rows L2 RZ
theorem meets_new (l : Addr) (items : Array Value) (n : Nat) (dct : Option Addr) (sl : Array (Option Value)) :
    Meets (Builtin.«enumerate.__new__» ⟨[.type "enumerate", .ref l], []⟩) (fun _ R s => s.heap.get? l = some { cls := .type "tuple", dict := dct, data := .seq items n, slots := sl } ∧
      R (.ok (.ret (.ref (s.heap.push { cls := .type "tuple_iterator", data := .fields #[.ref l, .int 0 0] }).objs.size)))
        { s with heap := (s.heap.push { cls := .type "tuple_iterator", data := .fields #[.ref l, .int 0 0] }).push { cls := .type "enumerate", data := .fields #[.none, .bool false, .ref s.heap.objs.size, rawInt 0, .none, .none] } }) :=
  .of_wp fun prog w A R s h => by
    obtain ⟨hp, g, d, tk, os⟩ := s; obtain ⟨hl, h⟩ := h
    have hsub := sub_enumerate
    have hL : Heap.IsTuple (Shared.heap ⟨hp, g, d, tk, os⟩) l items := ⟨_, hl, rfl, n, rfl⟩
    wp_walk using PySem.AutoSeq1.wpAny_loadPart' hl
    refine wpAny_stack_any fun st => wpAny_pure ?_
    split
    · rename_i c _ _ _ _ _
      cases (c == Value.type "enumerate")
      · wp_walk using PySem.AutoSeq1.wpAny_loadPart' hl, wpAny_pyIter_tuple hL
        exact ⟨_, rfl, h⟩
      · wp_walk using PySem.AutoSeq1.wpAny_loadPart' hl, wpAny_pyIter_tuple hL
        exact ⟨_, rfl, h⟩
    · wp_walk using PySem.AutoSeq1.wpAny_loadPart' hl, wpAny_pyIter_tuple hL
      exact ⟨_, rfl, h⟩

section
variable {prog : Program} {w : World} {A : Around} {E : Value → Shared → Prop} {s : Shared}
theorem call_enum_tup {l : Addr} {items : Array Value} {Q : Value → Shared → Prop} (hL : s.heap.IsTuple l items)
    (h : ∀ h', IsEnum h' (s.heap.objs.size + 1) s.heap.objs.size 0 .none → h'.IsTupleIter s.heap.objs.size l 0 → h'.objs.size = s.heap.objs.size + 2 →
      (∀ b o, s.heap.get? b = some o → h'.get? b = some o) → Q (.ref (s.heap.objs.size + 1)) { s with heap := h' }) :
    wpAny (model prog w) A (call (.type "enumerate") [.ref l]) Q E s := by
  obtain ⟨⟨c, dct, dt, sl⟩, hl, hc, n, hd⟩ := hL
  replace hc : c = .type "tuple" := hc
  replace hd : dt = .seq items n := hd
  subst hc hd
  refine callType_new F.called_enumerate (by decide) (F.typeCall_enumerate_1 _) (F.newCall_enumerate_1 _) (fun obj => F.args_object_init_2 obj _) F.entry_enumerate_new
    (meets_new l items n dct sl) ⟨hl, ?_⟩
  have hz : (s.heap.push { cls := .type "tuple_iterator", data := .fields #[.ref l, .int 0 0] }).objs.size = s.heap.objs.size + 1 := Heap.size_push ..
  show _ ∧ _
  rw [hz]
  have he : IsEnum ((s.heap.push { cls := .type "tuple_iterator", data := .fields #[.ref l, .int 0 0] }).push
      { cls := .type "enumerate", data := .fields #[.none, .bool false, .ref s.heap.objs.size, rawInt 0, .none, .none] }) (s.heap.objs.size + 1) s.heap.objs.size 0 .none := by
    have := Heap.get?_push_size (s.heap.push { cls := .type "tuple_iterator", data := .fields #[.ref l, .int 0 0] })
      (o := { cls := .type "enumerate", data := .fields #[.none, .bool false, .ref s.heap.objs.size, rawInt 0, .none, .none] }) rfl
    rw [hz] at this; exact this
  refine ⟨⟨_, he, rfl⟩, h _ he ⟨_, Heap.get?_push_of_some _ (Heap.get?_push_size _ rfl), rfl, rfl⟩ (by rw [Heap.size_push, hz]) fun b o x => Heap.get?_push_of_some _ (Heap.get?_push_of_some _ x)⟩
theorem draws_tup (hh : A.handled = none) (it l : Addr) (hne : l ≠ it) (items : Array Value) :
    Draws prog w A it [it, l] items.size (fun i v => items[i]? = some v) (fun i h => h.IsTupleIter it l i ∧ h.IsTuple l items) where
  live := fun _ _ st => let ⟨o, ho, _⟩ := st.1; ⟨o, ho⟩
  frame := fun _ _ _ st hk => ⟨st.1.at fun o e => hk it (by simp) o e, st.2.at fun o e => hk l (by simp) o e⟩
  item := fun i s Q E hi st hQ => by
    refine nextOf_tuple_item st.1 st.2 (x := items[i]) (by simp [hi]) fun h' hit' hs' => ?_
    exact hQ _ h' s.toks (by simp [hi]) ⟨hit', st.2.extBut hs'.extBut hne⟩ hs'
  done := fun s Q E st hE => nextOf_tuple_end hh st.1 st.2 (by simp) hE
end
/-- the tuple at a, each item in a new pair -/
def IteT (K : PySem.W.Frag) (a : Addr) : It :=
  ⟨fun i H => ∃ (xs : List V) (x : V), SqT K H a xs ∧ xs[i]? = some x, fun i H v H' => ∃ T x, v = .ref T ∧ H T = none ∧ H' = upd H T (.tup [.int (i : Nat), x]) ∧ ∀ xs, SqT K H a xs → xs[i]? = some x, fun i H => ∃ xs : List V, SqT K H a xs ∧ xs.length ≤ i⟩
theorem turn_enumT {P : Program} {w : World} {K : PySem.W.Frag} {elts : List Expr} {kk : Nat} {tpos : Pos} (a e it : Addr) (hai : a ≠ it) (hae : a ≠ e) :
    Turn P w K (.Tuple elts kk tpos) (IteT K a) [e, it] e (fun i h => (∃ old, IsEnum h e it ((i : Nat) : Int) old) ∧ h.IsTupleIter it a i ∧ e ≠ it) where
  mem := by simp
  obj := fun i h st b hb => by
    obtain ⟨⟨old, he⟩, ⟨o, ho, hc, hd⟩, _⟩ := st
    have e' : b = e ∨ b = it := by simpa using hb
    rcases e' with z | z
    · rw [z]; exact ⟨_, he, fun v q => nomatch q⟩
    · rw [z]; exact ⟨o, ho, fun v q => by rw [hd] at q; cases q⟩
  keep := fun i h h' st k => let ⟨⟨old, he⟩, hi, hne⟩ := st; ⟨⟨old, k e (by simp) _ he⟩, hi.at fun o q => k it (by simp) o q, hne⟩
  item := by
    intro X hP hw hK hc i pins s σ H E I hf st hg
    subst hP hw hK
    obtain ⟨⟨old, he⟩, hit, hne⟩ := st
    obtain ⟨xs, x, hq, hx⟩ := hg
    obtain ⟨its, rv, p, hz⟩ := I.tuple hq
    obtain ⟨u, hu, ru⟩ := rv.get hx
    have hel : e < s.heap.objs.size := Heap.lt_size he
    have hil : it < s.heap.objs.size := by obtain ⟨_, q, _⟩ := hit; exact Heap.lt_size q
    have hi : i < its.toArray.size := by
      have := (List.getElem?_eq_some_iff.mp hu).1
      simpa using this
    refine wpAny_pyNext_enum_itemD (draws_tup (A := X.A.in1) (show X.A.in1.handled = none from I.ok.hd hc) it a hai its.toArray) he ⟨hit, (show s.heap.IsTuple a its.toArray from p)⟩ hi hne (by simp [hne, Ne.symm hae]) fun y h' tk py ho st' hT hsz hk => ?_
    have ey : y = u := by
      have : its.toArray[i]? = some u := by simpa using hu
      rw [this] at py
      exact (Option.some.inj py).symm
    subst ey
    refine ⟨_, rfl, wpAny_letOwnedTupleGo_enum (s := { s with heap := h', toks := tk + 1 }) ho fun h'' he' sb => ?_⟩
    have hT2 : h''.get? s.heap.objs.size = some { cls := .type "tuple", data := .seq #[.int i tk, y] } := (sb.2 _ (Nat.ne_of_gt hel)).trans hT
    have new : ObjOk X.prog X.w (upd H s.heap.objs.size (.tup [.int (i : Nat), x])) h'' s.heap.objs.size (.tup [.int (i : Nat), x]) :=
      ⟨by show 2 ≤ sizeLine; decide, [.int i tk, y], .cons ⟨_, rfl⟩ (.cons ru .nil), ⟨_, hT2, rfl, _, rfl⟩⟩
    have I1 : Inv X pins σ (upd H s.heap.objs.size (.tup [.int (i : Nat), x])) { s with heap := h'', toks := tk + 1 } :=
      I.turnedNew (ch := [e, it]) (fun b ob hb q => (sb.2 b (fun z => hb (by simp [z]))).trans (hk b ob (fun z => hb (by simp [z])) (fun z => hb (by simp [z])) q)) hf (Nat.le_refl _) new
    refine ⟨.ref s.heap.objs.size, _, I1, rfl, ⟨_, x, rfl, I.hok.fresh (Nat.le_refl _), rfl, fun ys hy => by rw [I.tuple_inj hy hq]; exact hx⟩, ⟨⟨y, ?_⟩, st'.1.at fun o q => (sb.2 it (Ne.symm hne)).trans q, hne⟩, fun b hb => ?_⟩
    · have e1 : ((i + 1 : Nat) : Int) = (i : Int) + 1 := by omega
      rw [e1]; exact he'
    · have hb' : b < s.heap.objs.size := by
        have e' : b = e ∨ b = it := by simpa using hb
        rcases e' with z | z
        · rw [z]; exact hel
        · rw [z]; exact hil
      rw [upd_ne (Nat.ne_of_lt hb')]
      exact (hf b hb).1
  done := by
    intro X hP hw hK hc i pins s σ H E I hf st hg
    subst hP hw hK
    obtain ⟨⟨old, he⟩, hit, hne⟩ := st
    obtain ⟨xs, hq, hx⟩ := hg
    obtain ⟨its, rv, p, hz⟩ := I.tuple hq
    obtain ⟨f0, f1, f2, f3, f4, f5⟩ := hf it (by simp)
    have hl := rv.length
    have hT : s.TypeIs (.ref e) "enumerate" := ⟨_, he, rfl⟩
    unfold pyNext
    refine wpAny_bind (wpAny_attempt (wpAny_callSpecial?_slot (name := Str.ofString "__next__") hT F.slot_enumerate_next
      (wpAny_call_entry F.slot_enumerate_next hT F.entry_enumerate_next ?_ (F.args_enumerate_next_1 _))))
    show wpAny _ _ (field (.ref e) 2 >>= _) _ _ _
    refine wpAny_bind (wpAny_field he rfl (x := .ref it) rfl ?_)
    refine wpAny_bind (nextOf_tuple_end (show X.A.in1.handled = none from I.ok.hd hc) hit (show s.heap.IsTuple a its.toArray from p) (by simp; omega) fun h' x eb hx' => ?_)
    obtain ⟨o, ho, hc'⟩ := hx'
    refine wpAny_bind (wpAny_isInstance (T := "StopIteration") (b := true) ⟨o, ho, hc'⟩ isSubtype_stop ?_)
    exact wpAny_pure ⟨rfl, I.turned (t' := s.toks) (fun b o hb q => eb b o hb q) f0 f1 f3 f4 f5⟩
  self := fun A i s Q E st h => let ⟨⟨_, he⟩, _⟩ := st; wpAny_pyIter_enum he h
def iEnumA (K : PySem.W.Frag) (ta : TA) : TI := fun σ H R => ta σ H fun vs H1 => ∃ a xs, vs = [.ref a] ∧ ((SqL K H1 a xs ∧ R (Ite K a) H1) ∨ (SqT K H1 a xs ∧ R (IteT K a) H1))
theorem pi_enumA {X : Cx} {e : Expr} {ta : TA} {p pos tpos : Pos} {elts : List Expr} {kk : Nat} (hg : Gl X "enumerate") (hm : X.mg "enumerate" = none) (ha : PA X [e] ta) (hs : starEach [e] X.env = [(false, eval e X.env)]) :
    PI X (.Tuple elts kk tpos) (.Call (.Name "enumerate" p) [e] [] pos) (iEnumA X.K ta) := by
  refine ⟨fun pins s σ H R I h => ?_⟩
  refine Call_ (ld_blt I hg hm boot_enumerate (PyProof.Rows.callWith_type1 (thn (ha.run pos pins s σ H _ I h) fun us s1 ⟨vs, H1, I1, r1, q1⟩ => ?_) hs rfl))
  obtain ⟨a, xs, ex, q⟩ := q1
  subst ex
  cases r1 with
  | cons r rr =>
    cases rr
    cases r
    have fp : ∀ b, b ∈ [s1.heap.objs.size + 1, s1.heap.objs.size] → FpOk X pins H1 b := fun b hb => by
      have e' : b = s1.heap.objs.size + 1 ∨ b = s1.heap.objs.size := by simpa using hb
      have hle : s1.heap.objs.size ≤ b := by
        rcases e' with z | z
        · rw [z]; exact Nat.le_add_right _ _
        · rw [z]; exact Nat.le_refl _
      exact I1.fpOk hle (I1.hok.fresh hle)
    rcases q with ⟨hq, q⟩ | ⟨hq, q⟩
    · obtain ⟨its, rv, p', hz⟩ := I1.list hq
      refine call_enumerate_list p'.isList fun h' he hit hsz hk => wpAny_pyIter_enum he ?_
      have I2 : Inv X pins σ H1 { s1 with heap := h' } := I1.kept (t' := s1.toks) hk
      exact ⟨s1.heap.objs.size + 1, [s1.heap.objs.size + 1, s1.heap.objs.size], _, _, H1, rfl, I2, turn_enum a (s1.heap.objs.size + 1) s1.heap.objs.size, ⟨⟨.none, he⟩, hit, Nat.succ_ne_self _⟩, fp, q⟩
    · obtain ⟨its, rv, p', hz⟩ := I1.tuple hq
      obtain ⟨o1, ho1, _⟩ := id p'
      have hlt := Heap.lt_size ho1
      refine call_enum_tup (show s1.heap.IsTuple a its.toArray from p') fun h' he hit hsz hk => wpAny_pyIter_enum he ?_
      have I2 : Inv X pins σ H1 { s1 with heap := h' } := I1.kept (t' := s1.toks) hk
      exact ⟨s1.heap.objs.size + 1, [s1.heap.objs.size + 1, s1.heap.objs.size], _, _, H1, rfl, I2, turn_enumT a (s1.heap.objs.size + 1) s1.heap.objs.size (Nat.ne_of_lt hlt) (Nat.ne_of_lt (Nat.lt_succ_of_lt hlt)), ⟨⟨.none, he⟩, hit, Nat.succ_ne_self _⟩, fp, q⟩
end ZE
set_option Elab.async false
set_option linter.all false
set_option maxRecDepth 100000
set_option maxHeartbeats 1000000
/-! SndI: zip, range with three, reversed(range). -/
namespace Sd
open PySem PySem.Spec PyProof.Rows L2 Py
section
variable {pl : Pl} {K : PySem.W.Frag} {ρ ρ' : List Addr} {H H' H0 : Hp} {g : G} {a b : Addr} {v : V} {d : D}
def zipAt (xs ys : List D) (i : Nat) : Option D := match xs[i]?, ys[i]? with
  | some x, some y => some (.tup [x, y])
  | _, _ => none
theorem rel_zipT {xs ys : List D} {vs ws : List V} (ha : SqT K H a vs) (hb : SqT K H b ws) (r1 : RVs K ρ H xs vs) (r2 : RVs K ρ H ys ws) : relI pl K ρ H0 H (RZ.ItzT K a b) (.zipT xs ys) := by
  intro ρ' H' e g rg i o eo
  have q1 := r1.mono e
  have q2 := r2.mono e
  have s1 := e.sqT ha
  have s2 := e.sqT hb
  cases eo
  cases e1 : xs[i]? with
  | none =>
    exact ⟨vs, ws, s1, s2, .inl (by rw [q1.len]; exact List.getElem?_eq_none_iff.mp e1)⟩
  | some x =>
    cases e2 : ys[i]? with
    | none => exact ⟨vs, ws, s1, s2, .inr (by rw [q2.len]; exact List.getElem?_eq_none_iff.mp e2)⟩
    | some y =>
      obtain ⟨u, u1, u2⟩ := q1.get e1
      obtain ⟨t, t1, t2⟩ := q2.get e2
      refine ⟨⟨vs, ws, u, t, s1, s2, u1, t1⟩, fun z H'' yy => ?_⟩
      obtain ⟨p, x', y', rfl, hp, rfl, f1, f2⟩ := yy
      have c1 := f1 vs s1
      have c2 := f2 ws s2
      rw [u1] at c1
      rw [t1] at c2
      cases c1
      cases c2
      have e : Ext ρ' ρ' H' (upd H' p (.tup [u, t])) := .fresh hp
      exact ⟨ρ', e, rg.fresh hp, RV.tup upd_same (.cons (u2.mono e) (.one (t2.mono e)))⟩
theorem rel_zipL {n m : Nat} (hn : ρ[n]? = some a) (hm : ρ[m]? = some b) : relI pl K ρ H0 H (Itz K a b) (.zipL n m) := by
  intro ρ' H' e g rg i o eo
  simp only [turn] at eo
  split at eo
  · rename_i xs ys e1 e2
    obtain ⟨vs, s1, q1⟩ := rg.of e1 (e.at hn)
    obtain ⟨ws, s2, q2⟩ := rg.of e2 (e.at hm)
    cases eo
    cases e1 : xs[i]? with
    | none =>
      exact ⟨vs, ws, .of s1, .of s2, .inl (by rw [q1.len]; exact List.getElem?_eq_none_iff.mp e1)⟩
    | some x =>
      cases e2 : ys[i]? with
      | none => exact ⟨vs, ws, .of s1, .of s2, .inr (by rw [q2.len]; exact List.getElem?_eq_none_iff.mp e2)⟩
      | some y =>
        obtain ⟨u, u1, u2⟩ := q1.get e1
        obtain ⟨t, t1, t2⟩ := q2.get e2
        refine ⟨⟨vs, ws, u, t, .of s1, .of s2, u1, t1⟩, fun z H'' yy => ?_⟩
        obtain ⟨p, x', y', rfl, hp, rfl, f1, f2⟩ := yy
        have c1 := f1 vs (.of s1)
        have c2 := f2 ws (.of s2)
        rw [u1] at c1
        rw [t1] at c2
        cases c1
        cases c2
        have e : Ext ρ' ρ' H' (upd H' p (.tup [u, t])) := .fresh hp
        exact ⟨ρ', e, rg.fresh hp, RV.tup upd_same (.cons (u2.mono e) (.one (t2.mono e)))⟩
  · cases eo
theorem rel_enumTT {ds : List D} {vs : List V} (hs : SqT K H a vs) (r : RVs K ρ H ds vs) : relI pl K ρ H0 H (ZE.IteT K a) (.enumT ds) := by
  intro ρ' H' e g rg i o eo
  cases eo
  have h' := e.sqT hs
  have r' := r.mono e
  cases ed : ds[i]? with
  | none =>
    refine ⟨vs, h', ?_⟩
    rw [r'.len]
    exact List.getElem?_eq_none_iff.mp ed
  | some d =>
    obtain ⟨w, h1, h2⟩ := r'.get ed
    refine ⟨⟨vs, w, h', h1⟩, fun x H'' y => ?_⟩
    obtain ⟨p, x', rfl, hp, rfl, y⟩ := y
    have := y vs h'
    rw [h1] at this
    cases this
    have e : Ext ρ' ρ' H' (upd H' p (.tup [.int (i : Nat), w])) := .fresh hp
    exact ⟨ρ', e, rg.fresh hp, RV.tup upd_same (.cons (RV.int _) (.one (h2.mono e)))⟩
theorem rel_rngC {lo c : Int} {n : Nat} : relI pl K ρ H0 H (Itc lo c n) (.rngC lo c n) := by
  intro ρ' H' e g rg i o eo
  cases eo
  by_cases h : i < n
  · rw [if_pos h]
    refine ⟨h, fun x H'' y => ?_⟩
    obtain ⟨rfl, rfl⟩ := y
    exact ⟨ρ', .refl, rg, RV.int _⟩
  · rw [if_neg h]
    exact Nat.le_of_not_lt h
end
section
variable {T : Tb} {pl : Pl} {X : Cx} {k : Nat} {N : List Str} {sc : Scope} {W : WX} {ia ib ic : E} {ie : Es} {a b c tg : Expr} {es : List Expr} {pos : Pos}
theorem tE_imp {σ : L2.St} {H : Hp} {Q Q2 : V → Hp → Prop} {e : E} (h : tE T pl X.K k W e σ H Q) (f : ∀ v H', Q v H' → Q2 v H') : tE T pl X.K k W e σ H Q2 := by
  obtain ⟨ρ, L, g, rl, rg, h⟩ := h
  exact ⟨ρ, L, g, rl, rg, h.imp f⟩
theorem tup_of {ρ : List Addr} {H H1 : Hp} {v : V} {x : XV} {xs : List D} (e : tupOf x = some xs) (rx : RX X.K ρ H1 H v x) : ∃ p vs, v = .ref p ∧ SqT X.K H p vs ∧ RVs X.K ρ H xs vs := by
  cases x with
  | tmp _ => cases e
  | d d =>
    cases d with
    | tup ys =>
      cases e
      obtain ⟨p, vs, rfl, hp, r⟩ := rx_tup rx
      exact ⟨p, vs, rfl, .of hp, r⟩
    | kt ys =>
      cases e
      obtain ⟨p, vs, rfl, hp, r⟩ := rx_kt rx
      exact ⟨p, vs, rfl, hp, r⟩
    | _ => cases e
/-- what zip leads to, with any target -/
theorem zip_po {σ : L2.St} {H : Hp} {R : L2.It → Hp → Prop} {ρ : List Addr} {L : Lc} {g : G} {la lb : E} (rl : RL X.K ρ H σ L) (rg : RG pl X.K ρ H g)
    (h : Po pl X.K (relI pl X.K) ρ H (wish pl W σ) R (evI T (runF T k) (.zip la lb) L g)) :
    tE T pl X.K k W la σ H fun v H1 => tE T pl X.K k W lb σ H1 fun u H2 => ∃ p q xs ys, v = .ref p ∧ u = .ref q ∧ ((SqL X.K H2 p xs ∧ SqL X.K H2 q ys ∧ R (Itz X.K p q) H2) ∨ (SqT X.K H2 p xs ∧ SqT X.K H2 q ys ∧ R (RZ.ItzT X.K p q) H2)) := by
  rw [evI] at h
  refine ⟨ρ, L, g, rl, rg, (h.bind (Rel := relX X.K) since_I).imp fun v H1 ⟨ρ1, x, g1, e1, rg1, rx, h⟩ => ?_⟩
  refine ⟨ρ1, L, g1, rl.mono e1, rg1, (h.bind (Rel := relX X.K) since_I).imp fun u H2 ⟨ρ2, y, g2, e2, rg2, ry, h⟩ => ?_⟩
  split at h
  · rename_i xs ys e3 e4
    obtain ⟨p, vs, rfl, s1, r1⟩ := tup_of e3 rx
    obtain ⟨q, ws, rfl, s2, r2⟩ := tup_of e4 ry
    have s1' := e2.sqT s1
    exact ⟨p, q, vs, ws, rfl, rfl, .inr ⟨s1', s2, h ρ2 H2 _ .refl rg2 (rel_zipT (H0 := H1) s1' s2 (r1.mono e2) r2)⟩⟩
  · have key : ∃ n m, x = .d (.ref n) ∧ y = .d (.ref m) := by
      split at h
      · exact ⟨_, _, rfl, rfl⟩
      · exact h.elim
    obtain ⟨n, m, rfl, rfl⟩ := key
    simp only at h
    split at h
    · rename_i xs ys e5 e6
      obtain ⟨p, rfl, hn⟩ := (show ∃ p, v = .ref p ∧ ρ1[n]? = some p from rx)
      obtain ⟨vs, s1, r1⟩ := rg2.of e5 (e2.at hn)
      obtain ⟨q, rfl, hm, ws, s2, r2⟩ := rx_obj rg2 ry e6
      exact ⟨p, q, vs, ws, rfl, rfl, .inl ⟨.of s1, .of s2, h ρ2 H2 _ .refl rg2 (rel_zipL (H0 := H1) (e2.at hn) hm)⟩⟩
    · exact h.elim
theorem i_enum {p1 tpos : Pos} {elts : List Expr} {kk : Nat} (G : Good T pl k N sc W X) (hg : Gl X "enumerate") (ha : PE X a (tE T pl X.K k W ia)) (hs : ∀ r, starEach (a :: r) X.env = (false, eval a X.env) :: starEach r X.env) :
    PI X (.Tuple elts kk tpos) (.Call (.Name "enumerate" p1) [a] [] pos) (tI T pl X.K k W (.enum ia)) := by
  have hm := G.top.blt "enumerate" (by decide +kernel)
  refine ⟨fun pins s σ H R I h => (ZE.pi_enumA hg hm (pa_cons ha pa_nil (hs _)) (by rw [hs []]; rfl)).run pins s σ H R I ?_⟩
  obtain ⟨ρ, L, g, rl, rg, h⟩ := h
  rw [evI] at h
  refine ⟨ρ, L, g, rl, rg, (h.bind (Rel := relX X.K) since_I).imp fun v H1 ⟨ρ1, x, g1, e1, rg1, rx, h⟩ => ?_⟩
  split at h
  · rename_i xs
    obtain ⟨p, vs, rfl, hp, r, n, z⟩ := rx
    exact ⟨p, vs, rfl, .inl ⟨.of hp, h ρ1 H1 _ .refl rg1 (rel_enumT (H0 := H1) (fun ρ2 H2 e2 => .of (e2.keep _ _ hp n)) r)⟩⟩
  · rename_i xs
    obtain ⟨p, vs, rfl, hp, r⟩ := rx_tup rx
    exact ⟨p, vs, rfl, .inr ⟨.of hp, h ρ1 H1 _ .refl rg1 (rel_enumTT (H0 := H1) (.of hp) r)⟩⟩
  · rename_i xs
    obtain ⟨p, vs, rfl, hp, r⟩ := rx_kt rx
    exact ⟨p, vs, rfl, .inr ⟨hp, h ρ1 H1 _ .refl rg1 (rel_enumTT (H0 := H1) hp r)⟩⟩
  · rename_i n
    split at h
    · rename_i xs eg
      obtain ⟨p, rfl, hn, vs, hp, r⟩ := rx_obj rg1 rx eg
      exact ⟨p, vs, rfl, .inl ⟨.of hp, h ρ1 H1 _ .refl rg1 (rel_enumL (H0 := H1) hn)⟩⟩
    · exact h.elim
  · exact h.elim
theorem i_zip {p1 tpos : Pos} {elts : List Expr} {kk : Nat} (G : Good T pl k N sc W X) (hg : Gl X "zip") (ha : PE X a (tE T pl X.K k W ia)) (hb : PE X b (tE T pl X.K k W ib)) (hs : ∀ r, starEach (a :: r) X.env = (false, eval a X.env) :: starEach r X.env) (hs2 : ∀ r, starEach (b :: r) X.env = (false, eval b X.env) :: starEach r X.env) :
    PI X (.Tuple elts kk tpos) (.Call (.Name "zip" p1) [a, b] [] pos) (tI T pl X.K k W (.zip ia ib)) := by
  have hm := G.top.blt "zip" (by decide +kernel)
  refine ⟨fun pins s σ H R I h => (RZ.pi_zipA hg hm (pa_cons ha (pa_cons hb pa_nil (hs2 _)) (hs _)) (by rw [hs]) (by rw [hs2]; rfl)).run pins s σ H R I ?_⟩
  obtain ⟨ρ, L, g, rl, rg, h⟩ := h
  have h := zip_po rl rg h
  refine tE_imp h fun v H1 h => tE_imp h fun u H2 h => ?_
  obtain ⟨p, q, xs, ys, rfl, rfl, h⟩ := h
  exact ⟨p, q, xs, ys, rfl, h⟩
theorem i_zipt {p1 : Pos} (G : Good T pl k N sc W X) (hg : Gl X "zip") (ht : ZN.NameT tg) (ha : PE X a (tE T pl X.K k W ia)) (hb : PE X b (tE T pl X.K k W ib)) (hs : ∀ r, starEach (a :: r) X.env = (false, eval a X.env) :: starEach r X.env) (hs2 : ∀ r, starEach (b :: r) X.env = (false, eval b X.env) :: starEach r X.env) :
    PI X tg (.Call (.Name "zip" p1) [a, b] [] pos) (tI T pl X.K k W (.zipt ia ib)) := by
  have hm := G.top.blt "zip" (by decide +kernel)
  refine ⟨fun pins s σ H R I h => (ZN.pi_zipN ht hg hm (pa_cons ha (pa_cons hb pa_nil (hs2 _)) (hs _)) (by rw [hs]) (by rw [hs2]; rfl)).run pins s σ H R I ?_⟩
  obtain ⟨ρ, L, g, rl, rg, h⟩ := h
  rw [evI] at h
  refine ⟨ρ, L, g, rl, rg, (h.bind (Rel := relX X.K) since_I).imp fun v H1 ⟨ρ1, x, g1, e1, rg1, rx, h⟩ => ?_⟩
  refine ⟨ρ1, L, g1, rl.mono e1, rg1, (h.bind (Rel := relX X.K) since_I).imp fun u H2 ⟨ρ2, y, g2, e2, rg2, ry, h⟩ => ?_⟩
  split at h
  · rename_i xs ys e3 e4
    obtain ⟨p, vs, rfl, s1, r1⟩ := tup_of e3 rx
    obtain ⟨q, ws, rfl, s2, r2⟩ := tup_of e4 ry
    have s1' := e2.sqT s1
    exact ⟨p, q, vs, ws, rfl, s1', s2, h ρ2 H2 _ .refl rg2 (rel_zipT (H0 := H1) s1' s2 (r1.mono e2) r2)⟩
  · exact h.elim
theorem i_revr {p0 p1 pos1 : Pos} (G : Good T pl k N sc W X) (hg : Gl X "reversed") (hg1 : Gl X "range") (ha : PE X a (tE T pl X.K k W ia)) (hs : ∀ r, starEach (a :: r) X.env = (false, eval a X.env) :: starEach r X.env) :
    PI X tg (.Call (.Name "reversed" p0) [.Call (.Name "range" p1) [a] [] pos1] [] pos) (tI T pl X.K k W (.revr (.cons ia .nil))) := by
  have hm := G.top.blt "reversed" (by decide +kernel)
  have hm1 := G.top.blt "range" (by decide +kernel)
  refine ⟨fun pins s σ H R I h => (pi_revR hg hm (prg_1 hg1 hm1 ha (hs _)) rfl).run pins s σ H R I ?_⟩
  obtain ⟨ρ, L, g, rl, rg, h⟩ := h
  rw [evI] at h
  refine ⟨ρ, L, g, rl, rg, (h.bind (Rel := relX X.K) since_I).imp fun v H1 ⟨ρ1, x, g1, e1, rg1, rx, h⟩ => ?_⟩
  split at h
  · rename_i j
    split at h
    · rename_i hj
      simp only [Bool.and_eq_true, decide_eq_true_eq] at hj
      obtain rfl := rx_int rx
      refine ⟨j, rfl, by decide, by decide, hj.1, hj.2, ?_⟩
      by_cases h0 : 0 ≤ j
      · have z : (0 : Int) + (((j - 0).toNat : Nat) : Int) - 1 = j - 1 := by omega
        have z2 : (j - 0).toNat = j.toNat := by omega
        rw [z, z2]
        exact h ρ1 H1 _ .refl rg1 (rel_rngC (H0 := H1))
      · have z2 : (j - 0).toNat = 0 := by omega
        rw [z2]
        refine h ρ1 H1 _ .refl rg1 ?_
        intro ρ' H' e g rg i o eo
        cases eo
        have z3 : j.toNat = 0 := by omega
        rw [z3]
        rw [if_neg (Nat.not_lt_zero _)]
        exact Nat.zero_le _
    · exact h.elim
  · exact h.elim
end
end Sd
set_option Elab.async false
set_option linter.all false
set_option maxRecDepth 100000
set_option maxHeartbeats 1000000
/-! Snd11: statements. -/
namespace Sd
open PySem PySem.Spec PyProof.Rows L2 Py
/-- what is wanted behind a statement -/
def PoO (pl : Pl) (K : PySem.W.Frag) (ρ : List Addr) (H : Hp) (W : WX) (D' : Ends) : O → Prop
  | .nx L g => ∀ ρ' H' σ', Ext ρ ρ' H H' → RG pl K ρ' H' g → RL K ρ' H' σ' L → D'.nx σ' H'
  | .br L g => ∀ ρ' H' σ', Ext ρ ρ' H H' → RG pl K ρ' H' g → RL K ρ' H' σ' L → D'.bk σ' H'
  | .ct L g => ∀ ρ' H' σ', Ext ρ ρ' H H' → RG pl K ρ' H' g → RL K ρ' H' σ' L → D'.ct σ' H'
  | .rt d g => ∀ ρ' H' v, Ext ρ ρ' H H' → RG pl K ρ' H' g → RV K ρ' H' d v → D'.rt v H'
  | .ex x L g => ∀ ρ' H' σ', Ext ρ ρ' H H' → RG pl K ρ' H' g → RL K ρ' H' σ' L → wish pl W σ' x H'
  | .bad => False
def tS (T : Tb) (pl : Pl) (K : PySem.W.Frag) (k : Nat) (W : WX) (s : S) : TS := fun D' σ H =>
  ∃ ρ L g, RL K ρ H σ L ∧ RG pl K ρ H g ∧ PoO pl K ρ H W D' (evS T (runF T k) s L g)
def tSs (T : Tb) (pl : Pl) (K : PySem.W.Frag) (k : Nat) (W : WX) (s : Ss) : TS := fun D' σ H =>
  ∃ ρ L g, RL K ρ H σ L ∧ RG pl K ρ H g ∧ PoO pl K ρ H W D' (evSs T (runF T k) s L g)
section
variable {pl : Pl} {K : PySem.W.Frag} {ρ ρ' : List Addr} {H H' : Hp} {W : WX} {D' D2 : Ends} {o : O}
theorem PoO.shift (h : PoO pl K ρ H W D' o) (e : Ext ρ ρ' H H') : PoO pl K ρ' H' W D' o := by
  cases o with
  | bad => exact h
  | _ => exact fun ρ2 H2 v f rg r => h ρ2 H2 v (e.trans f) rg r
/-- an expression ahead -/
theorem PoO.toO {α β : Type} {Rel : List Addr → Hp → Hp → β → α → Prop} {r : Py.R α} {L : Lc} {σ : L2.St} {f : α → G → O} (h : PoO pl K ρ H W D' (r.toO L f)) (rl : RL K ρ H σ L) :
    Po pl K Rel ρ H (wish pl W σ) (fun v H1 => ∃ ρ1 x g1, Ext ρ ρ1 H H1 ∧ RG pl K ρ1 H1 g1 ∧ Rel ρ1 H H1 v x ∧ PoO pl K ρ1 H1 W D' (f x g1)) r := by
  cases r with
  | ok x g => exact fun ρ1 H1 v e rg rx => ⟨ρ1, x, g, e, rg, rx, PoO.shift h e⟩
  | ex x g => exact fun ρ1 H1 e rg => h ρ1 H1 σ e rg (rl.mono e)
  | bad => exact h
end
section
variable {T : Tb} {pl : Pl} {X : Cx} {k : Nat} {N : List Str} {sc : Scope} {W : WX} {ia ib ic : E} {ie : Es} {a b c tg : Expr} {es : List Expr} {pos : Pos} {st : Stmt} {sts : List Stmt} {is_ : S} {iss iss2 : Ss}
theorem ss_nil : PSs X [] (tSs T pl X.K k W .nil) := ⟨fun pins s σ H D' I h => pss_nil.run pins s σ H D' I (by
  obtain ⟨ρ, L, g, rl, rg, h⟩ := h
  rw [evSs] at h
  exact h ρ H σ .refl rg rl)⟩
theorem ss_cons (h1 : PS X st (tS T pl X.K k W is_)) (h2 : PSs X sts (tSs T pl X.K k W iss)) : PSs X (st :: sts) (tSs T pl X.K k W (.cons is_ iss)) := ⟨fun pins s σ H D' I h => (pss_cons h1 h2).run pins s σ H D' I (by
  obtain ⟨ρ, L, g, rl, rg, h⟩ := h
  rw [evSs] at h
  refine ⟨ρ, L, g, rl, rg, ?_⟩
  revert h
  cases evS T (runF T k) is_ L g with
  | nx L1 g1 => exact fun h ρ1 H1 σ1 e rg1 rl1 => ⟨ρ1, L1, g1, rl1, rg1, PoO.shift h e⟩
  | _ => exact id)⟩
theorem s_pass : PS X (.Pass pos) (tS T pl X.K k W .pass) := ⟨fun pins s σ H D' I h => ps_pass.run pins s σ H D' I (by
  obtain ⟨ρ, L, g, rl, rg, h⟩ := h
  rw [evS] at h
  exact h ρ H σ .refl rg rl)⟩
theorem s_brk : PS X (.Break pos) (tS T pl X.K k W .brk) := ⟨fun pins s σ H D' I h => ps_break.run pins s σ H D' I (by
  obtain ⟨ρ, L, g, rl, rg, h⟩ := h
  rw [evS] at h
  exact h ρ H σ .refl rg rl)⟩
theorem s_cnt : PS X (.Continue pos) (tS T pl X.K k W .cnt) := ⟨fun pins s σ H D' I h => ps_continue.run pins s σ H D' I (by
  obtain ⟨ρ, L, g, rl, rg, h⟩ := h
  rw [evS] at h
  exact h ρ H σ .refl rg rl)⟩
theorem s_ret (ha : PE X a (tE T pl X.K k W ia)) : PS X (.Return (some a) pos) (tS T pl X.K k W (.ret ia)) := ⟨fun pins s σ H D' I h => (ps_ret (s_lay ha)).run pins s σ H D' I (by
  obtain ⟨ρ, L, g, rl, rg, h⟩ := h
  rw [evS] at h
  exact ⟨ρ, L, g, rl, rg, (PoO.toO (Rel := relD X.K) h rl).imp fun v H1 ⟨ρ1, d, g1, e1, rg1, rx, h⟩ => h ρ1 H1 v .refl rg1 rx⟩)⟩
theorem s_ret0 : PS X (.Return none pos) (tS T pl X.K k W .ret0) := ⟨fun pins s σ H D' I h => ps_retN.run pins s σ H D' I (by
  obtain ⟨ρ, L, g, rl, rg, h⟩ := h
  rw [evS] at h
  exact h ρ H _ .refl rg RV.non)⟩
/-- no comprehension at the top -/
def noLc : Expr → Bool
  | .ListComp .. | .SetComp .. | .DictComp .. => false
  | _ => true
theorem noLc_sw (h : noLc a = true) (t : Option Expr) (l : Nat) (env : Env) : swapsWith a t l env = pure false := by
  cases a <;> first | rfl | cases h
theorem s_ex (hn : noLc a = true) (ha : PE X a (tE T pl X.K k W ia)) : PS X (.Expr a pos) (tS T pl X.K k W (.ex ia)) := ⟨fun pins s σ H D' I h => (ps_expr ha (noLc_sw hn _ _ _)).run pins s σ H D' I (by
  obtain ⟨ρ, L, g, rl, rg, h⟩ := h
  rw [evS] at h
  exact ⟨ρ, L, g, rl, rg, (PoO.toO (Rel := relX X.K) h rl).imp fun v H1 ⟨ρ1, d, g1, e1, rg1, rx, h⟩ => h ρ1 H1 σ .refl rg1 (rl.mono e1)⟩)⟩
theorem s_if (hc : PT X c (tT T pl X.K k W ic)) (h1 : PSs X sts (tSs T pl X.K k W iss)) {sts2 : List Stmt} (h2 : PSs X sts2 (tSs T pl X.K k W iss2)) : PS X (.If c sts sts2 pos) (tS T pl X.K k W (.ifs ic iss iss2)) := ⟨fun pins s σ H D' I h => (ps_if hc h1 h2).run pins s σ H D' I (by
  obtain ⟨ρ, L, g, rl, rg, h⟩ := h
  rw [evS] at h
  refine ⟨ρ, L, g, rl, rg, (PoO.toO (Rel := relB) h rl).imp fun v H1 ⟨ρ1, d, g1, e1, rg1, rx, h⟩ => ?_⟩
  obtain rfl : v = d := rx
  cases v with
  | true => rw [if_pos rfl] at h ⊢; exact ⟨ρ1, L, g1, rl.mono e1, rg1, h⟩
  | false => rw [if_neg (by decide)] at h ⊢; exact ⟨ρ1, L, g1, rl.mono e1, rg1, h⟩)⟩
theorem s_whl (po : PassesOwn (model X.prog X.w) X.A X.env X.xe) (hc : PT X c (tT T pl X.K k W ic)) (h1 : PSs X sts (tSs T pl X.K k W iss)) : PS X (.While c sts [] pos) (tS T pl X.K k W (.whl ic iss)) := ⟨fun pins s σ H D' I h => (ps_while po hc h1).run pins s σ H D' I (by
  obtain ⟨ρ, L, g, rl, rg, h⟩ := h
  rw [evS] at h
  refine ⟨fun m σ H => ∃ ρ L g, RL X.K ρ H σ L ∧ RG pl X.K ρ H g ∧ PoO pl X.K ρ H W D' (loopW (fun L g => (ev T (runF T k) ic L g).test) (fun L g => evSs T (runF T k) iss L g) m L g), ⟨fuel, ρ, L, g, rl, rg, h⟩, ?_⟩
  rintro m σ H ⟨ρ, L, g, rl, rg, h⟩
  cases m with
  | zero => exact h.elim
  | succ m =>
    rw [loopW] at h
    refine ⟨ρ, L, g, rl, rg, ?_⟩
    revert h
    simp only
    cases (ev T (runF T k) ic L g).test with
    | bad => exact id
    | ex x g1 => exact fun h ρ1 H1 e rg1 => h ρ1 H1 σ e rg1 (rl.mono e)
    | ok t g1 =>
      intro h ρ1 H1 t' e rg1 et
      obtain rfl : t' = t := et
      have rl1 := rl.mono e
      cases t' with
      | false =>
        rw [if_neg (by decide)]
        exact h ρ1 H1 σ e rg1 rl1
      | true =>
        rw [if_pos rfl]
        have h := PoO.shift h e
        refine ⟨fun σ' H' => ∃ ρ L g, RL X.K ρ H' σ' L ∧ RG pl X.K ρ H' g ∧ PoO pl X.K ρ H' W D' (loopW (fun L g => (ev T (runF T k) ic L g).test) (fun L g => evSs T (runF T k) iss L g) m L g), fun σ' H' q => ⟨m, Nat.lt_succ_self _, q⟩, ρ1, L, g1, rl1, rg1, ?_⟩
        revert h
        simp only
        cases evSs T (runF T k) iss L g1 with
        | nx L2 g2 => exact fun h ρ2 H2 σ2 e2 rg2 rl2 => ⟨ρ2, L2, g2, rl2, rg2, PoO.shift h e2⟩
        | ct L2 g2 => exact fun h ρ2 H2 σ2 e2 rg2 rl2 => ⟨ρ2, L2, g2, rl2, rg2, PoO.shift h e2⟩
        | br L2 g2 => exact id
        | rt d g2 => exact id
        | ex x L2 g2 => exact id
        | bad => exact id)⟩
theorem s_for {t : Tg} {src : Src} {iter : Expr} (po : PassesOwn (model X.prog X.w) X.A X.env X.xe) (C0 : Calm k X) (hi : PI X tg iter (tI T pl X.K k W src)) (hg : PG X tg (tG pl X.K t)) (h1 : PSs X sts (tSs T pl X.K k W iss)) (hs : ∀ x, foldedSetIterable iter X.env x = pure x) :
    PS X (.For tg iter sts [] pos) (tS T pl X.K k W (.for t src iss)) := ⟨fun pins s σ H D' I h => (ps_for po C0.calm hi hg h1 hs).run pins s σ H D' I (by
  obtain ⟨ρ, L, g, rl, rg, h⟩ := h
  rw [evS] at h
  refine ⟨ρ, L, g, rl, rg, (PoO.toO (Rel := relI pl X.K) h rl).imp fun J H1 ⟨ρ1, it, g1, e1, rg1, ri, h⟩ => ?_⟩
  refine ⟨fun i m σ H => ∃ ρ L g, Ext ρ1 ρ H1 H ∧ RL X.K ρ H σ L ∧ RG pl X.K ρ H g ∧ PoO pl X.K ρ H W D' (loopF it t (fun L g => evSs T (runF T k) iss L g) m i L g), ⟨fuel, ρ1, L, g1, .refl, rl.mono e1, rg1, h⟩, ?_⟩
  rintro i m σ H ⟨ρ, L, g, e0, rl, rg, h⟩
  cases m with
  | zero => exact h.elim
  | succ m =>
    have st := ri ρ H e0 g rg i
    rw [loopF] at h
    cases et : turn g it i with
    | none => rw [et] at h; exact h.elim
    | some o =>
      have st := st o et
      rw [et] at h
      cases o with
      | none => exact .inl ⟨st, h ρ H σ .refl rg rl⟩
      | some d =>
        simp only at h
        obtain ⟨go, st⟩ := st
        refine .inr ⟨go, fun σ' H' => ∃ ρ L g, Ext ρ1 ρ H1 H' ∧ RL X.K ρ H' σ' L ∧ RG pl X.K ρ H' g ∧ PoO pl X.K ρ H' W D' (loopF it t (fun L g => evSs T (runF T k) iss L g) m (i + 1) L g), fun σ' H' q => ⟨m, Nat.lt_succ_self _, q⟩, fun x H3 y => ?_⟩
        obtain ⟨ρ3, e3, rg3, rv3⟩ := st x H3 y
        cases ea : asg t d g L with
        | none => rw [ea] at h; exact h.elim
        | some L1 =>
          rw [ea] at h
          simp only at h
          have h := PoO.shift h e3
          have x3 := e0.trans e3
          refine ⟨ρ3, L, g, d, L1, (rl.mono e3).x _, rg3, rv3, ea, fun σ1 rl3 _ _ => ⟨ρ3, L1, g, rl3, rg3, ?_⟩⟩
          revert h
          cases evSs T (runF T k) iss L1 g with
          | nx L2 g2 => exact fun h ρ2 H2 σ2 e2 rg2 rl2 => ⟨ρ2, L2, g2, x3.trans e2, rl2, rg2, PoO.shift h e2⟩
          | ct L2 g2 => exact fun h ρ2 H2 σ2 e2 rg2 rl2 => ⟨ρ2, L2, g2, x3.trans e2, rl2, rg2, PoO.shift h e2⟩
          | br L2 g2 => exact id
          | rt d g2 => exact id
          | ex x L2 g2 => exact id
          | bad => exact id)⟩

/-! ### assignments -/
theorem go_set {t : Tg} {D' : Ends} {σ : L2.St} {H : Hp} (h : tS T pl X.K k W (.set t ia) D' σ H) : tAsg (tD T pl X.K k W ia) (tG pl X.K t) D' σ H := by
  obtain ⟨ρ, L, g, rl, rg, h⟩ := h
  rw [evS] at h
  refine ⟨ρ, L, g, rl, rg, (PoO.toO (Rel := relD X.K) h rl).imp fun v H1 ⟨ρ1, d, g1, e1, rg1, rx, h⟩ => ?_⟩
  cases ea : asg t d g1 L with
  | none => rw [ea] at h; exact h.elim
  | some L1 =>
    rw [ea] at h
    exact ⟨ρ1, L, g1, d, L1, (rl.mono e1).x _, rg1, rx, ea, fun σ1 rl1 _ _ => h ρ1 H1 σ1 .refl rg1 rl1⟩
def plainTg : Expr → Bool
  | .Name .. => true
  | .Tuple .. => true
  | _ => false
theorem asgEach (h : plainTg tg = true) (env : Env) : (assignEach [tg] env).map (·.2) = [assign tg env] := by
  cases tg <;> first | rfl | cases h
theorem s_set {t : Tg} (ht : plainTg tg = true) (hg : PG X tg (tG pl X.K t)) (ha : PE X a (tE T pl X.K k W ia)) (hs : swapsWithSole [tg] a pos.line X.env = pure false) (hw : swappedStores [tg] a X.env = pure none) : PS X (.Assign [tg] a pos) (tS T pl X.K k W (.set t ia)) :=
  ⟨fun pins s σ H D' I h => (ps_asg (s_lay ha) hg hs hw (asgEach ht _)).run pins s σ H D' I (go_set h)⟩
/-- name = [..] where the list is stored from within -/
theorem s_setLc {i : Nat} {y : Str} {py spos : Pos} {elt iter : Expr} {ifs : List Expr} {scope : Scope} {own : List (Str × Nat)} {t : Tg} {src : Src} (G : Good T pl k N sc W X) (C0 : Calm k X) (hy : X.N[i]? = some y) (hyl : X.env.scope.names.lookup y = some .local)
    (hsw : swapsWith (.ListComp elt [⟨tg, iter, ifs, 0⟩] scope pos) (some (.Name y py)) spos.line X.env = pure true) (hi : PI X tg iter (tI T pl X.K k W src)) (ok : BlkOk X.N X.env.scope scope own) (hown : own.map (·.2) = t.own)
    (hg : ∀ (s : Shared) (H : Hp) (C : Addr) (cl : List (Str × Addr)) (fp : List Addr), PG (X.blk s H scope (compEnvC scope cl C X.env) fp) tg (tG pl X.K t))
    (ht : ∀ (s : Shared) (H : Hp) (C : Addr) (cl : List (Str × Addr)) (fp : List Addr), PTs (X.blk s H scope (compEnvC scope cl C X.env) fp) ifs (tT T pl X.K k noW ic))
    (he : ∀ (s : Shared) (H : Hp) (C : Addr) (cl : List (Str × Addr)) (fp : List Addr), PE (X.blk s H scope (compEnvC scope cl C X.env) fp) elt (tE T pl X.K k noW ia)) (hs : ∀ x, foldedSetIterable iter X.env x = pure x) :
    PS X (.Assign [.Name y py] (.ListComp elt [⟨tg, iter, ifs, 0⟩] scope pos) spos) (tS T pl X.K k W (.set (.nm i) (.comp t src ic ia))) := by
  refine ⟨fun pins s σ H D' I h => (ps_setLc (te := tD T pl X.K k noW ia) C0.calm (by rw [G.hN]; exact G.nd) hy hyl hsw hi ok hg ht (fun s H C cl fp => s_lay (T := T) (pl := pl) (k := k) (W := noW) (he s H C cl fp)) hs).run pins s σ H D' I ?_⟩
  obtain ⟨ρ, L, g, rl, rg, h⟩ := h
  rw [evS] at h
  refine go_comp hown ⟨ρ, L, g, rl, rg, Po.lay ((PoO.toO (Rel := relD X.K) h rl).imp fun v H1 ⟨ρ1, d, g1, e1, rg1, rx, h⟩ => ?_)⟩
  exact h ρ1 H1 _ .refl rg1 ((rl.mono e1).set rx i)
theorem s_par {i j : Nat} {x y : Str} {px py pt : Pos} {kt k2 pt2} (G : Good T pl k N sc W X) (C0 : Calm k X) (hi : X.N[i]? = some x) (hj : X.N[j]? = some y) (hij : i ≠ j)
    (hx : X.env.scope.names.lookup x = some .local) (hy : X.env.scope.names.lookup y = some .local) (ha : PE X a (tE T pl X.K k W ia)) (hb : PE X b (tE T pl X.K k W ib)) (hs1 : ∀ r, starEach (a :: r) X.env = (false, eval a X.env) :: starEach r X.env) (hs2 : ∀ r, starEach (b :: r) X.env = (false, eval b X.env) :: starEach r X.env)
    (hw : swappedStores [.Tuple [.Name x px, .Name y py] kt pt] (.Tuple [a, b] k2 pt2) X.env = pure (some [x, y])) :
    PS X (.Assign [.Tuple [.Name x px, .Name y py] kt pt] (.Tuple [a, b] k2 pt2) pos) (tS T pl X.K k W (.par i j ia ib)) := by
  refine ⟨fun pins s σ H D' I h => (ps_par C0.calm (by rw [G.hN]; exact G.nd) hi hj hij hx hy (pa_cons (s_lay ha) (pa_cons (s_lay hb) pa_nil (hs2 _)) (hs1 _)) hw rfl).run pins s σ H D' I ?_⟩
  obtain ⟨ρ, L, g, rl, rg, h⟩ := h
  rw [evS] at h
  refine ⟨ρ, L, g, rl, rg, (PoO.toO (Rel := relD X.K) h rl).imp fun v H1 ⟨ρ1, d, g1, e1, rg1, rx, h⟩ => ?_⟩
  have rl1 := rl.mono e1
  refine ⟨ρ1, L, g1, rl1, rg1, (PoO.toO (Rel := relD X.K) h rl1).imp fun u H2 ⟨ρ2, d2, g2, e2, rg2, rx2, h⟩ => ?_⟩
  exact ⟨v, u, rfl, h ρ2 H2 _ .refl rg2 (((rl1.mono e2).set (rx.mono e2) i).set rx2 j)⟩
/-- an augmented operator -/
def rAug (pl : Pl) (K : PySem.W.Frag) (o : BOp) : V → V → Hp → VK → Prop := fun v u H Q => ∃ ρ x y z H1, RV K ρ H x v ∧ RX K ρ H1 H u y ∧ augop o x y = some z ∧ ∀ v', RV K ρ H z v' → Q v' H
theorem ip_aug (o : BOp) : PIp X (opOf o) (rAug pl X.K o) := by
  intro pins s σ H x y v u Q I rx ry h
  obtain ⟨ρ, dx, dy, z, H1, r1, r2, e, q⟩ := h
  unfold augop at e
  split at e
  · cases e
    obtain rfl := rv_int r1
    obtain rfl := rx_int r2
    exact iop_add pins s σ H _ _ v u Q I rx ry ⟨_, _, rfl, rfl, q _ (RV.int _)⟩
  · split at e
    · rename_i hl
      cases e
      obtain rfl := rv_str r1
      obtain rfl := rx_str r2
      refine iop_add_str pins s σ H _ _ v u Q I rx ry ⟨_, _, rfl, rfl, by rw [toS_len, toS_len, ← line_eq]; exact hl, ?_⟩
      rw [toS_append]
      exact q _ (RV.str _)
    · cases e
  · cases e
    obtain rfl := rv_int r1
    obtain rfl := rx_int r2
    exact iop_sub pins s σ H _ _ v u Q I rx ry ⟨_, _, rfl, rfl, q _ (RV.int _)⟩
  · split at e
    · rename_i hl
      cases e
      obtain rfl := rv_int r1
      obtain rfl := rx_int r2
      simp only [small, Bool.or_eq_true, Bool.and_eq_true, decide_eq_true_eq] at hl
      exact iop_mul pins s σ H _ _ v u Q I rx ry ⟨_, _, rfl, rfl, hl, q _ (RV.int _)⟩
    · cases e
  · split at e
    · rename_i hl
      cases e
      obtain rfl := rv_int r1
      obtain rfl := rx_int r2
      simp only [Bool.and_eq_true, decide_eq_true_eq] at hl
      exact iop_fdiv pins s σ H _ _ v u Q I rx ry ⟨_, _, rfl, rfl, hl, q _ (RV.int _)⟩
    · cases e
  · split at e
    · rename_i hl
      cases e
      obtain rfl := rv_int r1
      obtain rfl := rx_int r2
      exact iop_mod pins s σ H _ _ v u Q I rx ry ⟨_, _, rfl, rfl, of_decide_eq_true hl, q _ (RV.int _)⟩
    · cases e
  · cases e
theorem s_aug {i : Nat} {x : Str} {o : BOp} {px : Pos} (G : Good T pl k N sc W X) (hi : X.N[i]? = some x) (hx : Loc X.env.scope x) (hf : X.fn x = true ∨ X.env.scope.names.lookup x = some .local) (ha : PE X a (tE T pl X.K k W ia)) :
    PS X (.AugAssign (.Name x px) (opOf o) a pos) (tS T pl X.K k W (.aug i o ia)) := by
  refine ⟨fun pins s σ H D' I h => (ps_aug (by rw [G.hN]; exact G.nd) hi hx ha (ip_aug (pl := pl) o) hf).run pins s σ H D' I ?_⟩
  obtain ⟨ρ, L, g, rl, rg, h⟩ := h
  rw [evS] at h
  cases eL : L[i]? with
  | none => rw [eL] at h; exact h.elim
  | some o' =>
    rw [eL] at h
    cases o' with
    | none => exact h.elim
    | some d =>
      obtain ⟨v, hv, rv⟩ := rl.2 i d eL
      refine ⟨v, hv, ρ, L, g, rl, rg, (PoO.toO (Rel := relX X.K) h rl).imp fun u H1 ⟨ρ1, y, g1, e1, rg1, rx, h⟩ => ?_⟩
      cases ea : augop o d y with
      | none => rw [ea] at h; exact h.elim
      | some z =>
        rw [ea] at h
        exact ⟨ρ1, d, y, z, H, rv.mono e1, rx, ea, fun v' rv' => h ρ1 H1 _ .refl rg1 ((rl.mono e1).set rv' i)⟩

/-! ### attributes -/
theorem lookup_pyF (f i : Nat) (d : D) : ∀ fs : List (Nat × D), (Py.putF f d fs).lookup i = if i = f then some d else fs.lookup i
  | [] => by
    show List.lookup i [(f, d)] = _
    rw [List.lookup_cons]
    by_cases e : i = f
    · simp [e]
    · have : (i == f) = false := by simpa using e
      simp [this, e]
  | (j, x) :: r => by
    unfold Py.putF
    by_cases hj : j = f
    · subst hj
      rw [if_pos rfl, List.lookup_cons, List.lookup_cons]
      by_cases e : i = j
      · simp [e]
      · have : (i == j) = false := by simpa using e
        simp [this, e]
    · rw [if_neg hj, List.lookup_cons, List.lookup_cons, lookup_pyF f i d r]
      by_cases e : i = j
      · subst e
        simp [hj]
      · have : (i == j) = false := by simpa using e
        simp [this]
theorem len_pyF (f : Nat) (d : D) : ∀ fs : List (Nat × D), (Py.putF f d fs).length = if (fs.lookup f).isSome then fs.length else fs.length + 1
  | [] => rfl
  | (j, x) :: r => by
    unfold Py.putF
    by_cases hj : j = f
    · subst hj
      simp [List.lookup_cons]
    · have : (f == j) = false := by simpa using Ne.symm hj
      rw [if_neg hj, List.length_cons, len_pyF f d r, List.lookup_cons, this]
      simp only [List.length_cons]
      split <;> rfl
theorem len_lF (f : Str) (d : V) : ∀ fs : List (Str × V), (L2.putF f d fs).length = if (fs.lookup f).isSome then fs.length else fs.length + 1
  | [] => rfl
  | (j, x) :: r => by
    unfold L2.putF
    by_cases hj : j = f
    · subst hj
      simp [List.lookup_cons]
    · have : (f == j) = false := by simpa using Ne.symm hj
      rw [if_neg hj, List.length_cons, len_lF f d r, List.lookup_cons, this]
      simp only [List.length_cons]
      split <;> rfl
theorem RF.put {nm : Nm} {K : PySem.W.Frag} {ρ : List Addr} {H : Hp} {fs : List (Nat × D)} {fv : List (Str × V)} {f : Nat} {x : Str} {d : D} {v : V} (nd : nm.ats.Nodup) (h : RF nm K ρ H fs fv) (hx : nm.ats[f]? = some x) (r : RV K ρ H d v) : RF nm K ρ H (Py.putF f d fs) (L2.putF x v fv) := by
  obtain ⟨h1, h2, h3⟩ := h
  have same : (fs.lookup f).isSome = (fv.lookup x).isSome := by
    have := h3 f x hx
    revert this
    cases fs.lookup f with
    | none => intro this; have this : fv.lookup x = none := this; rw [this]; rfl
    | some d => intro ⟨v, this, _⟩; rw [this]; rfl
  refine ⟨?_, fun y w e => ?_, fun i y hy => ?_⟩
  · rw [len_pyF, len_lF, same]
    split <;> omega
  · rw [lookup_putF] at e
    by_cases hy : y = x
    · subst hy; exact ⟨f, hx⟩
    · rw [if_neg hy] at e
      exact h2 y w e
  · rw [lookup_pyF, lookup_putF]
    by_cases e : i = f
    · subst e
      rw [hx] at hy
      cases hy
      rw [if_pos rfl, if_pos rfl]
      exact ⟨v, rfl, r⟩
    · have hne : ¬ y = x := fun z => e (by
        subst z
        obtain ⟨l1, e1⟩ := List.getElem?_eq_some_iff.mp hy
        obtain ⟨l2, e2⟩ := List.getElem?_eq_some_iff.mp hx
        exact (List.getElem_inj nd).mp (e1.trans e2.symm))
      rw [if_neg e, if_neg hne]
      exact h3 i y hy
/-- what a store at an attribute asks -/
theorem setFld_ok {ρ : List Addr} {H : Hp} {g g' : G} {dx z : D} {vx vz : V} {f : Nat} {x : Str} (top : Top X.prog X.w X.K X.mg X.base pl T k) (hx : pl.nm.ats[f]? = some x) (rg : RG pl X.K ρ H g) (rx : RV X.K ρ H dx vx) (rz : RV X.K ρ H z vz) (e : setFld T g dx f z = some g') :
    ∃ a C dd fv, vx = .ref a ∧ H a = some (.ins C dd fv) ∧ Cls X.K C ∧ NoAttr X.K C x ∧ fv.length < 1000 ∧ (∃ C0, clsAt g dx = some C0 ∧ C = pl.ca C0) ∧ RG pl X.K ρ (upd H a (.ins C dd (L2.putF x vz fv))) g' ∧ Ext ρ ρ H (upd H a (.ins C dd (L2.putF x vz fv))) := by
  unfold setFld at e
  split at e
  · rename_i n
    split at e
    · rename_i C fs eg
      split at e
      · rename_i hc
        cases e
        simp only [Bool.and_eq_true, decide_eq_true_eq] at hc
        obtain ⟨a, dd, fv, rfl, hn, ha, hf, fi, hi⟩ := rv_noobj rg rx eg
        have hi' := hi
        rw [top.ini] at hi'
        obtain ⟨rg', x'⟩ := rg.write hn ⟨_, eg, rfl⟩ (o := .ins C (Py.putF f z fs)) (u := .ins (pl.ca C) dd (L2.putF x vz fv)) fun H' m e => ⟨⟨fi, hi⟩, dd, _, e, RF.put top.nd (hf.by_ m) hx (rz.by_ m)⟩
        exact ⟨a, pl.ca C, dd, fv, rfl, ha, top.cl C fi hi', top.nat C fi f x hi' hx (Option.isNone_iff_eq_none.mp hc.1), by have := hf.1; omega, ⟨C, by simp [clsAt, eg], rfl⟩, rg', x'⟩
      · cases e
    · cases e
  · cases e
theorem s_setF {f : Nat} {x : Str} {apos : Pos} (G : Good T pl k N sc W X) (hx : pl.nm.ats[f]? = some x) (hn : swapsWith b (some (.Attribute a x apos)) pos.line X.env = pure false) (ha : PE X a (tE T pl X.K k W ia)) (hb : PE X b (tE T pl X.K k W ib)) :
    PS X (.Assign [.Attribute a x apos] b pos) (tS T pl X.K k W (.setF ia f ib)) := by
  refine ⟨fun pins s σ H D' I h => (ps_fld ha (s_lay hb) hn).run pins s σ H D' I ?_⟩
  obtain ⟨ρ, L, g, rl, rg, h⟩ := h
  rw [evS] at h
  refine ⟨ρ, L, g, rl, rg, (PoO.toO (Rel := relD X.K) h rl).imp fun v H1 ⟨ρ1, d, g1, e1, rg1, rx, h⟩ => ?_⟩
  have rl1 := rl.mono e1
  refine ⟨ρ1, L, g1, rl1, rg1, (PoO.toO (Rel := relX X.K) h rl1).imp fun u H2 ⟨ρ2, d2, g2, e2, rg2, rx2, h⟩ => ?_⟩
  cases d2 with
  | tmp xs => exact h.elim
  | d d2 =>
    simp only at h
    cases es : setFld T g2 d2 f d with
    | none => rw [es] at h; exact h.elim
    | some g3 =>
      rw [es] at h
      obtain ⟨p, C, dd, fv, rfl, hp, c, n, l, _, rg', x'⟩ := setFld_ok G.top hx rg2 (show RV X.K ρ2 H2 d2 u from rx2) (rx.mono e2) es
      exact ⟨p, C, dd, fv, rfl, hp, c, n, l, h ρ2 _ σ x' rg' ((rl1.mono e2).mono x')⟩
theorem s_augF {f : Nat} {x : Str} {o : BOp} {apos : Pos} (G : Good T pl k N sc W X) (hx : pl.nm.ats[f]? = some x) (ha : PE X a (tE T pl X.K k W ia)) (hb : PE X b (tE T pl X.K k W ib)) :
    PS X (.AugAssign (.Attribute a x apos) (opOf o) b pos) (tS T pl X.K k W (.augF ia f o ib)) := by
  have op : InOp X (opOf o) (rAug pl X.K o) := fun pins s σ H x y u v Q I r1 r2 q => ip_aug (pl := pl) o pins s σ H x y u v Q I r1 r2 q
  refine ⟨fun pins s σ H D' I h => (ps_fldaug ha hb op).run pins s σ H D' I ?_⟩
  obtain ⟨ρ, L, g, rl, rg, h⟩ := h
  rw [evS] at h
  refine ⟨ρ, L, g, rl, rg, (PoO.toO (Rel := relX X.K) h rl).imp fun u H1 ⟨ρ1, d1, g1, e1, rg1, rx1, h⟩ => ?_⟩
  have rl1 := rl.mono e1
  cases d1 with
  | tmp xs => exact h.elim
  | d d1 =>
    simp only at h
    cases eg : getF T g1 d1 f with
    | none => rw [eg] at h; exact h.elim
    | some w =>
      rw [eg] at h
      simp only at h
      cases d1 with
      | ref n =>
        simp only [getF] at eg
        cases eo : g1[n]? with
        | none => rw [eo] at eg; cases eg
        | some ob =>
          rw [eo] at eg
          cases ob with
          | ins C fs =>
            simp only at eg
            split at eg
            · rename_i hmt
              obtain ⟨p, dd, fv, rfl, hn, hp, hf, fi, hi⟩ := rv_noobj rg1 (show RV X.K ρ1 H1 (.ref n) u from rx1) eo
              have hi' := hi
              rw [G.top.ini] at hi'
              have := hf.2.2 f x hx
              rw [eg] at this
              obtain ⟨vw, hvw, rw'⟩ := this
              refine ⟨p, pl.ca C, dd, fv, vw, rfl, hp, G.top.cl C fi hi', G.top.nat C fi f x hi' hx (Option.isNone_iff_eq_none.mp hmt), hvw, ρ1, L, g1, rl1, rg1, (PoO.toO (Rel := relX X.K) h rl1).imp fun v2 H2 ⟨ρ2, y, g2, e2, rg2, ry, h⟩ => ?_⟩
              cases ea : augop o w y with
              | none => rw [ea] at h; exact h.elim
              | some z =>
                rw [ea] at h
                simp only at h
                split at h
                · rename_i hcl
                  refine ⟨ρ2, w, y, z, H1, rw'.mono e2, ry, ea, fun v' rv' => ?_⟩
                  cases es : setFld T g2 (.ref n) f z with
                  | none => rw [es] at h; exact h.elim
                  | some g3 =>
                    rw [es] at h
                    have rp : RV X.K ρ2 H2 (.ref n) (.ref p) := RV.ref (e2.at hn)
                    obtain ⟨p', C', dd', fv', ep, hp', c, n', l, ⟨C0, hC0, hC'⟩, rg', x'⟩ := setFld_ok G.top hx rg2 rp rv' es
                    cases ep
                    have e0 : clsAt g1 (.ref n) = some C := by simp [clsAt, eo]
                    rw [e0, hC0] at hcl
                    cases hcl
                    subst hC'
                    exact ⟨dd', fv', hp', l, h ρ2 _ σ x' rg' ((rl1.mono e2).mono x')⟩
                · exact h.elim
            · cases eg
          | _ => cases eg
      | _ => cases eg
end
end Sd
set_option Elab.async false
set_option linter.all false
set_option maxRecDepth 100000
set_option maxHeartbeats 1000000
/-! Snd12: stores at subscripts, raise, try. -/
namespace Sd
open PySem PySem.Spec PyProof.Rows L2 Py
section
variable {T : Tb} {pl : Pl} {X : Cx} {k : Nat} {N : List Str} {sc : Scope} {W : WX} {ia ib ic : E} {ie : Es} {a b c tg : Expr} {es : List Expr} {pos : Pos} {st : Stmt} {sts : List Stmt} {is_ : S} {iss iss2 : Ss}
def rSet (pl : Pl) (K : PySem.W.Frag) (T : Tb) : TSet := fun o i v H Q => ∃ ρ g dO dI dV g', RG pl K ρ H g ∧ RV K ρ H dO o ∧ RV K ρ H dI i ∧ RV K ρ H dV v ∧ setIx g dO dI dV = some g' ∧ ∀ H', Ext ρ ρ H H' → RG pl K ρ H' g' → Q H'
theorem dropK_ok {κ κ' : Type} [DecidableEq κ] [DecidableEq κ'] {K : PySem.W.Frag} {ρ : List Addr} {H : Hp} (f : κ → κ') (inj : ∀ a b, f a = f b → a = b) (k : κ) : ∀ {kvs : List (κ × D)} {vs : List (κ' × V)}, vs.map (·.1) = kvs.map (fun p => f p.1) → RVs K ρ H (kvs.map (·.2)) (vs.map (·.2)) →
    (L2.dropK vs (f k)).map (·.1) = (kvs.filter fun p => decide (p.1 ≠ k)).map (fun p => f p.1) ∧ RVs K ρ H ((kvs.filter fun p => decide (p.1 ≠ k)).map (·.2)) ((L2.dropK vs (f k)).map (·.2))
  | [], [], _, r => ⟨rfl, r⟩
  | [], _ :: _, h, _ => by simp at h
  | _ :: _, [], h, _ => by simp at h
  | p :: kvs, u :: vs, h, r => by
    simp only [List.map_cons, List.cons.injEq] at h
    simp only [List.map_cons] at r
    rw [RVs] at r
    obtain ⟨v, vr, e0, r0, rr⟩ := r
    simp only [List.cons.injEq] at e0
    obtain ⟨rfl, rfl⟩ := e0
    obtain ⟨h1, h2⟩ := dropK_ok f inj k h.2 rr
    unfold L2.dropK at h1 h2 ⊢
    by_cases e : p.1 = k
    · have e' : u.1 = f k := by rw [h.1, e]
      simp only [List.filter_cons, e, e', ne_eq, not_true_eq_false, decide_false, Bool.false_eq_true, if_false]
      exact ⟨h1, h2⟩
    · have e' : ¬ u.1 = f k := by rw [h.1]; exact fun q => e (inj _ _ q)
      have f1 : (u :: vs).filter (fun kv => decide (kv.1 ≠ f k)) = u :: vs.filter (fun kv => decide (kv.1 ≠ f k)) := List.filter_cons_of_pos (by simp [e'])
      have f2 : (p :: kvs).filter (fun q => decide (q.1 ≠ k)) = p :: kvs.filter (fun q => decide (q.1 ≠ k)) := List.filter_cons_of_pos (by simp [e])
      rw [f1, f2]
      simp only [List.map_cons]
      exact ⟨by rw [h1, h.1], .cons r0 h2⟩
theorem look_some {κ κ' : Type} [DecidableEq κ] [DecidableEq κ'] {K : PySem.W.Frag} {ρ : List Addr} {H : Hp} (f : κ → κ') (inj : ∀ a b, f a = f b → a = b) (k : κ) : ∀ {kvs : List (κ × D)} {vs : List (κ' × V)}, vs.map (·.1) = kvs.map (fun p => f p.1) → RVs K ρ H (kvs.map (·.2)) (vs.map (·.2)) → (look k kvs).isSome = true → (valV vs (f k)).isSome = true := by
  intro kvs vs h r q
  rw [(look_ok f inj k h r).isSome]
  exact q
theorem set_ok (hu : X.A.units + 66 < cLine) : PSet X (rSet pl X.K T) := by
  intro pins s σ H o i v ov iv u Q I ro ri rv h
  obtain ⟨ρ, g, dO, dI, dV, g', rg, r1, r2, r3, e, q⟩ := h
  unfold setIx at e
  split at e
  · rename_i n
    split at e
    · rename_i xs eg
      split at e
      · rename_i j
        cases ej : Py.ixN xs.length j with
        | none => rw [ej] at e; cases e
        | some m =>
          rw [ej] at e
          cases e
          obtain ⟨p, rfl, hn, vs, hp, hr⟩ := ref_obj rg r1 eg
          obtain rfl := rv_int r2
          obtain ⟨rg', x'⟩ := lst_write (vs := vs) rg hn eg (hr.set r3 m)
          refine set_list pins s σ H _ _ v ov iv u Q I ro ri rv ⟨p, vs, j, m, rfl, rfl, hp, ?_, q _ x' rg'⟩
          rw [hr.len]
          exact ej
      · cases e
    · rename_i kvs eg
      cases ek : kyOf dI with
      | none => rw [ek] at e; cases e
      | some ky =>
        simp only [ek, Option.bind_some] at e
        split at e
        · rename_i hl
          cases e
          obtain ⟨p, rfl, hn, ws, hp, hk, hr⟩ := ref_obj rg r1 eg
          obtain rfl := kyOf_ok r2 ek
          obtain ⟨p1, p2⟩ := putK_ok kyT (fun _ _ => kyT_inj) ky r3 hk hr
          obtain ⟨rg', x'⟩ := rg.write hn ⟨_, eg, rfl⟩ (o := .dk (Py.putK ky dV kvs)) (u := .dK (L2.putK ws (kyT ky) v)) fun H' m e => ⟨_, e, p1, p2.by_ m⟩
          have hlen : ws.length = kvs.length := by simpa using congrArg List.length hk
          obtain rfl : ov = Value.ref p := ro
          exact d_setItem (by omega) I (DPut.k hp (by rw [hlen, ← line_eq]; exact hl)) ri rv fun s' I' => ⟨_, I', q _ x' rg'⟩
        · cases e
    · rename_i kvs eg
      split at e
      · rename_i ds
        cases ek : keysOf ds with
        | none => rw [ek] at e; cases e
        | some ky =>
          simp only [ek, Option.bind_some] at e
          split at e
          · rename_i hl
            cases e
            obtain ⟨p, rfl, hn, ws, hp, hk, hr⟩ := ref_obj rg r1 eg
            obtain ⟨b, xs, rfl, hb, qb⟩ := rv_tup r2
            obtain rfl := keysOf_ok qb ek
            obtain ⟨p1, p2⟩ := putK_ok (fun ks : List KY => ks.map kyT) (fun _ _ => kyTs_inj) ky r3 hk hr
            obtain ⟨rg', x'⟩ := rg.write hn ⟨_, eg, rfl⟩ (o := .dt (Py.putK ky dV kvs)) (u := .dT (L2.putK ws (ky.map kyT) v)) fun H' m e => ⟨_, e, p1, p2.by_ m⟩
            have hlen : ws.length = kvs.length := by simpa using congrArg List.length hk
            obtain rfl : ov = Value.ref p := ro
            exact d_setItem (by omega) I (DPut.t hp hb (by rw [hlen, ← line_eq]; exact hl)) ri rv fun s' I' => ⟨_, I', q _ x' rg'⟩
          · cases e
      · cases e
    · cases e
  · cases e
def noSl : Expr → Bool
  | .Slice .. => false
  | _ => true
theorem s_setI {spos : Pos} (hu : X.A.units + 66 < cLine) (ho : PE X a (tE T pl X.K k W ia)) (hi : PE X b (tE T pl X.K k W ib)) (hv : PE X c (tE T pl X.K k W ic))
    (hs : swapsWithSole [.Subscript a b spos] c pos.line X.env = pure false) (hw : swappedStores [.Subscript a b spos] c X.env = pure none)
    (ha : ∀ v, assign (.Subscript a b spos) X.env v = (do
      let ov ← holding [v] (eval a X.env)
      let iv ← holding [v, ov] (eval b X.env)
      standAt spos
      holding [v, ov, iv] (setItem ov iv v)
      release [v, ov, iv] [])) :
    PS X (.Assign [.Subscript a b spos] c pos) (tS T pl X.K k W (.setI ia ib ic)) := by
  refine ⟨fun pins s σ H D' I h => (ps_asg (s_lay hv) (pg_sub ho hi (set_ok (pl := pl) (T := T) hu) ha) hs hw rfl).run pins s σ H D' I ?_⟩
  obtain ⟨ρ, L, g, rl, rg, h⟩ := h
  rw [evS] at h
  refine ⟨ρ, L, g, rl, rg, (PoO.toO (Rel := relD X.K) h rl).imp fun v H1 ⟨ρ1, dv, g1, e1, rg1, rx1, h⟩ => ?_⟩
  have rl1 := rl.mono e1
  refine ⟨ρ1, L, g1, rl1, rg1, (PoO.toO (Rel := relX X.K) h rl1).imp fun o H2 ⟨ρ2, d2, g2, e2, rg2, rx2, h⟩ => ?_⟩
  have rl2 := rl1.mono e2
  cases d2 with
  | tmp xs => exact h.elim
  | d d2 =>
    simp only at h
    refine ⟨ρ2, L, g2, rl2, rg2, (PoO.toO (Rel := relX X.K) h rl2).imp fun i H3 ⟨ρ3, d3, g3, e3, rg3, rx3, h⟩ => ?_⟩
    cases d3 with
    | tmp xs => exact h.elim
    | d d3 =>
      simp only at h
      cases es : setIx g3 d2 d3 dv with
      | none => rw [es] at h; exact h.elim
      | some g4 =>
        rw [es] at h
        exact ⟨ρ3, g3, d2, d3, dv, g4, rg3, RV.mono e3 (show RV X.K ρ2 H2 d2 o from rx2), rx3, RV.mono e3 (RV.mono e2 rx1), es, fun H' x' rg' => h ρ3 H' σ x' rg' ((rl2.mono e3).mono x')⟩

/-! ### a[i] op= e on a list, del a[i] of a dict -/
def rGetL (pl : Pl) (K : PySem.W.Frag) : V → V → Hp → VK → Prop := fun o i H Q => ∃ p vs j v, o = .ref p ∧ i = .int j ∧ SqL K H p vs ∧ L2.atI vs j = some v ∧ Q v H
theorem get_list0 : PGet X (rGetL pl X.K) := by
  intro pins s σ H o i ov iv Q I ro ri h
  obtain ⟨p, vs, j, v, rfl, rfl, hq, ha, q⟩ := h
  cases ro
  obtain ⟨t, rfl⟩ := ri
  obtain ⟨its, rv, pl, hz⟩ := I.list hq
  obtain ⟨m, h1, h2, h3, h4, h5⟩ := atI_get ha
  obtain ⟨w, ew, rw'⟩ := rv.get h2
  have hl := rv.length
  have hn := line63
  have fin : EP X pins σ Q w s := ⟨v, H, I, rw', q⟩
  by_cases h0 : 0 ≤ j
  · have hj : j.toNat = m := by
      rw [seqIndex_of h0 h5] at h1
      exact Option.some.inj h1
    exact wpAny_getItem_list pl.isList h0 (by omega) (by rw [hj]; simpa using ew) fin
  · have hj : (j + (its.toArray.size : Int)).toNat = m := by
      rw [seqIndex_neg (by omega) h4] at h1
      rw [List.size_toArray, ← hl]
      exact Option.some.inj h1
    exact wpAny_getItem_list_neg pl.isList (by omega) (by rw [List.size_toArray] <;> omega) (by omega) (by rw [hj]; simpa using ew) fin
theorem s_augI {o : BOp} {spos : Pos} (hu : X.A.units + 66 < cLine) (ho : PE X a (tE T pl X.K k W ia)) (hi : PE X b (tE T pl X.K k W ib)) (hv : PE X c (tE T pl X.K k W ic))
    (ha : ∀ ov iv new, augStore b ov iv new = (do holding [new, ov, iv] (setItem ov iv new); release [new, ov, iv] []; pure .next)) :
    PS X (.AugAssign (.Subscript a b spos) (opOf o) c pos) (tS T pl X.K k W (.augI ia ib o ic)) := by
  refine ⟨fun pins s σ H D' I h => (ps_augS ho hi (get_list0 (pl := pl)) hv (ip_aug (pl := pl) o) (set_ok (pl := pl) (T := T) hu) ha).run pins s σ H D' I ?_⟩
  obtain ⟨ρ, L, g, rl, rg, h⟩ := h
  rw [evS] at h
  refine ⟨ρ, L, g, rl, rg, (PoO.toO (Rel := relX X.K) h rl).imp fun v H1 ⟨ρ1, x, g1, e1, rg1, rx1, h⟩ => ?_⟩
  have rl1 := rl.mono e1
  refine ⟨ρ1, L, g1, rl1, rg1, (PoO.toO (Rel := relX X.K) h rl1).imp fun u H2 ⟨ρ2, y, g2, e2, rg2, rx2, h⟩ => ?_⟩
  have rl2 := rl1.mono e2
  have key : ∃ n j, x = .d (.ref n) ∧ y = .d (.int j) := by
    split at h
    · exact ⟨_, _, rfl, rfl⟩
    · exact h.elim
  obtain ⟨n, j, rfl, rfl⟩ := key
  simp only at h
  cases eg : g2[n]? with
  | none => rw [eg] at h; exact h.elim
  | some ob =>
    rw [eg] at h
    cases ob with
    | lst xs =>
      simp only at h
      cases ea : Py.atI xs j with
      | none => rw [ea] at h; exact h.elim
      | some d =>
        rw [ea] at h
        simp only at h
        have r1 : RV X.K ρ1 H1 (.ref n) v := rx1
        obtain ⟨p, rfl, hn, vs, hp, hr⟩ := ref_obj rg2 (r1.mono e2) eg
        obtain rfl := rx_int rx2
        obtain ⟨w, hw1, hw2⟩ := atI_ok hr ea
        refine ⟨p, vs, j, w, rfl, rfl, .of hp, hw1, ρ2, L, g2, rl2, rg2, (PoO.toO (Rel := relX X.K) h rl2).imp fun t H3 ⟨ρ3, z, g3, e3, rg3, rx3, h⟩ => ?_⟩
        cases eo : augop o d z with
        | none => rw [eo] at h; exact h.elim
        | some d' =>
          rw [eo] at h
          simp only at h
          refine ⟨ρ3, d, z, d', H2, hw2.mono e3, rx3, eo, fun v' rv' => ?_⟩
          cases es : setIx g3 (.ref n) (.int j) d' with
          | none => rw [es] at h; exact h.elim
          | some g4 =>
            rw [es] at h
            exact ⟨ρ3, g3, .ref n, .int j, d', g4, rg3, RV.mono e3 (r1.mono e2), RV.int _, rv', es, fun H' x' rg' => h ρ3 H' σ x' rg' ((rl2.mono e3).mono x')⟩
    | _ => exact h.elim
theorem s_del {spos : Pos} (ho : PE X a (tE T pl X.K k W ia)) (hi : PE X b (tE T pl X.K k W ib)) : PS X (.Delete [.Subscript a b spos] pos) (tS T pl X.K k W (.del ia ib)) := by
  refine ⟨fun pins s σ H D' I h => (ps_ddel ho hi).run pins s σ H D' I ?_⟩
  obtain ⟨ρ, L, g, rl, rg, h⟩ := h
  rw [evS] at h
  refine ⟨ρ, L, g, rl, rg, (PoO.toO (Rel := relX X.K) h rl).imp fun v H1 ⟨ρ1, x, g1, e1, rg1, rx1, h⟩ => ?_⟩
  have rl1 := rl.mono e1
  refine ⟨ρ1, L, g1, rl1, rg1, (PoO.toO (Rel := relX X.K) h rl1).imp fun u H2 ⟨ρ2, y, g2, e2, rg2, rx2, h⟩ => ?_⟩
  have rl2 := rl1.mono e2
  have key : ∃ n d, x = .d (.ref n) ∧ y = .d d := by
    split at h
    · exact ⟨_, _, rfl, rfl⟩
    · exact h.elim
  obtain ⟨n, d, rfl, rfl⟩ := key
  simp only at h
  cases eg : g2[n]? with
  | none => rw [eg] at h; exact h.elim
  | some ob =>
    rw [eg] at h
    cases ob with
    | dk kvs =>
      simp only at h
      cases ek : kyOf d with
      | none => rw [ek] at h; exact h.elim
      | some ky =>
        rw [ek] at h
        simp only at h
        split at h
        · rename_i hl
          have r1 : RV X.K ρ1 H1 (.ref n) v := rx1
          obtain ⟨p, rfl, hn, ws, hp, hk, hr⟩ := ref_obj rg2 (r1.mono e2) eg
          obtain rfl := kyOf_ok (show RV X.K ρ2 H2 d u from rx2) ek
          obtain ⟨p1, p2⟩ := dropK_ok kyT (fun _ _ => kyT_inj) ky hk hr
          obtain ⟨rg', x'⟩ := rg2.write hn ⟨_, eg, rfl⟩ (o := .dk (kvs.filter fun p => decide (p.1 ≠ ky))) (u := .dK (dropK ws (kyT ky))) fun H' m e => ⟨_, e, p1, p2.by_ m⟩
          refine ⟨p, ws, kyT ky, rfl, hp, rfl, ?_, h ρ2 _ σ x' rg' (rl2.mono x')⟩
          exact look_some kyT (fun _ _ => kyT_inj) ky hk hr hl
        · exact h.elim
    | _ => exact h.elim

/-! ### raise -/
theorem s_raise {x m : Str} {j C : Nat} {p p2 p3 : Pos} (F : ∃ I, ExcBaseFacts "ValueError" "ValueError.__new__" I [.type "ValueError", .type "Exception", .type "BaseException", .type "object"]) (G : Good T pl k N sc W X) (C0 : Calm k X) (hx : pl.nm.cls[C]? = some x) (hC : T.ini C = none) (hg : Gl X x) (hd : (x == ("__debug__" : Str)) = false) :
    PS X (.Raise (some (.Call (.Name x p) [.Constant (.str m) j p2] [] p3)) none pos) (tS T pl X.K k W (.raise C)) := by
  obtain ⟨I0, F⟩ := F
  obtain ⟨hm, hex, hkp, hsub, hty⟩ := G.top.exc C x hx hC
  refine ⟨fun pins s σ H D' I h => (ps_raise C0.calm G.tk (pmk_own F hex hm hkp (raises_own hsub hty) hg hd)).run pins s σ H D' I ?_⟩
  obtain ⟨ρ, L, g, rl, rg, h⟩ := h
  rw [evS] at h
  exact h ρ H σ .refl rg rl rfl
theorem PoO.noW {K : PySem.W.Frag} {ρ : List Addr} {H : Hp} {W W' : WX} {D' : Ends} {o : O} (h : PoO pl K ρ H W D' (match o with | .ex _ _ _ => .bad | o => o)) : PoO pl K ρ H W' D' o := by
  cases o with
  | ex x L g => exact h.elim
  | _ => exact h
theorem s_try {x : Str} {C : Nat} {np pos' : Pos} {b₀ : Stmt} {sts2 : List Stmt} (hst : X.stack = X.env :: X.outer) (hf : X.env.frame = some X.env.locals) (G : Good T pl k N sc W X) (hx : pl.nm.cls[C]? = some x) (hC : T.ini C = none) (hg : Gl X x) (hd : (x == ("__debug__" : Str)) = false)
    (hb : ∀ (W : WX) (pn : List (Addr × Obj)) (xe : Value → Shared → Prop), Takes (X.tr pn xe) W → PassesOwn (model X.prog X.w) X.A X.env xe → PSs (X.tr pn xe) sts (tSs T pl X.K k W iss))
    (hsu : ∀ (a : Addr) (oe : Obj) (pn : List (Addr × Obj)), PSs (X.suite a ((a, oe) :: pn)) (b₀ :: sts2) (tSs T pl X.K k noW iss2)) :
    PS X (.Try sts [.ExceptHandler (some (.Name x np)) none (b₀ :: sts2) pos'] [] [] pos) (tS T pl X.K k W (.try iss C none iss2)) := by
  obtain ⟨hm, _⟩ := G.top.exc C x hx hC
  refine ⟨fun pins s σ H D' I h => (ps_try_only (c := .ref (pl.ca C)) (tb := fun W => tSs T pl X.K k W iss) (ts := fun _ _ _ => tSs T pl X.K k noW iss2) (Wout := W) hst hf ⟨hg, hd, .inl hm⟩ G.tk hb (fun a oe cls d pn _ _ => hsu a oe pn)).run pins s σ H D' I ?_⟩
  obtain ⟨ρ, L, g, rl, rg, h⟩ := h
  rw [evS] at h
  refine ⟨ρ, L, g, rl, rg, ?_⟩
  revert h
  cases evSs T (runF T k) iss L g with
  | ex e L1 g1 =>
    intro h ρ1 H1 σ1 e1 rg1 rl1 hfs
    simp only at h
    cases es : T.sub e.cls C with
    | none => rw [es] at h; exact h.elim
    | some b =>
      rw [es] at h
      refine ⟨b, G.top.sub _ _ _ es, fun hb a ha => ?_, fun hb => ?_⟩
      · subst hb
        simp only at h
        exact ⟨ρ1, L1, g1, rl1, rg1, (PoO.noW h).shift e1⟩
      · subst hb
        exact h ρ1 H1 σ1 e1 rg1 rl1 hfs
  | nx L1 g1 => exact id
  | br L1 g1 => exact id
  | ct L1 g1 => exact id
  | rt d g1 => exact id
  | bad => exact id
/-! ### except X as e, isinstance(e, D) -/
theorem RL.unset {K : PySem.W.Frag} {ρ : List Addr} {H : Hp} {σ : L2.St} {L : Lc} (i : Nat) (r : RL K ρ H σ L) : RL K ρ H (σ.set i none) (L.set i none) := by
  refine ⟨by rw [List.length_set, List.length_set]; exact r.1, fun j d e => ?_⟩
  by_cases h : i = j
  · subst h
    rw [List.getElem?_set] at e
    split at e
    · split at e <;> cases e
    · rename_i q; exact absurd rfl q
  · rw [List.getElem?_set_ne h] at e
    rw [List.getElem?_set_ne h]
    exact r.2 j d e
theorem RL.hide {K : PySem.W.Frag} {ρ : List Addr} {H : Hp} {σ : L2.St} {L : Lc} {v : V} (i : Nat) (r : RL K ρ H σ L) : RL K ρ H (σ.set i (some v)) (L.set i none) := by
  refine ⟨by rw [List.length_set, List.length_set]; exact r.1, fun j d e => ?_⟩
  by_cases h : i = j
  · subst h
    rw [List.getElem?_set] at e
    split at e
    · split at e <;> cases e
    · rename_i q; exact absurd rfl q
  · rw [List.getElem?_set_ne h] at e
    rw [List.getElem?_set_ne h]
    exact r.2 j d e
/-- what the suite's test wishes -/
def tIx (T : Tb) (pl : Pl) (i D : Nat) (a : Addr) (cls : Value) : TT := fun σ H Q => σ[i]? = some (some (.ref a)) ∧ ∃ c t, cls = .ref (pl.ca c) ∧ T.sub c D = some t ∧ Q t H
theorem t_ix {i D : Nat} {x y : Str} {p1 p2 p3 : Pos} {a : Addr} {oe : Obj} {cls : Value} {pn : List (Addr × Obj)} (G : Good T pl k N sc W X) (hi : X.N[i]? = some x) (hv : Vis X.env.scope x) (hx1 : (x == ("__debug__" : Str)) = false) (hx2 : (x == ("__classdict__" : Str)) = false)
    (hy : pl.nm.cls[D]? = some y) (hyC : T.ini D = none) (h1 : Gl X "isinstance") (h2 : Gl X y) (hy1 : (y == ("__debug__" : Str)) = false) (hz : Zc cls none oe) (hf : ∃ vs, oe.data = .fields vs) :
    PT (X.suite a ((a, oe) :: pn)) (.Call (.Name "isinstance" p1) [.Name x p2, .Name y p3] [] pos) (tIx T pl i D a cls) := by
  refine ⟨fun pins s σ H Q I h => ?_⟩
  obtain ⟨hσ, c, t, rfl, ht, h⟩ := h
  obtain ⟨eC, kit⟩ := G.top.isx c D t ht
  obtain ⟨hmy, _⟩ := G.top.exc D y hy hyC
  have hm1 : X.mg "isinstance" = none := G.top.blt _ (by simp [bnames])
  have a1 : PE (X.suite a ((a, oe) :: pn)) (.Name x p2) (tVar i) := pe_var hi hv hx1 hx2
  have a2 : PE (X.suite a ((a, oe) :: pn)) (.Name y p3) (tC (.ref (pl.ca D))) := pe_glob h2 hmy rfl hy1
  have pe := pe_callB (X := X.suite a ((a, oe) :: pn)) (p := p1) (pos := pos) (call_isE (X := X) (pn := pn) eC hz hf) h1 hm1 boot_isi (pa_cons a1 (pa_cons a2 pa_nil))
  refine (pt_truth pe fun _ => rfl).run pins s σ H Q I ?_
  exact ⟨.ref a, hσ, .ref (pl.ca D), .ref (pl.ca D), t, rfl, fun u q => q, kit, t, rfl, h⟩
theorem s_tryi {i C D : Nat} {x y n : Str} {np pos' posI p1 p2 p3 posc : Pos} {s1 s2 : List Stmt} {iss3 : Ss} (hst : X.stack = X.env :: X.outer) (hf : X.env.frame = some X.env.locals) (G : Good T pl k N sc W X) (hx : pl.nm.cls[C]? = some x) (hC : T.ini C = none) (hg : Gl X x) (hd : (x == ("__debug__" : Str)) = false)
    (hi : X.N[i]? = some n) (hln : X.env.scope.names.lookup n = some .local) (hn1 : (n == ("__debug__" : Str)) = false) (hn2 : (n == ("__classdict__" : Str)) = false) (hy : pl.nm.cls[D]? = some y) (hyC : T.ini D = none) (h1 : Gl X "isinstance") (h2 : Gl X y) (hy1 : (y == ("__debug__" : Str)) = false)
    (hb : ∀ (W : WX) (pn : List (Addr × Obj)) (xe : Value → Shared → Prop), Takes (X.tr pn xe) W → PassesOwn (model X.prog X.w) X.A X.env xe → PSs (X.tr pn xe) sts (tSs T pl X.K k W iss))
    (hs1 : ∀ (a : Addr) (oe : Obj) (pn : List (Addr × Obj)), PSs (X.suite a ((a, oe) :: pn)) s1 (tSs T pl X.K k noW iss2))
    (hs2 : ∀ (a : Addr) (oe : Obj) (pn : List (Addr × Obj)), PSs (X.suite a ((a, oe) :: pn)) s2 (tSs T pl X.K k noW iss3)) :
    PS X (.Try sts [.ExceptHandler (some (.Name x np)) (some n) [.If (.Call (.Name "isinstance" p1) [.Name n p2, .Name y p3] [] posc) s1 s2 posI] pos'] [] [] pos) (tS T pl X.K k W (.tryi iss C i D iss2 iss3)) := by
  obtain ⟨hm, _⟩ := G.top.exc C x hx hC
  refine ⟨fun pins s σ H D' I h => (ps_try_as (c := .ref (pl.ca C)) (i := i) (tb := fun W => tSs T pl X.K k W iss)
    (ts := fun a cls d D0 σ H => d = none ∧ tIfS (tIx T pl i D a cls) (tSs T pl X.K k noW iss2) (tSs T pl X.K k noW iss3) D0 σ H) (Wout := W) hst hf (by rw [G.hN]; exact G.nd) hi hln ⟨hg, hd, .inl hm⟩ G.tk hb (fun a oe cls d pn hz hf => ?_)).run pins s σ H D' I ?_⟩
  · refine ⟨fun pins s σ H D0 I h => ?_⟩
    obtain ⟨rfl, h⟩ := h
    refine (pss_cons (ps_if (t_ix G hi (.inl hln) hn1 hn2 hy hyC h1 h2 hy1 hz hf) (hs1 a oe pn) (hs2 a oe pn)) pss_nil).run pins s σ H D0 I ?_
    exact h
  obtain ⟨ρ, L, g, rl, rg, h⟩ := h
  rw [evS] at h
  refine ⟨ρ, L, g, rl, rg, ?_⟩
  revert h
  cases evSs T (runF T k) iss L g with
  | ex e L1 g1 =>
    intro h ρ1 H1 σ1 e1 rg1 rl1 hfs
    simp only at h
    cases es : T.sub e.cls C with
    | none => rw [es] at h; exact h.elim
    | some b =>
      rw [es] at h
      refine ⟨b, G.top.sub _ _ _ es, fun hb a ha => ?_, fun hb => ?_⟩
      · subst hb
        simp only at h
        cases ed : T.sub e.cls D with
        | none => rw [ed] at h; exact h.elim
        | some t =>
          rw [ed] at h
          simp only at h
          split at h
          case isFalse => exact h.elim
          rename_i hlt
          refine ⟨rfl, ⟨?_, e.cls, t, rfl, ed, ?_⟩⟩
          · rw [List.getElem?_set_self]
            rw [rl1.1]
            exact hlt
          · have key : ∀ ss : Ss, PoO pl X.K ρ H W D' (match evSs T (runF T k) ss (L1.set i none) g1 with
                | .nx L g => O.nx (L.set i none) g
                | .br L g => .br (L.set i none) g
                | .ct L g => .ct (L.set i none) g
                | .rt d g => .rt d g
                | _ => .bad) → tSs T pl X.K k noW ss { nx := fun σ' H' => D'.nx (σ'.set i none) H', rt := D'.rt, bk := fun σ' H' => D'.bk (σ'.set i none) H', ct := fun σ' H' => D'.ct (σ'.set i none) H' } (σ1.set i (some (.ref a))) H1 := by
              intro ss h
              refine ⟨ρ1, L1.set i none, g1, rl1.hide i, rg1, ?_⟩
              revert h
              cases evSs T (runF T k) ss (L1.set i none) g1 with
              | nx L2 g2 => exact fun h ρ2 H2 σ2 e2 rg2 rl2 => h ρ2 H2 _ (e1.trans e2) rg2 (rl2.unset i)
              | br L2 g2 => exact fun h ρ2 H2 σ2 e2 rg2 rl2 => h ρ2 H2 _ (e1.trans e2) rg2 (rl2.unset i)
              | ct L2 g2 => exact fun h ρ2 H2 σ2 e2 rg2 rl2 => h ρ2 H2 _ (e1.trans e2) rg2 (rl2.unset i)
              | rt d g2 => exact fun h ρ2 H2 v e2 rg2 rv => h ρ2 H2 v (e1.trans e2) rg2 rv
              | ex x L2 g2 => exact fun h => h.elim
              | bad => exact fun h => h.elim
            cases t with
            | true => exact key iss2 h
            | false => exact key iss3 h
      · subst hb
        exact h ρ1 H1 σ1 e1 rg1 rl1 hfs
  | nx L1 g1 => exact id
  | br L1 g1 => exact id
  | ct L1 g1 => exact id
  | rt d g1 => exact id
  | bad => exact id
end
end Sd
set_option Elab.async false
set_option linter.all false
set_option maxRecDepth 100000
set_option maxHeartbeats 1000000
/-! SndF: a for over a dict: it is locked while it is walked. -/
namespace Sd
open PySem PySem.Spec PyProof.Rows L2 Py
section
variable {pl : Pl} {K : PySem.W.Frag} {ρ ρ' : List Addr} {H H' H0 : Hp} {g : G} {a : Addr}
theorem rv_key (k : KY) : RV K ρ H (kyV k) (kV (kyT k)) := by
  cases k with
  | i n => exact RV.int n
  | s x => exact RV.str x
theorem rel_keysD {od : Obj} {vs : List (Key × V)} {kvs : List (KY × D)} (hf : H a = some (.frz od (.dK vs))) (hk : vs.map (·.1) = kvs.map (fun p => kyT p.1)) :
    relI pl K ρ H0 H (Itk a od vs) (.vals (kvs.map fun p => kyV p.1)) := by
  intro ρ' H' e g rg i o eo
  have hf' := e.frzs _ _ _ hf
  have hl : vs.length = kvs.length := by simpa using congrArg List.length hk
  cases eo
  cases ed : (kvs.map fun p => kyV p.1)[i]? with
  | none =>
    rw [List.getElem?_map, Option.map_eq_none_iff] at ed
    have := List.getElem?_eq_none_iff.mp ed
    exact ⟨hf', by omega⟩
  | some d =>
    rw [List.getElem?_map] at ed
    obtain ⟨p, ep, rfl⟩ := Option.map_eq_some_iff.mp ed
    have := (List.getElem?_eq_some_iff.mp ep).1
    refine ⟨⟨hf', by omega⟩, fun x H'' y => ?_⟩
    obtain ⟨rfl, k, v, h1, rfl⟩ := y
    have e2 : (vs.map (·.1))[i]? = some k := by rw [List.getElem?_map, h1]; rfl
    rw [hk, List.getElem?_map, ep] at e2
    obtain rfl : kyT p.1 = k := by simpa using e2
    exact ⟨ρ', .refl, rg, rv_key _⟩
theorem RG.unlock (r : RG pl K ρ H g) {n : Nat} {od : Obj} {vs : List (Key × V)} {kvs z : List (KY × D)} (ha : ρ[n]? = some a) (eg : g[n]? = some (.fz z)) (hf : H a = some (.frz od (.dK vs)))
    (hk : vs.map (·.1) = kvs.map (fun p => kyT p.1)) (hq : RVs K ρ H (kvs.map (·.2)) (vs.map (·.2))) : RG pl K ρ (upd H a (.dK vs)) (g.set n (.dk kvs)) ∧ Mon K ρ ρ H (upd H a (.dK vs)) := by
  have fz : ∀ (b : Addr) (o : Obj) (u : HO), (∀ ws, u ≠ .dK ws) → H b = some (.frz o u) → upd H a (.dK vs) b = some (.frz o u) := fun b o u hu e => by
    rw [upd_ne (fun z => by rw [z, hf] at e; cases e; exact hu _ rfl)]; exact e
  have tp : ∀ (b : Addr) (xs : List V), H b = some (.tup xs) → upd H a (.dK vs) b = some (.tup xs) := fun b xs e => by
    rw [upd_ne (fun z => by rw [z, hf] at e; cases e)]; exact e
  have m : Mon K ρ ρ H (upd H a (.dK vs)) := by
    refine ⟨fun _ _ h => h, tp, fun b xs h => ?_, fun b xs h => ?_⟩
    · rcases h with (h | ⟨o, h⟩) | h
      · exact .inl (.inl (tp _ _ h))
      · exact .inl (.inr ⟨o, fz _ _ _ (fun _ => nofun) h⟩)
      · exact .inr h
    · rcases h with ⟨o, h⟩ | h
      · exact .inl ⟨o, fz _ _ _ (fun _ => nofun) h⟩
      · exact .inr h
  refine ⟨⟨by simp [r.len], r.nd, fun k w b hk' hb => ?_⟩, m⟩
  by_cases e : k = n
  · subst e
    rw [ha] at hb; cases hb
    rw [List.getElem?_set_self (List.getElem?_eq_some_iff.mp eg).1] at hk'
    cases hk'
    exact ⟨vs, upd_same, hk, hq.by_ m⟩
  · rw [List.getElem?_set_ne (Ne.symm e)] at hk'
    refine (r.obj k w b hk' hb).by_ m (upd_ne fun z => e ?_)
    subst z
    obtain ⟨h1, e1⟩ := List.getElem?_eq_some_iff.mp ha
    obtain ⟨h2, e2⟩ := List.getElem?_eq_some_iff.mp hb
    exact (List.getElem_inj r.nd).mp (e2.trans e1.symm)
/-- what stands behind the walk, seen from ahead of it -/
theorem Ext.unlock {od : Obj} {vs : List (Key × V)} (hm : a ∈ ρ) (hd : H a = some (.dK vs)) (x : Ext ρ ρ' (upd H a (.frz od (.dK vs))) H') : Ext ρ ρ' H (upd H' a (.dK vs)) := by
  refine ⟨x.pre, fun p hp n => ?_, fun b o e n => ?_, fun b xs e => ?_, fun b o u e => ?_⟩
  · have := x.new p hp n
    rw [upd_ne (fun z => n (by rw [z]; exact hm))] at this
    exact this
  · have ne : b ≠ a := fun z => n (by rw [z]; exact hm)
    rw [upd_ne ne]
    exact x.keep b o (by rw [upd_ne ne]; exact e) n
  · have ne : b ≠ a := fun z => by rw [z, hd] at e; cases e
    rw [upd_ne ne]
    exact x.tups b xs (by rw [upd_ne ne]; exact e)
  · have ne : b ≠ a := fun z => by rw [z, hd] at e; cases e
    rw [upd_ne ne]
    exact x.frzs b o u (by rw [upd_ne ne]; exact e)
end
section
variable {T : Tb} {pl : Pl} {k : Nat} {W : WX} {X : Cx} {pos : Pos} {sts : List Stmt} {iss : Ss} {tg iter : Expr}
theorem s_forD {t : Tg} {i : Nat} (po : PassesOwn (model X.prog X.w) X.A X.env X.xe) (C0 : Calm k X) (hi : PE X iter (tE T pl X.K k W (.v i))) (hg : PG X tg (tG pl X.K t)) (h1 : PSs X sts (tSs T pl X.K k W iss)) (hs : ∀ x, foldedSetIterable iter X.env x = pure x) :
    PS X (.For tg iter sts [] pos) (tS T pl X.K k W (.forD t i iss)) := ⟨fun pins s σ H D' I h => (ps_lock (ps_for po C0.calm (pi_keys hi) hg h1 hs)).run pins s σ H D' I (by
  obtain ⟨ρ, L, g, rl, rg, h⟩ := h
  rw [evS] at h
  split at h
  · rename_i n eL
    split at h
    · rename_i kvs eg
      obtain ⟨v, eσ, rv⟩ := rl.2 i _ eL
      obtain ⟨a, rfl, ha⟩ := rv_ref rv
      obtain ⟨vs, hd, hk, hq⟩ := rg.of eg ha
      have ham : a ∈ ρ := List.mem_of_getElem? ha
      refine ⟨a, .dK vs, hd, trivial, fun od => ?_⟩
      obtain ⟨rg0, x0⟩ := rg.write ha ⟨_, eg, rfl⟩ (o := .fz kvs) (u := .frz od (.dK vs)) fun H' m e => ⟨od, vs, e, hk, hq.by_ m⟩
      have rl0 := rl.mono x0
      have g0 : (g.set n (Ob.fz kvs))[n]? = some (.fz kvs) := List.getElem?_set_self (List.getElem?_eq_some_iff.mp eg).1
      have f0 : (upd H a (.frz od (.dK vs))) a = some (.frz od (.dK vs)) := upd_same
      -- what the walk's end asks, from what the statement's end asks
      have back : ∀ {o : O}, PoO pl X.K ρ H W D' (unfz n kvs o) → PoO pl X.K ρ (upd H a (.frz od (.dK vs))) W ⟨fun σ' H' => H' a = some (.frz od (.dK vs)) ∧ D'.nx σ' (upd H' a (.dK vs)), fun v H' => H' a = some (.frz od (.dK vs)) ∧ D'.rt v (upd H' a (.dK vs)), fun σ' H' => H' a = some (.frz od (.dK vs)) ∧ D'.bk σ' (upd H' a (.dK vs)), fun σ' H' => H' a = some (.frz od (.dK vs)) ∧ D'.ct σ' (upd H' a (.dK vs))⟩ o := by
        intro o h
        cases o with
        | nx L2 g2 =>
          cases ez : g2[n]? with
          | none => rw [unfz, ez] at h; exact h.elim
          | some w =>
            cases w with
            | fz z =>
              rw [unfz, ez] at h
              intro ρ2 H2 σ2 e2 rg2 rl2
              have f2 := e2.frzs _ _ _ f0
              obtain ⟨rg3, m3⟩ := rg2.unlock (e2.at ha) ez f2 hk (hq.by_ (x0.trans e2).mon)
              exact ⟨f2, h ρ2 _ σ2 (Ext.unlock ham hd e2) rg3 ⟨rl2.1, fun j d ej => let ⟨v, q1, q2⟩ := rl2.2 j d ej; ⟨v, q1, q2.by_ m3⟩⟩⟩
            | _ => rw [unfz, ez] at h; exact h.elim
        | rt d g2 =>
          cases ez : g2[n]? with
          | none => rw [unfz, ez] at h; exact h.elim
          | some w =>
            cases w with
            | fz z =>
              rw [unfz, ez] at h
              intro ρ2 H2 v2 e2 rg2 rv2
              have f2 := e2.frzs _ _ _ f0
              obtain ⟨rg3, m3⟩ := rg2.unlock (e2.at ha) ez f2 hk (hq.by_ (x0.trans e2).mon)
              exact ⟨f2, h ρ2 _ v2 (Ext.unlock ham hd e2) rg3 (rv2.by_ m3)⟩
            | _ => rw [unfz, ez] at h; exact h.elim
        | _ => exact h.elim
      have h := back h
      generalize hD : (⟨fun σ' H' => H' a = some (.frz od (.dK vs)) ∧ D'.nx σ' (upd H' a (.dK vs)), fun v H' => H' a = some (.frz od (.dK vs)) ∧ D'.rt v (upd H' a (.dK vs)), fun σ' H' => H' a = some (.frz od (.dK vs)) ∧ D'.bk σ' (upd H' a (.dK vs)), fun σ' H' => H' a = some (.frz od (.dK vs)) ∧ D'.ct σ' (upd H' a (.dK vs))⟩ : Ends) = D2 at h ⊢
      clear back hD
      refine ⟨ρ, L, g.set n (.fz kvs), rl0, rg0, ?_⟩
      rw [ev, eL]
      intro ρ1 H1 v1 e1 rg1 rx1
      obtain ⟨a1, rfl, ha1⟩ := rx_ref rx1
      rw [e1.at ha] at ha1
      obtain rfl : a = a1 := by simpa using ha1
      have f1 := e1.frzs _ _ _ f0
      refine ⟨a, od, rfl, .inl ⟨vs, f1, ?_⟩⟩
      have h := PoO.shift h e1
      have ri := rel_keysD (pl := pl) (K := X.K) (ρ := ρ1) (H0 := H1) f1 hk
      generalize (Py.It.vals (kvs.map fun p => kyV p.1)) = it at h ri
      refine ⟨fun i m σ H => ∃ ρ L g, Ext ρ1 ρ H1 H ∧ RL X.K ρ H σ L ∧ RG pl X.K ρ H g ∧ PoO pl X.K ρ H W D2 (loopF it t (fun L g => evSs T (runF T k) iss L g) m i L g), ⟨fuel, ρ1, L, g.set n (.fz kvs), .refl, rl0.mono e1, rg1, h⟩, ?_⟩
      clear h
      rintro i m σ H ⟨ρ, L, g, e0, rl, rg, h⟩
      cases m with
      | zero => exact h.elim
      | succ m =>
        have st := ri ρ H e0 g rg i
        rw [loopF] at h
        cases et : turn g it i with
        | none => rw [et] at h; exact h.elim
        | some o =>
          have st := st o et
          rw [et] at h
          cases o with
          | none => exact .inl ⟨st, h ρ H σ .refl rg rl⟩
          | some d =>
            simp only at h
            obtain ⟨go, st⟩ := st
            refine .inr ⟨go, fun σ' H' => ∃ ρ L g, Ext ρ1 ρ H1 H' ∧ RL X.K ρ H' σ' L ∧ RG pl X.K ρ H' g ∧ PoO pl X.K ρ H' W D2 (loopF it t (fun L g => evSs T (runF T k) iss L g) m (i + 1) L g), fun σ' H' q => ⟨m, Nat.lt_succ_self _, q⟩, fun x H3 y => ?_⟩
            obtain ⟨ρ3, e3, rg3, rv3⟩ := st x H3 y
            cases ea : asg t d g L with
            | none => rw [ea] at h; exact h.elim
            | some L1 =>
              rw [ea] at h
              simp only at h
              have h := PoO.shift h e3
              have x3 := e0.trans e3
              refine ⟨ρ3, L, g, d, L1, (rl.mono e3).x _, rg3, rv3, ea, fun σ1 rl3 _ _ => ⟨ρ3, L1, g, rl3, rg3, ?_⟩⟩
              revert h
              cases evSs T (runF T k) iss L1 g with
              | nx L2 g2 => exact fun h ρ2 H2 σ2 e2 rg2 rl2 => ⟨ρ2, L2, g2, x3.trans e2, rl2, rg2, PoO.shift h e2⟩
              | ct L2 g2 => exact fun h ρ2 H2 σ2 e2 rg2 rl2 => ⟨ρ2, L2, g2, x3.trans e2, rl2, rg2, PoO.shift h e2⟩
              | br L2 g2 => exact id
              | rt d g2 => exact id
              | ex x L2 g2 => exact id
              | bad => exact id
    · exact h.elim
  · exact h.elim)⟩
end
end Sd
set_option Elab.async false
set_option linter.all false
set_option maxRecDepth 100000
set_option maxHeartbeats 1000000
/-! Snd13: terms and texts side by side. -/
namespace Sd
open PySem PySem.Spec PyProof.Rows L2 Py
/-! ### small looks at texts -/
def noStar : Expr → Bool
  | .Starred .. => false
  | _ => true
theorem star_ok {e : Expr} (h : noStar e = true) (r : List Expr) (env : Env) : starEach (e :: r) env = (false, eval e env) :: starEach r env := by
  cases e <;> first | rfl | cases h
theorem stars_none (pos : Pos) (env : Env) : ∀ {es : List Expr}, es.all noStar = true → (backTo pos (starEach es env)).any (·.1) = false ∧ (backTo pos (starEach es env)).all (fun x => !x.1) = true
  | [], _ => ⟨rfl, rfl⟩
  | e :: es, h => by
    simp only [List.all_cons, Bool.and_eq_true] at h
    obtain ⟨h1, h2⟩ := stars_none pos env h.2
    rw [star_ok h.1]
    have e1 : backTo pos ((false, eval e env) :: starEach es env) = (false, eval e env) :: backTo pos (starEach es env) := rfl
    rw [e1]
    exact ⟨by rw [List.any_cons, h1]; rfl, by rw [List.all_cons, h2]; rfl⟩
def baseOk : Expr → Bool
  | .Call .. => false
  | _ => true
theorem base_ok {e : Expr} (h : baseOk e = true) (x : Str) (env : Env) (w : Sem Value) : attributeBase e x env w = w := by
  cases e <;> first | rfl | cases h
theorem plain_ix {b : Expr} (h : noSl b = true) : PlainIx b := by
  intro o i
  cases b <;> first | rfl | cases h
theorem asg_sub {a b : Expr} {spos : Pos} {env : Env} (h : noSl b = true) (v : Value) : assign (.Subscript a b spos) env v = (do
      let ov ← holding [v] (eval a env)
      let iv ← holding [v, ov] (eval b env)
      standAt spos
      holding [v, ov, iv] (setItem ov iv v)
      release [v, ov, iv] []) := by
  cases b <;> first | rfl | cases h
theorem meth_eq {o : Expr} {name : Str} {apos pos : Pos} {args : List Expr} {env : Env} (hb : baseOk o = true) (hs : args.all noStar = true) (hl : args.length < 30) (hline : (apos.endLine == pos.line) = true) :
    eval (.Call (.Attribute o name apos) args [] pos) env = (do
      let ov ← eval o env
      standAt apos.atName
      let (f, first) ← holding [ov] (getMethod ov name (do return (← importBound o env).getD true))
      callWith pos f first (backTo pos (starEach args env)) (backToKw pos (keywordEach [] env))) := by
  rw [arm_eval_Call, base_ok hb]
  have hform : methodCallForm (args.length + ([] : List Keyword).length) (backTo pos (starEach args env)) (backToKw pos (keywordEach [] env)) = true := by
    unfold methodCallForm
    rw [(stars_none pos env hs).2]
    show (true && true && decide (args.length + 0 + 0 < 30)) = true
    simp [hl]
  have hpos : methodCallPos true o env apos pos = pure pos := by unfold methodCallPos; simp [hline]
  unfold methodCall
  rw [hform, hpos]
  rfl
def folded : Expr → Bool
  | .Set .. => false
  | _ => true
theorem folded_ok {e : Expr} (h : folded e = true) (env : Env) : ∀ x, foldedSetIterable e env x = pure x := by
  intro x
  cases e <;> first | rfl | cases h
def plainT : Expr → Bool
  | .UnaryOp .. | .BoolOp .. | .IfExp .. | .Compare .. => false
  | _ => true
theorem plain_t {a : Expr} (h : plainT a = true) (env : Env) : ∀ whole, isTrue a env whole = (do let v ← whole; standAt a.pos; holding [v] (truthy v)) := by
  intro w
  cases a <;> first | rfl | cases h
def noTup : Expr → Bool
  | .Tuple .. => false
  | _ => true
theorem sw_name {x : Str} {p : Pos} {e : Expr} (env : Env) : swappedStores [.Name x p] e env = pure none := by
  cases e <;> rfl
theorem sw_tup {ts : List Expr} {k : Nat} {p : Pos} {e : Expr} (h : noTup e = true) (env : Env) : swappedStores [.Tuple ts k p] e env = pure none := by
  cases e <;> first | rfl | cases h
theorem sw_sub {a b : Expr} {p : Pos} {e : Expr} (env : Env) : swappedStores [.Subscript a b p] e env = pure none := by
  cases e <;> rfl
theorem swl_sub {a b : Expr} {p : Pos} {e : Expr} (l : Nat) (env : Env) : swapsWithSole [.Subscript a b p] e l env = pure false := by
  cases e <;> rfl
theorem swl_att {a : Expr} {x : Str} {p : Pos} {e : Expr} (l : Nat) (env : Env) : swapsWith e (some (.Attribute a x p)) l env = pure false := by
  cases e <;> rfl
theorem swl_no {t e : Expr} (h : noLc e = true) (l : Nat) (env : Env) : swapsWithSole [t] e l env = pure false := noLc_sw h _ _ _

/-! ### names -/
def okN (x : Str) : Bool := !(x == ("__debug__" : Str)) && !(x == ("__classdict__" : Str))
def glB (sc : Scope) (x : Str) : Bool := decide (sc.names.lookup x = some .globalImplicit)
def visB (sc : Scope) (x : Str) : Bool := decide (sc.names.lookup x = some .local) || decide (sc.names.lookup x = some .cell) || decide (sc.names.lookup x = some .free)
def locB (fc : Bool) (sc : Scope) (x : Str) : Bool := decide (sc.names.lookup x = some .local) || (fc && decide (sc.names.lookup x = some .cell))
section
variable {T : Tb} {pl : Pl} {X : Cx} {k : Nat} {N : List Str} {sc : Scope} {W : WX}
theorem gl_ok {x : Str} (G : Good T pl k N sc W X) (h : glB sc x = true) : Gl X x := by
  have h := of_decide_eq_true h
  show X.env.scope.names.lookup x = _
  rw [G.sc_]
  exact h
theorem vis_ok {x : Str} (G : Good T pl k N sc W X) (h : visB sc x = true) : Vis X.env.scope x := by
  unfold Vis
  rw [G.sc_]
  simp only [visB, Bool.or_eq_true, decide_eq_true_eq] at h
  rcases h with (h | h) | h
  · exact .inl h
  · exact .inr (.inl h)
  · exact .inr (.inr h)
theorem loc_ok {fc : Bool} {x : Str} (G : Good T pl k N sc W X) (hf : fc = true → ∀ x, sc.names.lookup x = some .cell → X.fn x = true) (h : locB fc sc x = true) : L2.Loc X.env.scope x ∧ (X.fn x = true ∨ X.env.scope.names.lookup x = some .local) := by
  unfold L2.Loc
  rw [G.sc_]
  simp only [locB, Bool.or_eq_true, Bool.and_eq_true, decide_eq_true_eq] at h
  rcases h with h | ⟨h1, h2⟩
  · exact ⟨.inl h, .inr h⟩
  · exact ⟨.inr h2, .inl (hf h1 x h2)⟩
theorem debug_ok {x : Str} (h : okN x = true) : (x == ("__debug__" : Str)) = false ∧ (x == ("__classdict__" : Str)) = false := by
  simpa [okN] using h
end
/-! ### targets -/
def mNms (N : List Str) (fc : Bool) (sc : Scope) : List Expr → List Nat → Bool
  | [], [] => true
  | .Name x _ :: es, i :: is => decide (N[i]? = some x) && locB fc sc x && mNms N fc sc es is
  | _, _ => false
def mTg (N : List Str) (fc : Bool) (sc : Scope) : Tg → Expr → Bool
  | .nm i, .Name x _ => decide (N[i]? = some x) && locB fc sc x
  | .tp is, .Tuple es _ _ => mNms N fc sc es is
  | _, _ => false
section
variable {T : Tb} {pl : Pl} {X : Cx} {k : Nat} {N : List Str} {sc : Scope} {W : WX}
theorem nms_ok {fc : Bool} (G : Good T pl k N sc W X) (hf : fc = true → ∀ x, sc.names.lookup x = some .cell → X.fn x = true) : ∀ {es : List Expr} {is : List Nat}, mNms N fc sc es is = true → NmsOk X es is
  | [], [], _ => trivial
  | e :: es, i :: is, h => by
    cases e with
    | Name x p =>
      simp only [mNms, Bool.and_eq_true, decide_eq_true_eq] at h
      obtain ⟨l1, l2⟩ := loc_ok G hf h.1.2
      exact ⟨by rw [G.hN]; exact h.1.1, l1, l2, nms_ok G hf h.2⟩
    | _ => cases h
  | [], _ :: _, h => by cases h
  | e :: es, [], h => by cases e <;> cases h
theorem tg_ok {fc : Bool} (G : Good T pl k N sc W X) (hc : X.calm = true) (hf : fc = true → ∀ x, sc.names.lookup x = some .cell → X.fn x = true) {t : Tg} {e : Expr} (h : mTg N fc sc t e = true) : PG X e (tG pl X.K t) := by
  have nd : X.N.Nodup := by rw [G.hN]; exact G.nd
  cases t with
  | nm i =>
    cases e with
    | Name x p =>
      simp only [mTg, Bool.and_eq_true, decide_eq_true_eq] at h
      obtain ⟨l1, l2⟩ := loc_ok G hf h.2
      exact g_nm nd (by rw [G.hN]; exact h.1) l1 l2
    | _ => cases h
  | tp is =>
    cases e with
    | Tuple es kk p => exact g_tp hc nd (nms_ok G hf h)
    | _ => cases h
theorem tg_nm {fc : Bool} (G : Good T pl k N sc W X) (hf : fc = true → ∀ x, sc.names.lookup x = some .cell → X.fn x = true) {i : Nat} {e : Expr} (h : mTg N fc sc (.nm i) e = true) : PG X e (tG pl X.K (.nm i)) := by
  have nd : X.N.Nodup := by rw [G.hN]; exact G.nd
  cases e with
  | Name x p =>
    simp only [mTg, Bool.and_eq_true, decide_eq_true_eq] at h
    obtain ⟨l1, l2⟩ := loc_ok G hf h.2
    exact g_nm nd (by rw [G.hN]; exact h.1) l1 l2
  | _ => cases h
end
/-! ### a comprehension's block -/
def ownOf (N : List Str) (t : Tg) : List (Str × Nat) := t.own.filterMap fun i => (N[i]?).map fun x => (x, i)
def blkB (N : List Str) (sc scope : Scope) (t : Tg) : Bool :=
  decide (scope.kind = .function) && scope.names.all (fun y => decide (scope.names.lookup y.1 = some y.2)) &&
  scope.names.all (fun y => !decide (y.2 = .free) || decide (sc.names.lookup y.1 = some .cell) || decide (sc.names.lookup y.1 = some .free)) &&
  scope.names.all (fun y => !(decide (y.2 = .local) || decide (y.2 = .cell)) || decide (y.1 ∈ (ownOf N t).map (·.1)) || !decide (y.1 ∈ N)) &&
  decide ((ownOf N t).map (·.2) = t.own)
theorem blk_ok {N : List Str} {sc scope : Scope} {t : Tg} (h : blkB N sc scope t = true) : BlkOk N sc scope (ownOf N t) ∧ (ownOf N t).map (·.2) = t.own := by
  simp only [blkB, Bool.and_eq_true, decide_eq_true_eq, List.all_eq_true, Bool.or_eq_true, Bool.not_eq_true', decide_eq_false_iff_not] at h
  obtain ⟨⟨⟨⟨h1, h2⟩, h3⟩, h4⟩, h5⟩ := h
  refine ⟨⟨h1, h2, fun p hp => ?_, fun y hy e => ?_, fun y hy e => ?_⟩, h5⟩
  · obtain ⟨i, hi, q⟩ := List.mem_filterMap.mp hp
    cases e : N[i]? with
    | none => rw [e] at q; cases q
    | some x => rw [e] at q; cases q; exact e
  · rcases h3 y hy with (q | q) | q
    · exact absurd e q
    · exact .inl q
    · exact .inr q
  · rcases h4 y hy with (q | q) | q
    · rcases e with e | e
      · simp [e] at q
      · simp [e] at q
    · exact .inl q
    · exact .inr q

/-! ### looks at texts -/
def vName : Expr → Option (Str × Pos)
  | .Name x p => some (x, p)
  | _ => none
theorem vName_ok {e : Expr} {x p} (h : vName e = some (x, p)) : e = .Name x p := by
  cases e <;> first | (cases h; done) | (cases h; rfl)
def vConst : Expr → Option (Const × Pos)
  | .Constant c j p => some (c, p)
  | _ => none
theorem vConst_ok {e : Expr} {c p} (h : vConst e = some (c, p)) : ∃ j, e = .Constant c j p := by
  cases e <;> first | (cases h; done) | (cases h; exact ⟨_, rfl⟩)
def vBin : Expr → Option (Expr × Operator × Expr × Pos)
  | .BinOp a o b p => some (a, o, b, p)
  | _ => none
theorem vBin_ok {e a o b p} (h : vBin e = some (a, o, b, p)) : e = .BinOp a o b p := by
  cases e <;> first | (cases h; done) | (cases h; rfl)
def vNeg : Expr → Option (Expr × Pos)
  | .UnaryOp o a p => match o with
    | .USub => some (a, p)
    | _ => none
  | _ => none
theorem vNeg_ok {e a p} (h : vNeg e = some (a, p)) : e = .UnaryOp .USub a p := by
  cases e with
  | UnaryOp o a p => cases o <;> first | (cases h; done) | (cases h; rfl)
  | _ => cases h
def vNot : Expr → Option (Expr × Pos)
  | .UnaryOp o a p => match o with
    | .Not => some (a, p)
    | _ => none
  | _ => none
theorem vNot_ok {e a p} (h : vNot e = some (a, p)) : e = .UnaryOp .Not a p := by
  cases e with
  | UnaryOp o a p => cases o <;> first | (cases h; done) | (cases h; rfl)
  | _ => cases h
def vCmp : Expr → Option (Expr × List CmpOp × List Expr × Pos)
  | .Compare a o b p => some (a, o, b, p)
  | _ => none
theorem vCmp_ok {e a o b p} (h : vCmp e = some (a, o, b, p)) : e = .Compare a o b p := by
  cases e <;> first | (cases h; done) | (cases h; rfl)
/-- and, or: whether it is and, the first, the second, the others -/
def vBool : Expr → Option (Bool × Expr × Expr × List Expr × Pos)
  | .BoolOp o vs p => match vs with
    | a :: b :: r => match o with
      | .And => some (true, a, b, r, p)
      | .Or => some (false, a, b, r, p)
    | _ => none
  | _ => none
theorem vBool_ok {e k a b r p} (h : vBool e = some (k, a, b, r, p)) : e = .BoolOp (if k then .And else .Or) (a :: b :: r) p := by
  cases e with
  | BoolOp o vs p =>
    rcases vs with _ | ⟨a, _ | ⟨b, r⟩⟩
    · cases h
    · cases h
    · cases o <;> (cases h; rfl)
  | _ => cases h
def vIte : Expr → Option (Expr × Expr × Expr × Pos)
  | .IfExp c a b p => some (c, a, b, p)
  | _ => none
theorem vIte_ok {e c a b p} (h : vIte e = some (c, a, b, p)) : e = .IfExp c a b p := by
  cases e <;> first | (cases h; done) | (cases h; rfl)
def vTup : Expr → Option (List Expr)
  | .Tuple es _ _ => some es
  | _ => none
theorem vTup_ok {e es} (h : vTup e = some es) : ∃ k p, e = .Tuple es k p := by
  cases e <;> first | (cases h; done) | (cases h; exact ⟨_, _, rfl⟩)
def vLst : Expr → Option (List Expr)
  | .List es _ => some es
  | _ => none
theorem vLst_ok {e es} (h : vLst e = some es) : ∃ p, e = .List es p := by
  cases e <;> first | (cases h; done) | (cases h; exact ⟨_, rfl⟩)
def vDict : Expr → Option (List (Option Expr) × List Expr × Pos)
  | .Dict ks vs p => some (ks, vs, p)
  | _ => none
theorem vDict_ok {e ks vs p} (h : vDict e = some (ks, vs, p)) : e = .Dict ks vs p := by
  cases e <;> first | (cases h; done) | (cases h; rfl)
def vSub : Expr → Option (Expr × Expr × Pos)
  | .Subscript a i p => some (a, i, p)
  | _ => none
theorem vSub_ok {e a i p} (h : vSub e = some (a, i, p)) : e = .Subscript a i p := by
  cases e <;> first | (cases h; done) | (cases h; rfl)
def vSlice : Expr → Option (Option Expr × Option Expr × Option Expr × Pos)
  | .Slice l u s p => some (l, u, s, p)
  | _ => none
theorem vSlice_ok {e l u s p} (h : vSlice e = some (l, u, s, p)) : e = .Slice l u s p := by
  cases e <;> first | (cases h; done) | (cases h; rfl)
def vAtt : Expr → Option (Expr × Str × Pos)
  | .Attribute a x p => some (a, x, p)
  | _ => none
theorem vAtt_ok {e a x p} (h : vAtt e = some (a, x, p)) : e = .Attribute a x p := by
  cases e <;> first | (cases h; done) | (cases h; rfl)
/-- a call without keywords -/
def vCall : Expr → Option (Expr × List Expr × Pos)
  | .Call f es ks p => match ks with
    | [] => some (f, es, p)
    | _ => none
  | _ => none
theorem vCall_ok {e f es p} (h : vCall e = some (f, es, p)) : e = .Call f es [] p := by
  cases e with
  | Call f es ks p => cases ks <;> first | (cases h; done) | (cases h; rfl)
  | _ => cases h
/-- a call of a name -/
def vCallN (e : Expr) : Option (Str × List Expr × Pos × Pos) := match vCall e with
  | some (f, es, p) => match vName f with
    | some (x, q) => some (x, es, q, p)
    | none => none
  | none => none
theorem vCallN_ok {e x es q p} (h : vCallN e = some (x, es, q, p)) : e = .Call (.Name x q) es [] p := by
  unfold vCallN at h
  split at h
  · rename_i f es p hc
    split at h
    · rename_i x q hn
      cases h
      rw [vCall_ok hc, vName_ok hn]
    · cases h
  · cases h
/-- a method's call -/
def vCallM (e : Expr) : Option (Expr × Str × List Expr × Pos × Pos) := match vCall e with
  | some (f, es, p) => match vAtt f with
    | some (a, x, q) => some (a, x, es, q, p)
    | none => none
  | none => none
theorem vCallM_ok {e a x es q p} (h : vCallM e = some (a, x, es, q, p)) : e = .Call (.Attribute a x q) es [] p := by
  unfold vCallM at h
  split at h
  · rename_i f es p hc
    split at h
    · rename_i a x q hn
      cases h
      rw [vCall_ok hc, vAtt_ok hn]
    · cases h
  · cases h
def vOne : List Expr → Option Expr
  | [e] => some e
  | _ => none
theorem vOne_ok {l e} (h : vOne l = some e) : l = [e] := by
  rcases l with _ | ⟨a, _ | ⟨b, r⟩⟩ <;> first | (cases h; done) | (cases h; rfl)
def vTwo : List Expr → Option (Expr × Expr)
  | [e, f] => some (e, f)
  | _ => none
theorem vTwo_ok {l e f} (h : vTwo l = some (e, f)) : l = [e, f] := by
  rcases l with _ | ⟨a, _ | ⟨b, _ | ⟨c, r⟩⟩⟩ <;> first | (cases h; done) | (cases h; rfl)
/-- a comprehension of one for -/
def vComp : Expr → Option (Expr × Expr × Expr × List Expr × Scope × Pos)
  | .ListComp ee gs scope p => match gs with
    | [⟨tg, iter, ifs, asy⟩] => if asy = 0 then some (ee, tg, iter, ifs, scope, p) else none
    | _ => none
  | _ => none
theorem vComp_ok {e ee tg iter ifs scope p} (h : vComp e = some (ee, tg, iter, ifs, scope, p)) : e = .ListComp ee [⟨tg, iter, ifs, 0⟩] scope p := by
  cases e with
  | ListComp ee gs scope p =>
    rcases gs with _ | ⟨⟨tg, iter, ifs, asy⟩, _ | ⟨g2, gs⟩⟩
    · cases h
    · unfold vComp at h
      simp only at h
      split at h
      · rename_i ha
        subst ha
        cases h
        rfl
      · cases h
    · cases h
  | _ => cases h
def isTrueC : E → Bool
  | .c (.bl b) => b
  | _ => false
theorem isTrueC_ok {c : E} (h : isTrueC c = true) : c = .c (.bl true) := by
  cases c with
  | c d =>
    cases d with
    | bl b => cases b <;> first | (cases h; done) | rfl
    | _ => cases h
  | _ => cases h
/-! ### expressions -/
mutual
def mE (T : Tb) (nm : Nm) (N : List Str) (cm : Bool) : E → Bool → Scope → Expr → Bool
  | .v i, _, sc, e => match vName e with
    | some (x, _) => decide (N[i]? = some x) && visB sc x && okN x
    | none => false
  | .c d, _, _, e => match vConst e with
    | some (c, _) => (match d, c with
      | .int i, .int j => decide (i = j)
      | .bl i, .bool j => decide (i = j)
      | .str z, .str s => decide (toS z = s)
      | .non, .none => true
      | _, _ => false)
    | none => false
  | .g i, _, sc, e => match vName e with
    | some (x, _) => decide (nm.gls[i]? = some x) && glB sc x && okN x
    | none => false
  | .bin o a b, _, sc, e => match vBin e with
    | some (ea, op, eb, _) => decide (op = opOf o) && mE T nm N cm a false sc ea && mE T nm N cm b false sc eb
    | none => false
  | .neg a, tst, sc, e => match vNeg e with
    | some (ea, _) => !tst && mE T nm N cm a false sc ea
    | none => false
  | .cmp o a b, _, sc, e => match vCmp e with
    | some (ea, ops, es, _) => (match vOne es with
      | some eb => decide (ops = [copOf o]) && !behindInMarks (copOf o) eb && mE T nm N cm a false sc ea && mE T nm N cm b false sc eb
      | none => false)
    | none => false
  | .cmp2 o o' a b c, _, sc, e => match vCmp e with
    | some (ea, ops, es, _) => (match vTwo es with
      | some (eb, ec) => decide (ops = [copOf o, copOf o']) && !lastMarks [copOf o, copOf o'] [eb, ec] && mE T nm N cm a false sc ea && mE T nm N cm b false sc eb && mE T nm N cm c false sc ec
      | none => false)
    | none => false
  | .isi a t, _, sc, e => match vCallN e with
    | some (x, es, _, _) => (match vTwo es with
      | some (ea, ey) => (match vName ey with
        | some (y, _) => decide (x = ("isinstance" : Str)) && isTy t && decide (y = Str.ofString (tyN t)) && glB sc x && glB sc y && noStar ea && mE T nm N cm a false sc ea
        | none => false)
      | none => false)
    | none => false
  | .and a b, tst, sc, e => match vBool e with
    | some (k, ea, eb, rest, pos) => k && mE T nm N cm a tst sc ea && mE T nm N cm b tst sc (if rest.isEmpty then eb else .BoolOp .And (eb :: rest) pos)
    | none => false
  | .or a b, tst, sc, e => match vBool e with
    | some (k, ea, eb, rest, pos) => !k && mE T nm N cm a tst sc ea && mE T nm N cm b tst sc (if rest.isEmpty then eb else .BoolOp .Or (eb :: rest) pos)
    | none => false
  | .not a, tst, sc, e => match vNot e with
    | some (ea, _) => mE T nm N cm a tst sc ea
    | none => false
  | .ite c a b, tst, sc, e => match vIte e with
    | some (ec, ea, eb, _) => !tst && mE T nm N cm c true sc ec && mE T nm N cm a false sc ea && mE T nm N cm b false sc eb
    | none => false
  | .tup es, _, sc, e => match vTup e with
    | some ees => mEs T nm N cm es sc ees
    | none => false
  | .lst es, _, sc, e => match vLst e with
    | some ees => mEs T nm N cm es sc ees
    | none => false
  | .dnk, _, _, e => match vDict e with
    | some (ks, vs, _) => ks.isEmpty && vs.isEmpty
    | none => false
  | .dnt, _, _, e => match vDict e with
    | some (ks, vs, _) => ks.isEmpty && vs.isEmpty
    | none => false
  | .dic kvs, _, sc, e => match vDict e with
    | some (ks, vs, _) => ks.all (·.isSome) && decide (ks.length = vs.length) && decide (ks.length ≤ 15) && !ks.isEmpty && mKV T nm N cm kvs sc ks vs
    | none => false
  | .ix a i, _, sc, e => match vSub e with
    | some (ea, ei, _) => noSl ei && mE T nm N cm a false sc ea && mE T nm N cm i false sc ei
    | none => false
  | .gix q i, _, sc, e => match vSub e with
    | some (ea, ei, _) => (match vName ea with
      | some (x, _) => decide (nm.gls[q]? = some x) && glB sc x && okN x && noSl ei && mE T nm N cm i false sc ei
      | none => false)
    | none => false
  | .gin n q a, _, sc, e => match vCmp e with
    | some (ea, ops, es, _) => (match vOne es with
      | some eb => (match vName eb with
        | some (x, _) => decide (ops = [if n then .NotIn else .In]) && decide (nm.gls[q]? = some x) && glB sc x && okN x && mE T nm N cm a false sc ea
        | none => false)
      | none => false)
    | none => false
  | .gget q a d, _, sc, e => match vCallM e with
    | some (eo, y, es, apos, pos) => (match vName eo with
      | some (x, _) => (match vTwo es with
        | some (ea, ed) => cm && decide (y = ("get" : Str)) && decide (nm.gls[q]? = some x) && glB sc x && okN x && (apos.endLine == pos.line) && noStar ea && noStar ed && mE T nm N cm a false sc ea && mE T nm N cm d false sc ed
        | none => false)
      | none => false)
    | none => false
  | .slL a lo, _, sc, e => match vSub e with
    | some (ea, ei, _) => (match vSlice ei with
      | some (some el, none, none, _) => mE T nm N cm a false sc ea && mE T nm N cm lo false sc el
      | _ => false)
    | none => false
  | .slH a hi, _, sc, e => match vSub e with
    | some (ea, ei, _) => (match vSlice ei with
      | some (none, some eh, none, _) => mE T nm N cm a false sc ea && mE T nm N cm hi false sc eh
      | _ => false)
    | none => false
  | .slB a lo hi, _, sc, e => match vSub e with
    | some (ea, ei, _) => (match vSlice ei with
      | some (some el, some eh, none, _) => mE T nm N cm a false sc ea && mE T nm N cm lo false sc el && mE T nm N cm hi false sc eh
      | _ => false)
    | none => false
  | .rev a, _, sc, e => match vSub e with
    | some (ea, ei, _) => (match vSlice ei with
      | some (none, none, some es, _) => (match vNeg es with
        | some (eo, _) => (match vConst eo with
          | some (.int j, _) => decide (j = 1) && mE T nm N cm a false sc ea
          | _ => false)
        | none => false)
      | _ => false)
    | none => false
  | .lenset a, _, sc, e => match vCallN e with
    | some (x, es, _, _) => (match vOne es with
      | some e2 => (match vCallN e2 with
        | some (y, es2, _, _) => (match vOne es2 with
          | some ea => cm && decide (x = ("len" : Str)) && decide (y = ("set" : Str)) && glB sc x && glB sc y && noStar ea && mE T nm N cm a false sc ea
          | none => false)
        | none => false)
      | none => false)
    | none => false
  | .lzip _ _, _, _, _ => false
  | .any, _, _, _ => true
  | .fld a f, _, sc, e => match vAtt e with
    | some (ea, x, _) => decide (nm.ats[f]? = some x) && baseOk ea && mE T nm N cm a false sc ea
    | none => false
  | .call f es, _, sc, e => match vCallN e with
    | some (x, ees, _, _) => cm && decide (nm.fns[f]? = some (some x)) && glB sc x && okN x && ees.all noStar && mEs T nm N cm es sc ees
    | none => false
  | .mk C es, _, sc, e => match vCallN e with
    | some (x, ees, _, _) => cm && decide (nm.cls[C]? = some x) && (T.ini C).isSome && glB sc x && okN x && ees.all noStar && mEs T nm N cm es sc ees
    | none => false
  | .mth a m es, _, sc, e => match vCallM e with
    | some (ea, x, ees, apos, pos) => cm && decide (nm.ats[m]? = some x) && baseOk ea && (apos.endLine == pos.line) && ees.all noStar && decide (ees.length < 30) && mE T nm N cm a false sc ea && mEs T nm N cm es sc ees
    | none => false
  | .bi b es, _, sc, e => match vCallN e with
    | some (x, ees, _, _) => cm && decide (x = Str.ofString (biN b)) && glB sc x && ees.all noStar && (match ees with
      | [_] => b1ok b
      | [_, _] => b2ok b
      | _ => false) && mEs T nm N cm es sc ees
    | none => false
  | .bm m a es, _, sc, e => match vCallM e with
    | some (ea, x, ees, apos, pos) => decide (x = Str.ofString (bmN m)) && baseOk ea && (apos.endLine == pos.line) && ees.all noStar && decide (ees.length < 30) && mE T nm N cm a false sc ea && mEs T nm N cm es sc ees
    | none => false
  | .comp t s c e0, _, sc, e => match vComp e with
    | some (ee, tg, iter, ifs, scope, _) => cm && blkB N sc scope t && mTg N false (relS scope sc) t tg && folded iter && mI T nm N cm s sc tg iter && (match ifs with
      | [] => isTrueC c
      | [ec] => mE T nm N cm c true (relS scope sc) ec
      | _ => false) && mE T nm N cm e0 false (relS scope sc) ee
    | none => false
def mEs (T : Tb) (nm : Nm) (N : List Str) (cm : Bool) : Es → Scope → List Expr → Bool
  | .nil, _, l => l.isEmpty
  | .cons a r, sc, l => match l with
    | e :: es => noStar e && mE T nm N cm a false sc e && mEs T nm N cm r sc es
    | [] => false
def mKV (T : Tb) (nm : Nm) (N : List Str) (cm : Bool) : Es → Scope → List (Option Expr) → List Expr → Bool
  | .nil, _, ks, vs => ks.isEmpty && vs.isEmpty
  | .cons a (.cons b r), sc, ks, vs => match ks, vs with
    | some k :: ks, v :: vs => mE T nm N cm a false sc k && mE T nm N cm b false sc v && mKV T nm N cm r sc ks vs
    | _, _ => false
  | .cons _ .nil, _, _, _ => false
def mI (T : Tb) (nm : Nm) (N : List Str) (cm : Bool) : Src → Scope → Expr → Expr → Bool
  | .it a, sc, _, e => mE T nm N cm a false sc e
  | .rng es, sc, _, e => match vCallN e with
    | some (x, ees, _, _) => decide (x = ("range" : Str)) && glB sc x && ees.all noStar && (match ees with
      | [_] => true
      | [_, _] => true
      | _ => false) && mEs T nm N cm es sc ees
    | none => false
  | .enum a, sc, tg, e => match vTup tg with
    | some _ => (match vCallN e with
      | some (x, es, _, _) => (match vOne es with
        | some ea => decide (x = ("enumerate" : Str)) && glB sc x && noStar ea && mE T nm N cm a false sc ea
        | none => false)
      | none => false)
    | none => false
  | .zip a b, sc, tg, e => match vTup tg with
    | some _ => (match vCallN e with
      | some (x, es, _, _) => (match vTwo es with
        | some (ea, eb) => decide (x = ("zip" : Str)) && glB sc x && noStar ea && noStar eb && mE T nm N cm a false sc ea && mE T nm N cm b false sc eb
        | none => false)
      | none => false)
    | none => false
  | .zipt a b, sc, tg, e => match vName tg with
    | some _ => (match vCallN e with
      | some (x, es, _, _) => (match vTwo es with
        | some (ea, eb) => decide (x = ("zip" : Str)) && glB sc x && noStar ea && noStar eb && mE T nm N cm a false sc ea && mE T nm N cm b false sc eb
        | none => false)
      | none => false)
    | none => false
  | .revr es, sc, _, e => match vCallN e with
    | some (x, ees, _, _) => (match vOne ees with
      | some e2 => (match vCallN e2 with
        | some (y, es2, _, _) => (match vOne es2 with
          | some ea => decide (x = ("reversed" : Str)) && decide (y = ("range" : Str)) && glB sc x && glB sc y && noStar ea && mEs T nm N cm es sc [ea]
          | none => false)
        | none => false)
      | none => false)
    | none => false
end
end Sd
set_option Elab.async false
set_option linter.all false
set_option maxRecDepth 100000
set_option maxHeartbeats 4000000
/-! Snd14: what stands side by side means the same: expressions. -/
namespace Sd
open PySem PySem.Spec PyProof.Rows L2 Py
def OkE (T : Tb) (pl : Pl) (k : Nat) (W : WX) (X : Cx) (tst : Bool) (ir : E) (e : Expr) : Prop :=
  (tst = false → PE X e (tE T pl X.K k W ir)) ∧ (tst = true → PT X e (tT T pl X.K k W ir)) ∧ (tst = true → ∀ op vs p, e = .BoolOp op vs p → PW X e (tT T pl X.K k W ir))
section
variable {T : Tb} {pl : Pl} {X : Cx} {k : Nat} {N : List Str} {sc : Scope} {W : WX} {ia ib ic : E} {ie : Es} {a b c tg : Expr} {es : List Expr} {pos : Pos} {tst : Bool}
theorem OkE.plain (hp : plainT a = true) (h : PE X a (tE T pl X.K k W ia)) : OkE T pl k W X tst ia a :=
  ⟨fun _ => h, fun _ => t_plain h (plain_t hp _), fun _ op vs p e => by subst e; cases hp⟩
theorem OkE.both (h : PE X a (tE T pl X.K k W ia)) (ht : PT X a (tT T pl X.K k W ia)) (hn : ∀ op vs p, a ≠ .BoolOp op vs p) : OkE T pl k W X tst ia a :=
  ⟨fun _ => h, fun _ => ht, fun _ op vs p e => absurd e (hn _ _ _)⟩
theorem OkE.e (h : OkE T pl k W X false ia a) : PE X a (tE T pl X.K k W ia) := h.1 rfl
theorem OkE.t (h : OkE T pl k W X true ia a) : PT X a (tT T pl X.K k W ia) := h.2.1 rfl
theorem pe_one {op : BoolOp} (h : PE X a (tE T pl X.K k W ia)) : PE X (.BoolOp op [a] pos) (tE T pl X.K k W ia) := ⟨fun pins s σ H Q I q => by
  have := h.run pins s σ H Q I q
  exact this⟩
theorem ok_and {rest : List Expr} (h1 : OkE T pl k W X tst ia a) (h2 : rest = [] → OkE T pl k W X tst ib b) (h3 : rest ≠ [] → OkE T pl k W X tst ib (.BoolOp .And (b :: rest) pos)) : OkE T pl k W X tst (.and ia ib) (.BoolOp .And (a :: b :: rest) pos) := by
  have w : tst = true → PW X (.BoolOp .And (a :: b :: rest) pos) (tT T pl X.K k W (.and ia ib)) := fun ht => by
    refine t_and (h1.2.1 ht) ?_
    by_cases hr : rest = []
    · subst hr
      exact t_and1 ((h2 rfl).2.1 ht)
    · exact (h3 hr).2.2 ht _ _ _ rfl
  refine ⟨fun ht => ?_, fun ht => (w ht).pt, fun ht _ _ _ _ => w ht⟩
  refine s_and (h1.1 ht) ?_
  by_cases hr : rest = []
  · subst hr
    exact pe_one ((h2 rfl).1 ht)
  · exact (h3 hr).1 ht
theorem ok_or {rest : List Expr} (h1 : OkE T pl k W X tst ia a) (h2 : rest = [] → OkE T pl k W X tst ib b) (h3 : rest ≠ [] → OkE T pl k W X tst ib (.BoolOp .Or (b :: rest) pos)) : OkE T pl k W X tst (.or ia ib) (.BoolOp .Or (a :: b :: rest) pos) := by
  have w : tst = true → PW X (.BoolOp .Or (a :: b :: rest) pos) (tT T pl X.K k W (.or ia ib)) := fun ht => by
    refine t_or (h1.2.1 ht) ?_
    by_cases hr : rest = []
    · subst hr
      exact t_or1 ((h2 rfl).2.1 ht)
    · exact (h3 hr).2.2 ht _ _ _ rfl
  refine ⟨fun ht => ?_, fun ht => (w ht).pt, fun ht _ _ _ _ => w ht⟩
  refine s_or (h1.1 ht) ?_
  by_cases hr : rest = []
  · subst hr
    exact pe_one ((h2 rfl).1 ht)
  · exact (h3 hr).1 ht
theorem ok_not (h : OkE T pl k W X tst ia a) : OkE T pl k W X tst (.not ia) (.UnaryOp .Not a pos) :=
  ⟨fun ht => s_not (h.1 ht), fun ht => t_not (h.2.1 ht), fun _ _ _ _ e => by cases e⟩
end
/-- shorthand for the hypotheses -/
abbrev Hc (cm : Bool) (k : Nat) (X : Cx) : Prop := cm = true → Calm k X
section
variable {T : Tb} {pl : Pl} {k : Nat} {N : List Str} {cm : Bool}
mutual
theorem okE : ∀ (ir : E) {tst : Bool} {sc : Scope} {e : Expr} {X : Cx} {W : WX}, Good T pl k N sc W X → Hc cm k X → mE T pl.nm N cm ir tst sc e = true → OkE T pl k W X tst ir e
  | .v i, tst, sc, e, X, W, G, hC, h => by
    simp only [mE] at h
    split at h
    · rename_i x p hv
      obtain rfl := vName_ok hv
      simp only [Bool.and_eq_true, decide_eq_true_eq] at h
      obtain ⟨d1, d2⟩ := debug_ok h.2
      exact .plain rfl (s_v (by rw [G.hN]; exact h.1.1) (vis_ok G h.1.2) d1 d2)
    · cases h
  | .c d, tst, sc, e, X, W, G, hC, h => by
    simp only [mE] at h
    split at h
    · rename_i c p hv
      obtain ⟨j, rfl⟩ := vConst_ok hv
      refine .plain rfl ?_
      cases d <;> cases c <;> simp only [Bool.false_eq_true, decide_eq_true_eq] at h
      · exact s_non
      · subst h; exact s_bl
      · subst h; exact s_int
      · subst h; exact s_str
    · cases h
  | .g i, tst, sc, e, X, W, G, hC, h => by
    simp only [mE] at h
    split at h
    · rename_i x p hv
      obtain rfl := vName_ok hv
      simp only [Bool.and_eq_true, decide_eq_true_eq] at h
      obtain ⟨d1, d2⟩ := debug_ok h.2
      exact .plain rfl (s_g G (gl_ok G h.1.2) h.1.1 d1)
    · cases h
  | .bin o a b, tst, sc, e, X, W, G, hC, h => by
    simp only [mE] at h
    split at h
    · rename_i ea op eb p hv
      obtain rfl := vBin_ok hv
      simp only [Bool.and_eq_true, decide_eq_true_eq] at h
      obtain ⟨⟨rfl, h1⟩, h2⟩ := h
      exact .plain rfl (s_bin (okE a G hC h1).e (okE b G hC h2).e)
    · cases h
  | .neg a, tst, sc, e, X, W, G, hC, h => by
    simp only [mE] at h
    split at h
    · rename_i ea p hv
      obtain rfl := vNeg_ok hv
      simp only [Bool.and_eq_true, Bool.not_eq_true'] at h
      obtain ⟨rfl, h1⟩ := h
      exact ⟨fun _ => s_neg (okE a G hC h1).e, (fun e => by cases e), (fun e => by cases e)⟩
    · cases h
  | .cmp o a b, tst, sc, e, X, W, G, hC, h => by
    simp only [mE] at h
    split at h
    · rename_i ea ops es p hv
      obtain rfl := vCmp_ok hv
      split at h
      · rename_i eb ho
        obtain rfl := vOne_ok ho
        simp only [Bool.and_eq_true, decide_eq_true_eq, Bool.not_eq_true'] at h
        obtain ⟨⟨⟨rfl, hm⟩, h1⟩, h2⟩ := h
        exact .both (s_cmp G.hu (okE a G hC h1).e (okE b G hC h2).e hm) (t_cmp G.hu (okE a G hC h1).e (okE b G hC h2).e hm) (fun _ _ _ e => by cases e)
      · cases h
    · cases h
  | .cmp2 o o' a b c, tst, sc, e, X, W, G, hC, h => by
    simp only [mE] at h
    split at h
    · rename_i ea ops es p hv
      obtain rfl := vCmp_ok hv
      split at h
      · rename_i eb ec ho
        obtain rfl := vTwo_ok ho
        simp only [Bool.and_eq_true, decide_eq_true_eq, Bool.not_eq_true'] at h
        obtain ⟨⟨⟨⟨rfl, hm⟩, h1⟩, h2⟩, h3⟩ := h
        exact .both (s_cmp2 G.hu (okE a G hC h1).e (okE b G hC h2).e (okE c G hC h3).e hm) (t_cmp2 G.hu (okE a G hC h1).e (okE b G hC h2).e (okE c G hC h3).e hm) (fun _ _ _ e => by cases e)
      · cases h
    · cases h
  | .isi a t, tst, sc, e, X, W, G, hC, h => by
    simp only [mE] at h
    split at h
    · rename_i x es q p hv
      obtain rfl := vCallN_ok hv
      split at h
      · rename_i ea ey ho
        obtain rfl := vTwo_ok ho
        split at h
        · rename_i y p2 hy
          obtain rfl := vName_ok hy
          simp only [Bool.and_eq_true, decide_eq_true_eq] at h
          obtain ⟨⟨⟨⟨⟨⟨rfl, ht⟩, rfl⟩, g1⟩, g2⟩, hs⟩, h1⟩ := h
          exact .plain rfl (s_isi G ht (okE a G hC h1).e (gl_ok G g1) (gl_ok G g2) fun r => star_ok hs r _)
        · cases h
      · cases h
    · cases h
  | .and a b, tst, sc, e, X, W, G, hC, h => by
    simp only [mE] at h
    split at h
    · rename_i k ea eb rest p hv
      obtain rfl := vBool_ok hv
      simp only [Bool.and_eq_true] at h
      obtain ⟨⟨rfl, h1⟩, h2⟩ := h
      cases rest with
      | nil => exact ok_and (okE a G hC h1) (fun _ => okE b G hC h2) (fun q => absurd rfl q)
      | cons r1 rs => exact ok_and (okE a G hC h1) (fun q => by cases q) (fun q => okE b G hC h2)
    · cases h
  | .or a b, tst, sc, e, X, W, G, hC, h => by
    simp only [mE] at h
    split at h
    · rename_i k ea eb rest p hv
      obtain rfl := vBool_ok hv
      simp only [Bool.and_eq_true, Bool.not_eq_true'] at h
      obtain ⟨⟨rfl, h1⟩, h2⟩ := h
      cases rest with
      | nil => exact ok_or (okE a G hC h1) (fun _ => okE b G hC h2) (fun q => absurd rfl q)
      | cons r1 rs => exact ok_or (okE a G hC h1) (fun q => by cases q) (fun q => okE b G hC h2)
    · cases h
  | .not a, tst, sc, e, X, W, G, hC, h => by
    simp only [mE] at h
    split at h
    · rename_i ea p hv
      obtain rfl := vNot_ok hv
      exact ok_not (okE a G hC h)
    · cases h
  | .ite c a b, tst, sc, e, X, W, G, hC, h => by
    simp only [mE] at h
    split at h
    · rename_i ec ea eb p hv
      obtain rfl := vIte_ok hv
      simp only [Bool.and_eq_true, Bool.not_eq_true'] at h
      obtain ⟨⟨⟨rfl, h1⟩, h2⟩, h3⟩ := h
      exact ⟨fun _ => t_ite (tc := tT T pl X.K k W c) (okE c G hC h1).t (okE a G hC h2).e (okE b G hC h3).e, (fun e => by cases e), (fun e => by cases e)⟩
    · cases h
  | .tup es, tst, sc, e, X, W, G, hC, h => by
    simp only [mE] at h
    split at h
    · rename_i ees hv
      obtain ⟨kk, p, rfl⟩ := vTup_ok hv
      exact .plain rfl (s_tup (okEs es G hC h))
    · cases h
  | .lst es, tst, sc, e, X, W, G, hC, h => by
    simp only [mE] at h
    split at h
    · rename_i ees hv
      obtain ⟨p, rfl⟩ := vLst_ok hv
      exact .plain rfl (s_lst (okEs es G hC h))
    · cases h
  | .dnk, tst, sc, e, X, W, G, hC, h => by
    simp only [mE] at h
    split at h
    · rename_i ks vs p hv
      obtain rfl := vDict_ok hv
      simp only [Bool.and_eq_true, List.isEmpty_iff] at h
      obtain ⟨rfl, rfl⟩ := h
      exact .plain rfl s_dnk
    · cases h
  | .dnt, tst, sc, e, X, W, G, hC, h => by
    simp only [mE] at h
    split at h
    · rename_i ks vs p hv
      obtain rfl := vDict_ok hv
      simp only [Bool.and_eq_true, List.isEmpty_iff] at h
      obtain ⟨rfl, rfl⟩ := h
      exact .plain rfl s_dnt
    · cases h
  | .dic kvs, tst, sc, e, X, W, G, hC, h => by
    simp only [mE] at h
    split at h
    · rename_i ks vs p hv
      obtain rfl := vDict_ok hv
      simp only [Bool.and_eq_true, decide_eq_true_eq, Bool.not_eq_true'] at h
      obtain ⟨⟨⟨⟨h1, h2⟩, h3⟩, h4⟩, h5⟩ := h
      exact .plain rfl (s_dic G.hu h1 h2 h3 (fun q => by rw [q] at h4; cases h4) (okKV kvs G hC h5))
    · cases h
  | .gix q i, tst, sc, e, X, W, G, hC, h => by
    simp only [mE] at h
    split at h
    · rename_i ea ei p hv
      obtain rfl := vSub_ok hv
      split at h
      · rename_i x px hx
        obtain rfl := vName_ok hx
        simp only [Bool.and_eq_true, decide_eq_true_eq] at h
        obtain ⟨⟨⟨⟨h1, h2⟩, h3⟩, h4⟩, h5⟩ := h
        exact .plain rfl (s_gix G h1 (gl_ok G h2) (debug_ok h3).1 (okE i G hC h5).e (plain_ix h4))
      · cases h
    · cases h
  | .gin n q a, tst, sc, e, X, W, G, hC, h => by
    simp only [mE] at h
    split at h
    · rename_i ea ops es p hv
      obtain rfl := vCmp_ok hv
      split at h
      · rename_i eb ho
        obtain rfl := vOne_ok ho
        split at h
        · rename_i x px hx
          obtain rfl := vName_ok hx
          simp only [Bool.and_eq_true, decide_eq_true_eq] at h
          obtain ⟨⟨⟨⟨rfl, h1⟩, h2⟩, h3⟩, h5⟩ := h
          exact .both (s_gin G h1 (gl_ok G h2) (debug_ok h3).1 (okE a G hC h5).e) (t_gin G h1 (gl_ok G h2) (debug_ok h3).1 (okE a G hC h5).e) (fun _ _ _ e => by cases e)
        · cases h
      · cases h
    · cases h
  | .gget q a d, tst, sc, e, X, W, G, hC, h => by
    simp only [mE] at h
    split at h
    · rename_i eo y es apos p hv
      obtain rfl := vCallM_ok hv
      split at h
      · rename_i x px hx
        obtain rfl := vName_ok hx
        split at h
        · rename_i ea ed ho
          obtain rfl := vTwo_ok ho
          simp only [Bool.and_eq_true, decide_eq_true_eq] at h
          obtain ⟨⟨⟨⟨⟨⟨⟨⟨⟨hcm, rfl⟩, h1⟩, h2⟩, h3⟩, hl⟩, n1⟩, n2⟩, h5⟩, h6⟩ := h
          exact .plain rfl (s_gget (hC hcm) G h1 (gl_ok G h2) (debug_ok h3).1 (okE a G hC h5).e (okE d G hC h6).e hl (fun r => star_ok n1 r _) (fun r => star_ok n2 r _))
        · cases h
      · cases h
    · cases h
  | .any, tst, sc, e, X, W, G, hC, h => by
    have z : ∀ {σ : L2.St} {H : Hp} {Q : VK}, ¬ tE T pl X.K k W .any σ H Q := fun {σ H Q} ⟨ρ, L, g, rl, rg, q⟩ => by rw [ev] at q; exact q
    have z2 : ∀ {σ : L2.St} {H : Hp} {Q : Bool → Hp → Prop}, ¬ tT T pl X.K k W .any σ H Q := fun {σ H Q} ⟨ρ, L, g, rl, rg, q⟩ => by rw [ev] at q; exact q
    exact ⟨fun _ => ⟨fun pins s σ H Q I q => (z q).elim⟩, fun _ => ⟨fun pins s σ H Q I q => (z2 q).elim⟩, fun _ _ _ _ _ => ⟨fun w pins s σ H Q I q => (z2 q).elim⟩⟩
  | .lzip _ _, tst, sc, e, X, W, G, hC, h => by
    simp only [mE, Bool.false_eq_true] at h
  | .rev a, tst, sc, e, X, W, G, hC, h => by
    simp only [mE] at h
    split at h
    · rename_i ea ei p hv
      obtain rfl := vSub_ok hv
      split at h
      · rename_i es p2 hs
        obtain rfl := vSlice_ok hs
        split at h
        · rename_i eo p3 hn
          obtain rfl := vNeg_ok hn
          split at h
          · rename_i j p4 hc
            obtain ⟨jj, rfl⟩ := vConst_ok hc
            simp only [Bool.and_eq_true, decide_eq_true_eq] at h
            obtain ⟨rfl, h1⟩ := h
            exact .plain rfl (s_rev (okE a G hC h1).e)
          · cases h
        · cases h
      · cases h
    · cases h
  | .lenset a, tst, sc, e, X, W, G, hC, h => by
    simp only [mE] at h
    split at h
    · rename_i x es q p hv
      obtain rfl := vCallN_ok hv
      split at h
      · rename_i e2 ho
        obtain rfl := vOne_ok ho
        split at h
        · rename_i y es2 q2 p2 hv2
          obtain rfl := vCallN_ok hv2
          split at h
          · rename_i ea ho2
            obtain rfl := vOne_ok ho2
            simp only [Bool.and_eq_true, decide_eq_true_eq] at h
            obtain ⟨⟨⟨⟨⟨⟨hcm, rfl⟩, rfl⟩, g1⟩, g2⟩, hs⟩, h1⟩ := h
            exact .plain rfl (s_lenset G (hC hcm) (gl_ok G g1) (gl_ok G g2) (okE a G hC h1).e fun r => star_ok hs r _)
          · cases h
        · cases h
      · cases h
    · cases h
  | .ix a i, tst, sc, e, X, W, G, hC, h => by
    simp only [mE] at h
    split at h
    · rename_i ea ei p hv
      obtain rfl := vSub_ok hv
      simp only [Bool.and_eq_true] at h
      exact .plain rfl (s_ix G.hu (okE a G hC h.1.2).e (okE i G hC h.2).e (plain_ix h.1.1))
    · cases h
  | .slL a lo, tst, sc, e, X, W, G, hC, h => by
    simp only [mE] at h
    split at h
    · rename_i ea ei p hv
      obtain rfl := vSub_ok hv
      split at h
      · rename_i el p2 hs
        obtain rfl := vSlice_ok hs
        simp only [Bool.and_eq_true] at h
        exact .plain rfl (s_slL (okE a G hC h.1).e (okE lo G hC h.2).e)
      · cases h
    · cases h
  | .slH a hi, tst, sc, e, X, W, G, hC, h => by
    simp only [mE] at h
    split at h
    · rename_i ea ei p hv
      obtain rfl := vSub_ok hv
      split at h
      · rename_i el p2 hs
        obtain rfl := vSlice_ok hs
        simp only [Bool.and_eq_true] at h
        exact .plain rfl (s_slH (okE a G hC h.1).e (okE hi G hC h.2).e)
      · cases h
    · cases h
  | .slB a lo hi, tst, sc, e, X, W, G, hC, h => by
    simp only [mE] at h
    split at h
    · rename_i ea ei p hv
      obtain rfl := vSub_ok hv
      split at h
      · rename_i el eh p2 hs
        obtain rfl := vSlice_ok hs
        simp only [Bool.and_eq_true] at h
        exact .plain rfl (s_slB (okE a G hC h.1.1).e (okE lo G hC h.1.2).e (okE hi G hC h.2).e)
      · cases h
    · cases h
  | .fld a f, tst, sc, e, X, W, G, hC, h => by
    simp only [mE] at h
    split at h
    · rename_i ea x p hv
      obtain rfl := vAtt_ok hv
      simp only [Bool.and_eq_true, decide_eq_true_eq] at h
      exact .plain rfl (s_fld G (okE a G hC h.2).e h.1.1 (base_ok h.1.2 _ _ _))
    · cases h
  | .call f es, tst, sc, e, X, W, G, hC, h => by
    simp only [mE] at h
    split at h
    · rename_i x ees q p hv
      obtain rfl := vCallN_ok hv
      simp only [Bool.and_eq_true, decide_eq_true_eq] at h
      obtain ⟨⟨⟨⟨⟨hcm, hx⟩, hg⟩, ho⟩, hs⟩, h1⟩ := h
      refine .plain rfl ?_
      cases ees with
      | nil =>
        cases es with
        | nil => exact s_call0 G (hC hcm) hx (gl_ok G hg) (debug_ok ho).1
        | cons _ _ => simp only [mEs, Bool.false_eq_true] at h1
      | cons e0 er =>
        have hs' := hs
        simp only [List.all_cons, Bool.and_eq_true] at hs'
        exact s_call G (hC hcm) hx (gl_ok G hg) (debug_ok ho).1 (okEs es G hC h1) (star_ok hs'.1 _ _) (stars_none _ _ hs'.2).1
    · cases h
  | .mk C es, tst, sc, e, X, W, G, hC, h => by
    simp only [mE] at h
    split at h
    · rename_i x ees q p hv
      obtain rfl := vCallN_ok hv
      simp only [Bool.and_eq_true, decide_eq_true_eq] at h
      obtain ⟨⟨⟨⟨⟨⟨hcm, hx⟩, hi⟩, hg⟩, ho⟩, hs⟩, h1⟩ := h
      obtain ⟨f, hf⟩ := Option.isSome_iff_exists.mp hi
      refine .plain rfl ?_
      cases ees with
      | nil =>
        cases es with
        | nil => exact s_mk0 G (hC hcm) hf hx (gl_ok G hg) (debug_ok ho).1
        | cons _ _ => simp only [mEs, Bool.false_eq_true] at h1
      | cons e0 er =>
        have hs' := hs
        simp only [List.all_cons, Bool.and_eq_true] at hs'
        exact s_mk G (hC hcm) hf hx (gl_ok G hg) (debug_ok ho).1 (okEs es G hC h1) (star_ok hs'.1 _ _) (stars_none _ _ hs'.2).1
    · cases h
  | .mth a m es, tst, sc, e, X, W, G, hC, h => by
    simp only [mE] at h
    split at h
    · rename_i ea x ees apos p hv
      obtain rfl := vCallM_ok hv
      simp only [Bool.and_eq_true, decide_eq_true_eq] at h
      obtain ⟨⟨⟨⟨⟨⟨⟨hcm, hx⟩, hb⟩, hl⟩, hs⟩, hlen⟩, h1⟩, h2⟩ := h
      refine .plain rfl ?_
      cases ees with
      | nil =>
        cases es with
        | nil => exact s_mth0 G (hC hcm) (okE a G hC h1).e hx (meth_eq hb hs hlen hl)
        | cons _ _ => simp only [mEs, Bool.false_eq_true] at h2
      | cons e0 er =>
        have hs' := hs
        simp only [List.all_cons, Bool.and_eq_true] at hs'
        exact s_mth G (hC hcm) (okE a G hC h1).e hx (okEs es G hC h2) (star_ok hs'.1 _ _) (stars_none _ _ hs'.2).1 (meth_eq hb hs hlen hl)
    · cases h
  | .bi b es, tst, sc, e, X, W, G, hC, h => by
    simp only [mE] at h
    split at h
    · rename_i x ees q p hv
      obtain rfl := vCallN_ok hv
      simp only [Bool.and_eq_true, decide_eq_true_eq] at h
      obtain ⟨⟨⟨⟨⟨hcm, rfl⟩, hg⟩, hs⟩, hb⟩, h1⟩ := h
      refine .plain rfl ?_
      rcases ees with _ | ⟨e1, _ | ⟨e2, _ | ⟨e3, ees⟩⟩⟩
      · cases hb
      · simp only [List.all_cons, List.all_nil, Bool.and_true] at hs
        rcases es with _ | ⟨a1, _ | ⟨a2, es⟩⟩
        · simp [mEs] at h1
        · simp only [mEs, Bool.and_eq_true] at h1
          exact s_bi1 G (hC hcm) hb (okE a1 G hC h1.1.2).e (gl_ok G hg) fun r => star_ok hs r _
        · simp [mEs] at h1
      · simp only [List.all_cons, List.all_nil, Bool.and_true, Bool.and_eq_true] at hs
        rcases es with _ | ⟨a1, _ | ⟨a2, _ | ⟨a3, es⟩⟩⟩
        · simp [mEs] at h1
        · simp [mEs] at h1
        · simp only [mEs, Bool.and_eq_true] at h1
          exact s_bi2 G (hC hcm) hb (okE a1 G hC h1.1.2).e (okE a2 G hC h1.2.1.2).e (gl_ok G hg) (fun r => star_ok hs.1 r _) (fun r => star_ok hs.2 r _)
        · simp [mEs] at h1
      · cases hb
    · cases h
  | .bm m a es, tst, sc, e, X, W, G, hC, h => by
    simp only [mE] at h
    split at h
    · rename_i ea x ees apos p hv
      obtain rfl := vCallM_ok hv
      simp only [Bool.and_eq_true, decide_eq_true_eq] at h
      obtain ⟨⟨⟨⟨⟨⟨rfl, hb⟩, hl⟩, hs⟩, hlen⟩, h1⟩, h2⟩ := h
      refine .plain rfl ?_
      cases ees with
      | nil =>
        cases es with
        | nil => exact s_bm0 G.hu (okE a G hC h1).e (base_ok hb _ _ _) hl
        | cons _ _ => simp only [mEs, Bool.false_eq_true] at h2
      | cons e0 er =>
        have hs' := hs
        simp only [List.all_cons, Bool.and_eq_true] at hs'
        have few : ((backTo p (starEach (e0 :: er) X.env)).all (fun x => !x.1) && (backToKw p (keywordEach [] X.env)).all (fun x => x.1.isSome)
      && decide ((e0 :: er).length + ([] : List Keyword).length + (if ([] : List Keyword).isEmpty then 0 else 1) < 30)) = true := by
          rw [(stars_none p X.env hs).2]
          show (true && true && decide ((e0 :: er).length + 0 + 0 < 30)) = true
          simp only [Nat.add_zero, Bool.and_self, Bool.true_and, decide_eq_true_eq]
          exact hlen
        exact s_bm G.hu (okE a G hC h1).e (okEs es G hC h2) (base_ok hb _ _ _) few hl (star_ok hs'.1 _ _) (stars_none _ _ hs'.2).1
    · cases h
  | .comp t s c e0, tst, sc, e, X, W, G, hC, h => by
    simp only [mE] at h
    split at h
    · rename_i ee tg iter ifs scope p hv
      obtain rfl := vComp_ok hv
      simp only [Bool.and_eq_true] at h
      obtain ⟨⟨⟨⟨⟨⟨hcm, hb⟩, ht⟩, hf⟩, hi⟩, hifs⟩, he⟩ := h
      have C0 := hC hcm
      obtain ⟨ok, hown⟩ := blk_ok hb
      refine .plain rfl (s_comp G C0 (okI s G hC hi) (by rw [G.hN, G.sc_]; exact ok) hown (fun s H C cl fp => tg_ok (G.blk s H scope C cl fp) C0.calm (fun z => by cases z) ht) (fun s H C cl fp => ?_)
        (fun s H C cl fp => (okE e0 (G.blk s H scope C cl fp) (fun _ => C0.blk s H scope C cl fp) he).e) (folded_ok hf _))
      rcases ifs with _ | ⟨ec, _ | ⟨e2, ifs⟩⟩
      · obtain rfl := isTrueC_ok hifs
        exact pts_true (X := X.blk s H scope (compEnvC scope cl C X.env) fp)
      · exact pts_one (okE c (G.blk s H scope C cl fp) (fun _ => C0.blk s H scope C cl fp) hifs).t
      · cases hifs
    · cases h
theorem okEs : ∀ (ir : Es) {sc : Scope} {es : List Expr} {X : Cx} {W : WX}, Good T pl k N sc W X → Hc cm k X → mEs T pl.nm N cm ir sc es = true → PA X es (tEs T pl X.K k W ir)
  | .nil, sc, es, X, W, G, hC, h => by
    simp only [mEs, List.isEmpty_iff] at h
    subst h
    exact a_nil
  | .cons a r, sc, es, X, W, G, hC, h => by
    simp only [mEs] at h
    split at h
    · rename_i e es
      simp only [Bool.and_eq_true] at h
      exact a_cons (okE a G hC h.1.2).e (okEs r G hC h.2) (star_ok h.1.1 _ _)
    · cases h
theorem okKV : ∀ (ir : Es) {sc : Scope} {pos : Pos} {ks : List (Option Expr)} {vs : List Expr} {X : Cx} {W : WX}, Good T pl k N sc W X → Hc cm k X → mKV T pl.nm N cm ir sc ks vs = true → PKV T pl k W X pos ks vs ir
  | .nil, sc, pos, ks, vs, X, W, G, hC, h => by
    simp only [mKV, Bool.and_eq_true, List.isEmpty_iff] at h
    obtain ⟨rfl, rfl⟩ := h
    exact kv_nil
  | .cons a (.cons b r), sc, pos, ks, vs, X, W, G, hC, h => by
    simp only [mKV] at h
    split at h
    · rename_i k ks v vs
      simp only [Bool.and_eq_true] at h
      obtain ⟨⟨h1, h2⟩, h3⟩ := h
      exact kv_cons (okE a G hC h1).e (okE b G hC h2).e (okKV r G hC h3)
    · cases h
  | .cons _ .nil, sc, pos, ks, vs, X, W, G, hC, h => by simp only [mKV, Bool.false_eq_true] at h
theorem okI : ∀ (ir : Src) {sc : Scope} {tg e : Expr} {X : Cx} {W : WX}, Good T pl k N sc W X → Hc cm k X → mI T pl.nm N cm ir sc tg e = true → PI X tg e (tI T pl X.K k W ir)
  | .it a, sc, tg, e, X, W, G, hC, h => by
    simp only [mI] at h
    exact i_it (okE a G hC h).e
  | .rng es, sc, tg, e, X, W, G, hC, h => by
    simp only [mI] at h
    split at h
    · rename_i x ees q p hv
      obtain rfl := vCallN_ok hv
      simp only [Bool.and_eq_true, decide_eq_true_eq] at h
      obtain ⟨⟨⟨⟨rfl, hg⟩, hs⟩, hb⟩, h1⟩ := h
      rcases ees with _ | ⟨e1, _ | ⟨e2, _ | ⟨e3, ees⟩⟩⟩
      · cases hb
      · simp only [List.all_cons, List.all_nil, Bool.and_true] at hs
        rcases es with _ | ⟨a1, _ | ⟨a2, es⟩⟩
        · simp [mEs] at h1
        · simp only [mEs, Bool.and_eq_true] at h1
          exact i_rng1 G (gl_ok G hg) (okE a1 G hC h1.1.2).e fun r => star_ok hs r _
        · simp [mEs] at h1
      · simp only [List.all_cons, List.all_nil, Bool.and_true, Bool.and_eq_true] at hs
        rcases es with _ | ⟨a1, _ | ⟨a2, _ | ⟨a3, es⟩⟩⟩
        · simp [mEs] at h1
        · simp [mEs] at h1
        · simp only [mEs, Bool.and_eq_true] at h1
          exact i_rng2 G (gl_ok G hg) (okE a1 G hC h1.1.2).e (okE a2 G hC h1.2.1.2).e (fun r => star_ok hs.1 r _) (fun r => star_ok hs.2 r _)
        · simp [mEs] at h1
      · cases hb
    · cases h
  | .enum a, sc, tg, e, X, W, G, hC, h => by
    simp only [mI] at h
    split at h
    · rename_i ts hv
      obtain ⟨kk, tp, rfl⟩ := vTup_ok hv
      split at h
      · rename_i x es q p hv2
        obtain rfl := vCallN_ok hv2
        split at h
        · rename_i ea ho
          obtain rfl := vOne_ok ho
          simp only [Bool.and_eq_true, decide_eq_true_eq] at h
          obtain ⟨⟨⟨rfl, hg⟩, hs⟩, h1⟩ := h
          exact i_enum G (gl_ok G hg) (okE a G hC h1).e fun r => star_ok hs r _
        · cases h
      · cases h
    · cases h
  | .zip a b, sc, tg, e, X, W, G, hC, h => by
    simp only [mI] at h
    split at h
    · rename_i ts hv
      obtain ⟨kk, tp, rfl⟩ := vTup_ok hv
      split at h
      · rename_i x es q p hv2
        obtain rfl := vCallN_ok hv2
        split at h
        · rename_i ea eb ho
          obtain rfl := vTwo_ok ho
          simp only [Bool.and_eq_true, decide_eq_true_eq] at h
          obtain ⟨⟨⟨⟨⟨rfl, hg⟩, n1⟩, n2⟩, h1⟩, h2⟩ := h
          exact i_zip G (gl_ok G hg) (okE a G hC h1).e (okE b G hC h2).e (fun r => star_ok n1 r _) (fun r => star_ok n2 r _)
        · cases h
      · cases h
    · cases h
  | .zipt a b, sc, tg, e, X, W, G, hC, h => by
    simp only [mI] at h
    split at h
    · rename_i tx tp hv
      obtain rfl := vName_ok hv
      split at h
      · rename_i x es q p hv2
        obtain rfl := vCallN_ok hv2
        split at h
        · rename_i ea eb ho
          obtain rfl := vTwo_ok ho
          simp only [Bool.and_eq_true, decide_eq_true_eq] at h
          obtain ⟨⟨⟨⟨⟨rfl, hg⟩, n1⟩, n2⟩, h1⟩, h2⟩ := h
          exact i_zipt G (gl_ok G hg) trivial (okE a G hC h1).e (okE b G hC h2).e (fun r => star_ok n1 r _) (fun r => star_ok n2 r _)
        · cases h
      · cases h
    · cases h
  | .revr es, sc, tg, e, X, W, G, hC, h => by
    simp only [mI] at h
    split at h
    · rename_i x ees q p hv
      obtain rfl := vCallN_ok hv
      split at h
      · rename_i e2 ho
        obtain rfl := vOne_ok ho
        split at h
        · rename_i y es2 q2 p2 hv2
          obtain rfl := vCallN_ok hv2
          split at h
          · rename_i ea ho2
            obtain rfl := vOne_ok ho2
            simp only [Bool.and_eq_true, decide_eq_true_eq] at h
            obtain ⟨⟨⟨⟨⟨rfl, rfl⟩, g1⟩, g2⟩, n1⟩, h1⟩ := h
            rcases es with _ | ⟨a1, _ | ⟨a2, es⟩⟩
            · simp [mEs] at h1
            · simp only [mEs, Bool.and_eq_true] at h1
              exact i_revr G (gl_ok G g1) (gl_ok G g2) (okE a1 G hC h1.1.2).e fun r => star_ok n1 r _
            · simp [mEs] at h1
          · cases h
        · cases h
      · cases h
    · cases h
end
end
end Sd
set_option Elab.async false
set_option linter.all false
set_option maxRecDepth 100000
set_option maxHeartbeats 4000000
/-! Snd15: what stands side by side means the same: statements. -/
namespace Sd
open PySem PySem.Spec PyProof.Rows L2 Py
/-- a, b = x, y is stored from the right -/
def parB (sc : Scope) (x y : Str) (px py : Pos) (ea eb : Expr) : Bool :=
  decide (sc.kind = .function) && decide (sc.names.lookup x = some .local) && decide (sc.names.lookup y = some .local) && (px.line == py.line) && !(x == y) && noStar ea && noStar eb && !([ea, eb].all (foldedForSure 8)) && !([ea, eb].all (constantsAlone 8))
/-! ### looks at statements -/
def wExpr : Stmt → Option (Expr × Pos)
  | .Expr e p => some (e, p)
  | _ => none
theorem wExpr_ok {s e p} (h : wExpr s = some (e, p)) : s = .Expr e p := by
  cases s <;> first | (cases h; done) | (cases h; rfl)
def wPass : Stmt → Bool
  | .Pass _ => true
  | .Expr e _ => match vConst e with
    | some (.str _, _) => true
    | _ => false
  | _ => false
def wBrk : Stmt → Option Pos
  | .Break p => some p
  | _ => none
theorem wBrk_ok {s p} (h : wBrk s = some p) : s = .Break p := by
  cases s <;> first | (cases h; done) | (cases h; rfl)
def wCnt : Stmt → Option Pos
  | .Continue p => some p
  | _ => none
theorem wCnt_ok {s p} (h : wCnt s = some p) : s = .Continue p := by
  cases s <;> first | (cases h; done) | (cases h; rfl)
def wRet : Stmt → Option (Option Expr × Pos)
  | .Return e p => some (e, p)
  | _ => none
theorem wRet_ok {s e p} (h : wRet s = some (e, p)) : s = .Return e p := by
  cases s <;> first | (cases h; done) | (cases h; rfl)
def wIf : Stmt → Option (Expr × List Stmt × List Stmt × Pos)
  | .If c a b p => some (c, a, b, p)
  | _ => none
theorem wIf_ok {s c a b p} (h : wIf s = some (c, a, b, p)) : s = .If c a b p := by
  cases s <;> first | (cases h; done) | (cases h; rfl)
def wWhl : Stmt → Option (Expr × List Stmt × Pos)
  | .While c b e p => if e.isEmpty then some (c, b, p) else none
  | _ => none
theorem wWhl_ok {s c b p} (h : wWhl s = some (c, b, p)) : s = .While c b [] p := by
  cases s with
  | While c b e p => cases e <;> first | (cases h; done) | (cases h; rfl)
  | _ => cases h
def wFor : Stmt → Option (Expr × Expr × List Stmt × Pos)
  | .For t i b e p => if e.isEmpty then some (t, i, b, p) else none
  | _ => none
theorem wFor_ok {s t i b p} (h : wFor s = some (t, i, b, p)) : s = .For t i b [] p := by
  cases s with
  | For t i b e p => cases e <;> first | (cases h; done) | (cases h; rfl)
  | _ => cases h
def wAsg : Stmt → Option (Expr × Expr × Pos)
  | .Assign ts e p => match vOne ts with
    | some t => some (t, e, p)
    | none => none
  | _ => none
theorem wAsg_ok {s t e p} (h : wAsg s = some (t, e, p)) : s = .Assign [t] e p := by
  cases s with
  | Assign ts e p =>
    simp only [wAsg] at h
    cases h2 : vOne ts with
    | none => rw [h2] at h; cases h
    | some t =>
      rw [h2] at h
      cases h
      rw [vOne_ok h2]
  | _ => cases h
def wAug : Stmt → Option (Expr × Operator × Expr × Pos)
  | .AugAssign t o e p => some (t, o, e, p)
  | _ => none
theorem wAug_ok {s t o e p} (h : wAug s = some (t, o, e, p)) : s = .AugAssign t o e p := by
  cases s <;> first | (cases h; done) | (cases h; rfl)
def wDel : Stmt → Option (Expr × Pos)
  | .Delete ts p => match ts with
    | [t] => some (t, p)
    | _ => none
  | _ => none
theorem wDel_ok {s t p} (h : wDel s = some (t, p)) : s = .Delete [t] p := by
  cases s with
  | Delete ts p => rcases ts with _ | ⟨t, _ | ⟨t2, ts⟩⟩ <;> first | (cases h; done) | (cases h; rfl)
  | _ => cases h
def wRaise : Stmt → Option (Expr × Option Expr × Pos)
  | .Raise e c p => match e with
    | some e => some (e, c, p)
    | none => none
  | _ => none
theorem wRaise_ok {s e c p} (h : wRaise s = some (e, c, p)) : s = .Raise (some e) c p := by
  cases s with
  | Raise e c p => cases e <;> first | (cases h; done) | (cases h; rfl)
  | _ => cases h
/-- try with one handler, without else and finally: the body, the class, its name, the suite -/
def wTry : Stmt → Option (List Stmt × Expr × Option Str × List Stmt × Pos × Pos)
  | .Try body hs el fb p => match hs with
    | [.ExceptHandler ty nm suite p1] => match ty with
      | some ty => if el.isEmpty && fb.isEmpty then some (body, ty, nm, suite, p1, p) else none
      | none => none
    | _ => none
  | _ => none
theorem wTry_ok {s body ty nm suite p1 p} (h : wTry s = some (body, ty, nm, suite, p1, p)) : s = .Try body [.ExceptHandler (some ty) nm suite p1] [] [] p := by
  cases s with
  | Try body hs el fb p =>
    rcases hs with _ | ⟨⟨ty, nmo, suite, p1⟩, _ | ⟨h2, hs⟩⟩
    · cases h
    · cases ty with
      | none => cases h
      | some ty => cases el <;> cases fb <;> first | (cases h; done) | (cases h; rfl)
    · cases h
  | _ => cases h
/-- a, b = x, y -/
def wPar (s : Stmt) : Option (Str × Pos × Str × Pos × Expr × Expr) := match wAsg s with
  | some (t, e, _) => match vTup t, vTup e with
    | some ts, some es => match vTwo ts, vTwo es with
      | some (a, b), some (x, y) => match vName a, vName b with
        | some (n, p), some (m, q) => some (n, p, m, q, x, y)
        | _, _ => none
      | _, _ => none
    | _, _ => none
  | none => none
theorem wPar_ok {s n p m q x y} (h : wPar s = some (n, p, m, q, x, y)) : ∃ k1 p1 k2 p2 p3, s = .Assign [.Tuple [.Name n p, .Name m q] k1 p1] (.Tuple [x, y] k2 p2) p3 := by
  unfold wPar at h
  split at h
  · rename_i t e p3 h1
    split at h
    · rename_i ts es h2 h3
      split at h
      · rename_i a b x y h4 h5
        split at h
        · rename_i h6 h7
          cases h
          obtain ⟨k1, p1, rfl⟩ := vTup_ok h2
          obtain ⟨k2, p2, rfl⟩ := vTup_ok h3
          rw [wAsg_ok h1, vTwo_ok h4, vTwo_ok h5, vName_ok h6, vName_ok h7]
          exact ⟨k1, p1, k2, p2, p3, rfl⟩
        · cases h
      · cases h
    · cases h
  · cases h
def isCompE : E → Bool
  | .comp _ _ _ _ => true
  | _ => false
def isNmT : Tg → Bool
  | .nm _ => true
  | _ => false
mutual
def mS (T : Tb) (nm : Nm) (N : List Str) (sc : Scope) : S → Bool → Stmt → Bool
  | .set t e, cm, s => match wAsg s with
    | some (tg, ev, _) => if isCompE e && isNmT t then mTg N true sc t tg && mE T nm N cm e false sc ev
      else cm && mTg N true sc t tg && noLc ev && (isNmT t || noTup ev) && mE T nm N cm e false sc ev
    | none => false
  | .par i j a b, cm, s => match wPar s with
    | some (x, px, y, py, ea, eb) => cm && decide (N[i]? = some x) && decide (N[j]? = some y) && !decide (i = j) && parB sc x y px py ea eb && mE T nm N cm a false sc ea && mE T nm N cm b false sc eb
    | none => false
  | .aug i o e, cm, s => match wAug s with
    | some (tg, op, ev, _) => (match vName tg with
      | some (x, _) => decide (N[i]? = some x) && locB true sc x && decide (op = opOf o) && mE T nm N cm e false sc ev
      | none => false)
    | none => false
  | .augF a f o e, cm, s => match wAug s with
    | some (tg, op, ev, _) => (match vAtt tg with
      | some (ea, x, _) => decide (nm.ats[f]? = some x) && decide (op = opOf o) && mE T nm N cm a false sc ea && mE T nm N cm e false sc ev
      | none => false)
    | none => false
  | .augI a i o e, cm, s => match wAug s with
    | some (tg, op, ev, _) => (match vSub tg with
      | some (ea, ei, _) => noSl ei && decide (op = opOf o) && mE T nm N cm a false sc ea && mE T nm N cm i false sc ei && mE T nm N cm e false sc ev
      | none => false)
    | none => false
  | .del a i, cm, s => match wDel s with
    | some (tg, _) => (match vSub tg with
      | some (ea, ei, _) => mE T nm N cm a false sc ea && mE T nm N cm i false sc ei
      | none => false)
    | none => false
  | .setF a f e, cm, s => match wAsg s with
    | some (tg, ev, _) => (match vAtt tg with
      | some (ea, x, _) => decide (nm.ats[f]? = some x) && mE T nm N cm a false sc ea && mE T nm N cm e false sc ev
      | none => false)
    | none => false
  | .setI a i e, cm, s => match wAsg s with
    | some (tg, ev, _) => (match vSub tg with
      | some (ea, ei, _) => noSl ei && mE T nm N cm a false sc ea && mE T nm N cm i false sc ei && mE T nm N cm e false sc ev
      | none => false)
    | none => false
  | .ex e, cm, s => match wExpr s with
    | some (ev, _) => noLc ev && mE T nm N cm e false sc ev
    | none => false
  | .ifs c a b, cm, s => match wIf s with
    | some (ec, ea, eb, _) => mE T nm N cm c true sc ec && mSs T nm N sc a cm ea && mSs T nm N sc b cm eb
    | none => false
  | .whl c b, cm, s => match wWhl s with
    | some (ec, eb, _) => cm && mE T nm N cm c true sc ec && mSs T nm N sc b cm eb
    | none => false
  | .for t x b, cm, s => match wFor s with
    | some (tg, iter, body, _) => cm && mTg N true sc t tg && folded iter && mI T nm N cm x sc tg iter && mSs T nm N sc b cm body
    | none => false
  | .forD t i b, cm, s => match wFor s with
    | some (tg, iter, body, _) => cm && mTg N true sc t tg && folded iter && mE T nm N cm (.v i) false sc iter && mSs T nm N sc b cm body
    | none => false
  | .ret e, cm, s => match wRet s with
    | some (some ev, _) => mE T nm N cm e false sc ev
    | _ => false
  | .ret0, _, s => match wRet s with
    | some (none, _) => true
    | _ => false
  | .raise C, cm, s => match wRaise s with
    | some (e, none, _) => (match vCallN e with
      | some (x, es, _, _) => (match vOne es with
        | some em => (match vConst em with
          | some (.str _, _) => cm && decide (nm.cls[C]? = some x) && (T.ini C).isNone && glB sc x && okN x
          | _ => false)
        | none => false)
      | none => false)
    | _ => false
  | .try b C x h, cm, s => match wTry s with
    | some (body, ty, nmo, suite, _, _) => (match vName ty with
      | some (y, _) => cm && x.isNone && nmo.isNone && !suite.isEmpty && decide (nm.cls[C]? = some y) && (T.ini C).isNone && glB sc y && okN y && mSs T nm N sc b true body && mSs T nm N sc h false suite
      | none => false)
    | none => false
  | .any, _, _ => true
  | .tryi b C i D h1 h2, cm, s => match wTry s with
    | some (body, ty, some n, suite, _, _) => (match vName ty with
      | some (y, _) => (match suite with
        | [st] => (match wIf st with
          | some (ec, s1, s2, _) => (match vCallN ec with
            | some (z, es, _, _) => (match vTwo es with
              | some (en, ey) => (match vName en with
                | some (n2, _) => (match vName ey with
                  | some (y2, _) => cm && decide (z = ("isinstance" : Str)) && decide (n2 = n) && decide (N[i]? = some n) && decide (sc.names.lookup n = some .local) && okN n && decide (nm.cls[C]? = some y) && (T.ini C).isNone && glB sc y && okN y &&
                    decide (nm.cls[D]? = some y2) && (T.ini D).isNone && glB sc y2 && okN y2 && glB sc z && mSs T nm N sc b true body && mSs T nm N sc h1 false s1 && mSs T nm N sc h2 false s2
                  | none => false)
                | none => false)
              | none => false)
            | none => false)
          | none => false)
        | _ => false)
      | none => false)
    | _ => false
  | .pass, _, s => wPass s
  | .brk, _, s => (wBrk s).isSome
  | .cnt, _, s => (wCnt s).isSome
def mSs (T : Tb) (nm : Nm) (N : List Str) (sc : Scope) : Ss → Bool → List Stmt → Bool
  | .nil, _, l => l.isEmpty
  | .any, _, _ => true
  | .cons s r, cm, l => match l with
    | st :: sts => mS T nm N sc s cm st && mSs T nm N sc r cm sts
    | [] => false
end
theorem aug_sub {b : Expr} (h : noSl b = true) (ov iv new : Value) : augStore b ov iv new = (do holding [new, ov, iv] (setItem ov iv new); release [new, ov, iv] []; pure .next) := by
  cases b <;> first | rfl | cases h
/-- what a def's context has -/
structure Gs (T : Tb) (pl : Pl) (k : Nat) (N : List Str) (sc : Scope) (cm : Bool) (W : WX) (X : Cx) : Prop where
  good : Good T pl k N sc W X
  calm : cm = true → Calm k X
  po : cm = true → PassesOwn (model X.prog X.w) X.A X.env X.xe
  fnc : ∀ x, sc.names.lookup x = some .cell → X.fn x = true
  stk : X.stack = X.env :: X.outer
  frm : X.env.frame = some X.env.locals
section
variable {T : Tb} {pl : Pl} {k : Nat} {N : List Str} {sc : Scope} {cm : Bool} {X : Cx} {W : WX}
theorem Gs.tr (g : Gs T pl k N sc true W X) {W' : WX} {pn : List (Addr × Obj)} {xe : Value → Shared → Prop} (tk : Takes (X.tr pn xe) W') (po : PassesOwn (model X.prog X.w) X.A X.env xe) : Gs T pl k N sc true W' (X.tr pn xe) where
  good := ⟨g.good.top, g.good.hN, g.good.sc_, g.good.nd, g.good.un, tk⟩
  calm := fun h => ⟨(g.calm h).calm, (g.calm h).room⟩
  po := fun _ => po
  fnc := g.fnc
  stk := g.stk
  frm := g.frm
theorem Gs.suite (g : Gs T pl k N sc cm W X) (a : Addr) (pn : List (Addr × Obj)) : Gs T pl k N sc false noW (X.suite a pn) where
  good := ⟨g.good.top, g.good.hN, g.good.sc_, g.good.nd, g.good.un, fun u s' ⟨a, B, sI, pins, σ, H, cls, d, e, I, nb, up, sky, na, os, ag, w⟩ => w.elim⟩
  calm := fun h => by cases h
  po := fun h => by cases h
  fnc := g.fnc
  stk := g.stk
  frm := g.frm
theorem tg_plain {t : Tg} {tg : Expr} {fc : Bool} (h : mTg N fc sc t tg = true) : plainTg tg = true := by
  cases t <;> cases tg <;> first | rfl | cases h
theorem sw_any {t : Tg} {tg e : Expr} {fc : Bool} (h : mTg N fc sc t tg = true) (hn : (isNmT t || noTup e) = true) (env : Env) : swappedStores [tg] e env = pure none := by
  cases t <;> cases tg <;> first | exact sw_name env | exact sw_tup hn env | cases h
theorem par_ok {x y : Str} {px py pt : Pos} {kt k2 : Nat} {pt2 : Pos} {ea eb : Expr} {env : Env} (he : env.scope = sc) (h : parB sc x y px py ea eb = true) :
    swappedStores [.Tuple [.Name x px, .Name y py] kt pt] (.Tuple [ea, eb] k2 pt2) env = pure (some [x, y]) := by
  simp only [parB, Bool.and_eq_true, decide_eq_true_eq, Bool.not_eq_true', beq_iff_eq, beq_eq_false_iff_ne] at h
  obtain ⟨⟨⟨⟨⟨⟨⟨⟨hk, hx⟩, hy⟩, hl⟩, hxy⟩, h1⟩, h2⟩, h3⟩, h4⟩ := h
  have kx : env.kindOf x = some .local := by unfold Env.kindOf; rw [he]; exact hx
  have ky : env.kindOf y = some .local := by unfold Env.kindOf; rw [he]; exact hy
  have hb : env.blockKind = .function := by unfold Env.blockKind; rw [he, hk]; rfl
  have s0 : ∀ e : Expr, noStar e = true → (match e with | .Starred .. => true | _ => false) = false := by
    intro e h
    cases e <;> first | rfl | cases h
  have s1 := s0 ea h1
  have s2 := s0 eb h2
  clear s0
  have ne : ([x, y] : List Str).eraseDups.length = 2 := by
    rw [List.eraseDups_cons]
    have : (y == x) = false := by simpa using Ne.symm hxy
    simp [this, List.eraseDups_cons]
  unfold swappedStores
  simp only [s1, s2, List.length_cons, List.length_nil, hb, kx, ky, List.any_cons, List.any_nil, s1, s2, List.filterMap_cons, List.filterMap_nil, List.head?_cons, Option.map_some, Option.getD_some, hl, h3, h4, ne, Expr.pos]
  simp [s1, s2, ne]
  intro hh
  rcases hh with hh | hh
  · exact absurd (hh.symm.trans s1) (by decide)
  · exact absurd (hh.symm.trans s2) (by decide)
end
end Sd
set_option Elab.async false
set_option linter.all false
set_option maxRecDepth 100000
set_option maxHeartbeats 4000000
/-! Snd16: what stands side by side means the same: statements. -/
namespace Sd
open PySem PySem.Spec PyProof.Rows L2 Py
section
variable {T : Tb} {pl : Pl} {k : Nat} {N : List Str} {sc : Scope}
mutual
theorem okS : ∀ (ir : S) {cm : Bool} {st : Stmt} {X : Cx} {W : WX}, (∃ I, ExcBaseFacts "ValueError" "ValueError.__new__" I [.type "ValueError", .type "Exception", .type "BaseException", .type "object"]) → Gs T pl k N sc cm W X → mS T pl.nm N sc ir cm st = true → PS X st (tS T pl X.K k W ir)
  | .pass, cm, st, X, W, F, g, h => by
    simp only [mS] at h
    cases st with
    | Pass p => exact s_pass
    | Expr e p =>
      simp only [wPass] at h
      split at h
      · rename_i z p2 hc
        obtain ⟨j, rfl⟩ := vConst_ok hc
        refine ⟨fun pins s σ H D' I q => ps_doc.run pins s σ H D' I ?_⟩
        obtain ⟨ρ, L, g, rl, rg, q⟩ := q
        rw [evS] at q
        exact q ρ H σ .refl rg rl
      · cases h
    | _ => cases h
  | .brk, cm, st, X, W, F, g, h => by
    simp only [mS] at h
    obtain ⟨p, hp⟩ := Option.isSome_iff_exists.mp h
    obtain rfl := wBrk_ok hp
    exact s_brk
  | .cnt, cm, st, X, W, F, g, h => by
    simp only [mS] at h
    obtain ⟨p, hp⟩ := Option.isSome_iff_exists.mp h
    obtain rfl := wCnt_ok hp
    exact s_cnt
  | .ret e, cm, st, X, W, F, g, h => by
    simp only [mS] at h
    split at h
    · rename_i ev p hv
      obtain rfl := wRet_ok hv
      exact s_ret (okE e g.good g.calm h).e
    · cases h
  | .ret0, cm, st, X, W, F, g, h => by
    simp only [mS] at h
    split at h
    · rename_i p hv
      obtain rfl := wRet_ok hv
      exact s_ret0
    · cases h
  | .ex e, cm, st, X, W, F, g, h => by
    simp only [mS] at h
    split at h
    · rename_i ev p hv
      obtain rfl := wExpr_ok hv
      simp only [Bool.and_eq_true] at h
      exact s_ex h.1 (okE e g.good g.calm h.2).e
    · cases h
  | .ifs c a b, cm, st, X, W, F, g, h => by
    simp only [mS] at h
    split at h
    · rename_i ec ea eb p hv
      obtain rfl := wIf_ok hv
      simp only [Bool.and_eq_true] at h
      exact s_if (okE c g.good g.calm h.1.1).t (okSs a F g h.1.2) (okSs b F g h.2)
    · cases h
  | .whl c b, cm, st, X, W, F, g, h => by
    simp only [mS] at h
    split at h
    · rename_i ec eb p hv
      obtain rfl := wWhl_ok hv
      simp only [Bool.and_eq_true] at h
      exact s_whl (g.po h.1.1) (okE c g.good g.calm h.1.2).t (okSs b F g h.2)
    · cases h
  | .for t s b, cm, st, X, W, F, g, h => by
    simp only [mS] at h
    split at h
    · rename_i tg iter body p hv
      obtain rfl := wFor_ok hv
      simp only [Bool.and_eq_true] at h
      obtain ⟨⟨⟨⟨hcm, ht⟩, hf⟩, hi⟩, hb⟩ := h
      exact s_for (g.po hcm) (g.calm hcm) (okI s g.good g.calm hi) (tg_ok g.good (g.calm hcm).calm (fun _ => g.fnc) ht) (okSs b F g hb) (folded_ok hf _)
    · cases h
  | .forD t i b, cm, st, X, W, F, g, h => by
    simp only [mS] at h
    split at h
    · rename_i tg iter body p hv
      obtain rfl := wFor_ok hv
      simp only [Bool.and_eq_true] at h
      obtain ⟨⟨⟨⟨hcm, ht⟩, hf⟩, hi⟩, hb⟩ := h
      exact s_forD (g.po hcm) (g.calm hcm) (okE (.v i) g.good g.calm hi).e (tg_ok g.good (g.calm hcm).calm (fun _ => g.fnc) ht) (okSs b F g hb) (folded_ok hf _)
    · cases h
  | .raise C, cm, st, X, W, F, g, h => by
    simp only [mS] at h
    split at h
    · rename_i e p hv
      obtain rfl := wRaise_ok hv
      split at h
      · rename_i x es p1 p2 hv2
        obtain rfl := vCallN_ok hv2
        split at h
        · rename_i em ho
          obtain rfl := vOne_ok ho
          split at h
          · rename_i z p4 hc
            obtain ⟨j, rfl⟩ := vConst_ok hc
            simp only [Bool.and_eq_true, decide_eq_true_eq] at h
            obtain ⟨⟨⟨⟨hcm, hx⟩, hi⟩, hg⟩, ho⟩ := h
            exact s_raise F g.good (g.calm hcm) hx (Option.isNone_iff_eq_none.mp hi) (gl_ok g.good hg) (debug_ok ho).1
          · cases h
        · cases h
      · cases h
    · cases h
  | .try b C x hh, cm, st, X, W, F, g, h => by
    simp only [mS] at h
    split at h
    · rename_i body ty nmo suite p1 p hv
      obtain rfl := wTry_ok hv
      split at h
      · rename_i y p2 hy0
        obtain rfl := vName_ok hy0
        simp only [Bool.and_eq_true, decide_eq_true_eq] at h
        obtain ⟨⟨⟨⟨⟨⟨⟨⟨⟨rfl, hxn⟩, hnn⟩, hse⟩, hy⟩, hi⟩, hg⟩, ho⟩, hb⟩, hsu⟩ := h
        obtain rfl := Option.isNone_iff_eq_none.mp hxn
        obtain rfl := Option.isNone_iff_eq_none.mp hnn
        cases suite with
        | nil => cases hse
        | cons b0 suite => exact s_try g.stk g.frm g.good hy (Option.isNone_iff_eq_none.mp hi) (gl_ok g.good hg) (debug_ok ho).1 (fun W' pn xe tk po => okSs b F (g.tr tk po) hb) (fun a oe pn => okSs hh F (g.suite a ((a, oe) :: pn)) hsu)
      · cases h
    · cases h
  | .aug i o e, cm, st, X, W, F, g, h => by
    simp only [mS] at h
    split at h
    · rename_i tg op ev p hv
      obtain rfl := wAug_ok hv
      split at h
      · rename_i x px hx0
        obtain rfl := vName_ok hx0
        simp only [Bool.and_eq_true, decide_eq_true_eq] at h
        obtain ⟨⟨⟨hx, hl⟩, rfl⟩, h1⟩ := h
        obtain ⟨l1, l2⟩ := loc_ok g.good (fun _ => g.fnc) hl
        exact s_aug g.good (by rw [g.good.hN]; exact hx) l1 l2 (okE e g.good g.calm h1).e
      · cases h
    · cases h
  | .augF a f o e, cm, st, X, W, F, g, h => by
    simp only [mS] at h
    split at h
    · rename_i tg op ev p hv
      obtain rfl := wAug_ok hv
      split at h
      · rename_i ea x px hx0
        obtain rfl := vAtt_ok hx0
        simp only [Bool.and_eq_true, decide_eq_true_eq] at h
        obtain ⟨⟨⟨hx, rfl⟩, h1⟩, h2⟩ := h
        exact s_augF g.good hx (okE a g.good g.calm h1).e (okE e g.good g.calm h2).e
      · cases h
    · cases h
  | .any, cm, st, X, W, F, g, h => ⟨fun pins s σ H D I q => by
    obtain ⟨ρ, L, g, rl, rg, q⟩ := q
    rw [evS] at q
    exact q.elim⟩
  | .tryi b C i D h1 h2, cm, st, X, W, F, g, h => by
    simp only [mS] at h
    split at h
    · rename_i body ty n suite p p' hv
      obtain rfl := wTry_ok hv
      split at h
      · rename_i y py hy
        obtain rfl := vName_ok hy
        split at h
        · rename_i st2
          split at h
          · rename_i ec s1 s2 pif hif
            obtain rfl := wIf_ok hif
            split at h
            · rename_i z es pz pc hcn
              obtain rfl := vCallN_ok hcn
              split at h
              · rename_i en ey htw
                obtain rfl := vTwo_ok htw
                split at h
                · rename_i n2 pn hn
                  obtain rfl := vName_ok hn
                  split at h
                  · rename_i y2 py2 hy2
                    obtain rfl := vName_ok hy2
                    simp only [Bool.and_eq_true, decide_eq_true_eq, Option.isNone_iff_eq_none] at h
                    obtain ⟨⟨⟨⟨⟨⟨⟨⟨⟨⟨⟨⟨⟨⟨⟨⟨⟨hcm, rfl⟩, rfl⟩, hN⟩, hl⟩, hok⟩, hC⟩, hCi⟩, hgy⟩, hoy⟩, hD⟩, hDi⟩, hgy2⟩, hoy2⟩, hgz⟩, hb⟩, hh1⟩, hh2⟩ := h
                    subst hcm
                    exact s_tryi g.stk g.frm g.good hC hCi (gl_ok g.good hgy) (debug_ok hoy).1 (by rw [g.good.hN]; exact hN) (by rw [g.good.sc_]; exact hl) (debug_ok hok).1 (debug_ok hok).2 hD hDi (gl_ok g.good hgz) (gl_ok g.good hgy2) (debug_ok hoy2).1
                      (fun W' pn xe tk po => okSs b F (g.tr tk po) hb) (fun a oe pn => okSs h1 F (g.suite a ((a, oe) :: pn)) hh1) (fun a oe pn => okSs h2 F (g.suite a ((a, oe) :: pn)) hh2)
                  · cases h
                · cases h
              · cases h
            · cases h
          · cases h
        · cases h
      · cases h
    · cases h
  | .augI a i o e, cm, st, X, W, F, g, h => by
    simp only [mS] at h
    split at h
    · rename_i tg op ev p hv
      obtain rfl := wAug_ok hv
      split at h
      · rename_i ea ei px hx0
        obtain rfl := vSub_ok hx0
        simp only [Bool.and_eq_true, decide_eq_true_eq] at h
        obtain ⟨⟨⟨⟨hn, rfl⟩, h1⟩, h2⟩, h3⟩ := h
        exact s_augI g.good.hu (okE a g.good g.calm h1).e (okE i g.good g.calm h2).e (okE e g.good g.calm h3).e (aug_sub hn)
      · cases h
    · cases h
  | .del a i, cm, st, X, W, F, g, h => by
    simp only [mS] at h
    split at h
    · rename_i tg p hv
      obtain rfl := wDel_ok hv
      split at h
      · rename_i ea ei px hx0
        obtain rfl := vSub_ok hx0
        simp only [Bool.and_eq_true] at h
        exact s_del (okE a g.good g.calm h.1).e (okE i g.good g.calm h.2).e
      · cases h
    · cases h
  | .setF a f e, cm, st, X, W, F, g, h => by
    simp only [mS] at h
    split at h
    · rename_i tg ev p hv
      obtain rfl := wAsg_ok hv
      split at h
      · rename_i ea x px hx0
        obtain rfl := vAtt_ok hx0
        simp only [Bool.and_eq_true, decide_eq_true_eq] at h
        obtain ⟨⟨hx, h1⟩, h2⟩ := h
        exact s_setF g.good hx (swl_att _ _) (okE a g.good g.calm h1).e (okE e g.good g.calm h2).e
      · cases h
    · cases h
  | .setI a i e, cm, st, X, W, F, g, h => by
    simp only [mS] at h
    split at h
    · rename_i tg ev p hv
      obtain rfl := wAsg_ok hv
      split at h
      · rename_i ea ei px hx0
        obtain rfl := vSub_ok hx0
        simp only [Bool.and_eq_true] at h
        obtain ⟨⟨⟨hn, h1⟩, h2⟩, h3⟩ := h
        exact s_setI g.good.hu (okE a g.good g.calm h1).e (okE i g.good g.calm h2).e (okE e g.good g.calm h3).e (swl_sub _ _) (sw_sub _) (asg_sub hn)
      · cases h
    · cases h
  | .par i j a b, cm, st, X, W, F, g, h => by
    simp only [mS] at h
    split at h
    · rename_i x px y py ea eb hv
      obtain ⟨k1, p1, k2, p2, p3, rfl⟩ := wPar_ok hv
      simp only [Bool.and_eq_true, decide_eq_true_eq, Bool.not_eq_true', decide_eq_false_iff_not] at h
      obtain ⟨⟨⟨⟨⟨⟨hcm, hx⟩, hy⟩, hij⟩, hp⟩, h1⟩, h2⟩ := h
      have hp' := hp
      simp only [parB, Bool.and_eq_true, decide_eq_true_eq] at hp'
      obtain ⟨⟨⟨⟨⟨⟨⟨⟨_, lx⟩, ly⟩, _⟩, _⟩, n1⟩, n2⟩, _⟩, _⟩ := hp'
      exact s_par g.good (g.calm hcm) (by rw [g.good.hN]; exact hx) (by rw [g.good.hN]; exact hy) hij (by rw [g.good.sc_]; exact lx) (by rw [g.good.sc_]; exact ly) (okE a g.good g.calm h1).e (okE b g.good g.calm h2).e (fun r => star_ok n1 r _) (fun r => star_ok n2 r _) (par_ok g.good.sc_ hp)
    · cases h
  | .set t e, cm, st, X, W, F, g, h => by
    simp only [mS] at h
    split at h
    · rename_i tg ev p hv
      obtain rfl := wAsg_ok hv
      split at h
      · rename_i hcn
        simp only [Bool.and_eq_true] at hcn h
        obtain ⟨hc1, hc2⟩ := hcn
        obtain ⟨ht, h1⟩ := h
        cases t with
        | tp _ => cases hc2
        | nm i =>
          cases e with
          | comp t s c e0 =>
            have h0 := h1
            simp only [mE] at h1
            split at h1
            · rename_i ee tg2 iter ifs scope p2 hv2
              obtain rfl := vComp_ok hv2
              have ht0 := ht
              cases tg with
              | Name y py =>
                simp only [mTg, Bool.and_eq_true, decide_eq_true_eq] at ht
                simp only [Bool.and_eq_true] at h1
                obtain ⟨⟨⟨⟨⟨⟨hcm, hb⟩, htg⟩, hf⟩, hi⟩, hifs⟩, he⟩ := h1
                have C0 := g.calm hcm
                have G := g.good
                by_cases sw : ((X.env.blockKind == .function && X.env.kindOf y == some .local && py.line == (Expr.ListComp ee [⟨tg2, iter, ifs, 0⟩] scope p2).pos.line && !(scope.names.any fun (n, k) => n == y && (k == .local || k == .cell))) = true)
                · obtain ⟨ok, hown⟩ := blk_ok hb
                  have hyl : X.env.scope.names.lookup y = some .local := by
                    simp only [Bool.and_eq_true, beq_iff_eq] at sw
                    exact sw.1.1.2
                  have hsw : swapsWith (.ListComp ee [⟨tg2, iter, ifs, 0⟩] scope p2) (some (.Name y py)) p.line X.env = pure true := by
                    rw [← sw]
                    rfl
                  refine s_setLc G C0 (by rw [G.hN]; exact ht.1) hyl hsw (okI s G g.calm hi) (by rw [G.hN, G.sc_]; exact ok) hown (fun s H C cl fp => tg_ok (G.blk s H scope C cl fp) C0.calm (fun z => by cases z) htg) (fun s H C cl fp => ?_)
                    (fun s H C cl fp => (okE e0 (G.blk s H scope C cl fp) (fun _ => C0.blk s H scope C cl fp) he).e) (folded_ok hf _)
                  rcases ifs with _ | ⟨ec, _ | ⟨e2, ifs⟩⟩
                  · obtain rfl := isTrueC_ok hifs
                    exact pts_true (X := X.blk s H scope (compEnvC scope cl C X.env) fp)
                  · exact pts_one (okE c (G.blk s H scope C cl fp) (fun _ => C0.blk s H scope C cl fp) hifs).t
                  · cases hifs
                · have hsw : swapsWithSole [.Name y py] (.ListComp ee [⟨tg2, iter, ifs, 0⟩] scope p2) p.line X.env = pure false := by
                    rw [← (Bool.not_eq_true _).mp sw]
                    rfl
                  exact s_set rfl (tg_nm G (fun _ => g.fnc) ht0) (okE (.comp t s c e0) G g.calm h0).e hsw (sw_name _)
              | _ => cases ht
            · cases h1
          | _ => cases hc1
      · simp only [Bool.and_eq_true] at h
        obtain ⟨⟨⟨⟨hcm, ht⟩, hn⟩, hu⟩, h1⟩ := h
        exact s_set (tg_plain ht) (tg_ok g.good (g.calm hcm).calm (fun _ => g.fnc) ht) (okE e g.good g.calm h1).e (swl_no hn _ _) (sw_any ht hu _)
    · cases h
theorem okSs : ∀ (ir : Ss) {cm : Bool} {st : List Stmt} {X : Cx} {W : WX}, (∃ I, ExcBaseFacts "ValueError" "ValueError.__new__" I [.type "ValueError", .type "Exception", .type "BaseException", .type "object"]) → Gs T pl k N sc cm W X → mSs T pl.nm N sc ir cm st = true → PSs X st (tSs T pl X.K k W ir)
  | .nil, cm, st, X, W, F, g, h => by
    simp only [mSs, List.isEmpty_iff] at h
    subst h
    exact ss_nil
  | .any, cm, st, X, W, F, g, h => ⟨fun pins s σ H D I q => by
    obtain ⟨ρ, L, g, rl, rg, q⟩ := q
    rw [evSs] at q
    exact q.elim⟩
  | .cons s r, cm, st, X, W, F, g, h => by
    simp only [mSs] at h
    split at h
    · rename_i e es
      simp only [Bool.and_eq_true] at h
      exact ss_cons (okS s F g h.1) (okSs r F g h.2)
    · cases h
end
end
end Sd
set_option Elab.async false
set_option linter.all false
set_option maxRecDepth 100000
set_option maxHeartbeats 4000000
/-! Snd17: the defs of a table, the law's call. -/
namespace Sd
open PySem PySem.Spec PyProof.Rows L2 Py
theorem excVE : ∃ I, ExcBaseFacts "ValueError" "ValueError.__new__" I [.type "ValueError", .type "Exception", .type "BaseException", .type "object"] := ⟨_, PySem.F.excBase_ValueError⟩
section
variable {P : Program} {w : World} {K : PySem.W.Frag} {mg : Str → Option Value} {base : Heap} {pl : Pl} {T : Tb}
theorem rl_start {ρ : List Addr} {H : Hp} {ds : List D} {vs : List V} {N : List Str} {ns : Nat} (hN : N.length = ns) (r : RVs K ρ H ds vs) (hl : ds.length ≤ ns) : RL K ρ H (L2.start N vs) (ds.map some ++ List.replicate (ns - ds.length) none) := by
  have e := r.len
  refine ⟨by simp [L2.start, e, hN], fun i d h => ?_⟩
  by_cases hi : i < ds.length
  · rw [List.getElem?_append_left (by simpa using hi), List.getElem?_map] at h
    cases ed : ds[i]? with
    | none => rw [ed] at h; cases h
    | some d' =>
      rw [ed] at h
      cases h
      obtain ⟨v, h1, h2⟩ := r.get ed
      refine ⟨v, ?_, h2⟩
      unfold L2.start
      rw [List.getElem?_append_left (by rw [List.length_map, e]; exact hi), List.getElem?_map, h1]
      rfl
  · rw [List.getElem?_append_right (by simpa using hi), List.getElem?_replicate] at h
    split at h <;> cases h
/-- a def of the table, its text -/
structure DefAt (K : PySem.W.Frag) (nm : Nm) (T : Tb) (x qual : Str) (pr : Arguments) (bd : List Stmt) (sc : Scope) (N ps : List Str) (f : Nat) (fa : Addr) : Prop where
  fn : ∃ fd F, T.fn f = some F ∧ FunD K x qual pr bd sc [] [] fa fd ∧ Binds K fd ps [] ∧ N.length = F.ns ∧ ps.length = F.np ∧ F.np ≤ F.ns ∧ mSs T nm N sc F.body true bd = true
  sc : FnScope N ps sc
def FnD (K : PySem.W.Frag) (nm : Nm) (T : Tb) (f : Nat) (fa : Addr) : Prop := ∃ x qual pr bd sc N ps, DefAt K nm T x qual pr bd sc N ps f fa
theorem fn_zero {f : Nat} {fa : Addr} (h : FnD K pl.nm T f fa) : FnAt P w K mg base pl T 0 f fa := by
  obtain ⟨x, qual, pr, bd, sc, N, ps, ⟨fd, F, hF, Fu, hb, hN, hp, hnp, hm⟩, S⟩ := h
  refine ⟨⟨fd, ps, F, hF, ⟨fun vs H Q E q => by rw [q.1, hp], fun A outer s H args us vs Q E hr he hb hv q => ?_⟩, hb, hp⟩, Fu.kp⟩
  obtain ⟨_, ρ, ds, g, _, _, q⟩ := q
  exact q.elim
theorem fn_core {k f : Nat} {fa : Addr} {x qual : Str} {pr : Arguments} {bd : List Stmt} {sc : Scope} {N ps : List Str} {fd : FuncData} {F : Fn} (top : Top P w K mg base pl T k) (hF : T.fn f = some F) (Fu : FunD K x qual pr bd sc [] [] fa fd) (hN : N.length = F.ns) (hp : ps.length = F.np) (hnp : F.np ≤ F.ns)
    (hm : mSs T pl.nm N sc F.body true bd = true) (S : FnScope N ps sc) : FnOk P w K mg base (L2.CX P w) (lv (k + 1)) fa fd ps (spE pl K T F.np (k + 1) f) := by
  show FnOk P w K mg base (L2.CX P w) ((k + 1) + 1) fa fd ps (spE pl K T F.np (k + 1) f)
  refine Fu.ok S (fun vs H Q E q => by rw [q.1, hp]) fun cdv A outer s H vs Q E hr q => ?_
  obtain ⟨hl, ρ, ds, g, rs, rg, q⟩ := q
  simp only [runF, hF] at q
  have hds : ds.length = F.np := by rw [← rs.len, hl]
  rw [if_pos hds] at q
  have tk : Takes (cxOf (L2.CX P w) P w K mg base N qual (sc) fa cdv A outer s H E) (fun cls d _ H => E cls d H) := takes_of rfl rfl rfl rfl
  have G : Gs T pl k N (sc) true (fun cls d _ H => E cls d H) (cxOf (L2.CX P w) P w K mg base N qual (sc) fa cdv A outer s H E) := by
    refine ⟨⟨top, rfl, rfl, S.nd, ?_, tk⟩, fun _ => ⟨rfl, hr⟩, fun _ => passes_of rfl, fun _ _ => rfl, rfl, rfl⟩
    have := hr.un
    show (A.deeper _).units + 66 < cLine
    omega
  refine ⟨tSs T pl K k (fun cls d _ H => E cls d H) F.body, okSs F.body excVE G hm, ρ, ds.map some ++ List.replicate (F.ns - F.np) none, g, ?_, rg, ?_⟩
  · rw [← hds]
    exact rl_start hN rs (by rw [hds]; exact hnp)
  · revert q
    cases evSs T (runF T k) F.body (ds.map some ++ List.replicate (F.ns - F.np) none) g with
    | nx L g2 => exact fun q ρ' H' σ' e rg' rl' => q ρ' H' .non e rg' RV.non
    | rt d g2 => exact fun q ρ' H' v e rg' rv => q ρ' H' v e rg' rv
    | ex x L g2 => exact fun q ρ' H' σ' e rg' rl' hfs => q ρ' H' e rg' hfs
    | br L g2 => exact fun q => q.elim
    | ct L g2 => exact fun q => q.elim
    | bad => exact fun q => q.elim
theorem fn_next {k f : Nat} {fa : Addr} (top : Top P w K mg base pl T k) (h : FnD K pl.nm T f fa) : FnAt P w K mg base pl T (k + 1) f fa := by
  obtain ⟨x, qual, pr, bd, sc, N, ps, ⟨fd, F, hF, Fu, hb, hN, hp, hnp, hm⟩, S⟩ := h
  exact ⟨⟨fd, ps, F, hF, fn_core top hF Fu hN hp hnp hm S, hb, hp⟩, Fu.kp⟩
theorem fn_law {k f : Nat} {fa : Addr} {x qual : Str} {pr : Arguments} {bd : List Stmt} {sc : Scope} {N ps : List Str} {fd : FuncData} {F : Fn} (top : Top P w K mg base pl T k) (d : DefAt K pl.nm T x qual pr bd sc N ps f fa) (hF : T.fn f = some F) (Fu : FunD K x qual pr bd sc [] [] fa fd) :
    FnOk P w K mg base (L2.CX P w) (lv (k + 1)) fa fd ps (spE pl K T F.np (k + 1) f) := by
  obtain ⟨⟨fd', F', hF', _, _, hN, hp, hnp, hm⟩, S⟩ := d
  rw [hF] at hF'
  cases hF'
  exact fn_core top hF Fu hN hp hnp hm S
/-- what the top has left -/
structure Base (K : PySem.W.Frag) (mg : Str → Option Value) (w : World) (pl : Pl) (T : Tb) : Prop where
  blt : ∀ x ∈ bnames, mg x = none
  gls : ∀ (i : Nat) x d, pl.nm.gls[i]? = some x → T.gl i = some d → ∃ u v, mg x = some u ∧ RelV v u ∧ ∀ ρ H, RV K ρ H d v
  fns : ∀ (f : Nat) x, pl.nm.fns[f]? = some (some x) → ∃ fa, mg x = some (.ref fa) ∧ FnD K pl.nm T f fa
  mts : ∀ C m f x, T.mt C m = some f → pl.nm.ats[m]? = some x → ∃ fa, Meth K (pl.ca C) x fa ∧ FnD K pl.nm T f fa
  cls : ∀ C x f, T.ini C = some f → pl.nm.cls[C]? = some x → mg x = some (.ref (pl.ca C)) ∧ ∃ fa, Mk K (pl.ca C) fa ∧ FnD K pl.nm T f fa
  cl : ∀ C f, T.ini C = some f → Cls K (pl.ca C)
  exc : ∀ (C : Nat) x, pl.nm.cls[C]? = some x → T.ini C = none → mg x = some (.ref (pl.ca C)) ∧ PySem.W.excIn K (pl.ca C) [.type "ValueError", .type "Exception", .type "BaseException", .type "object"] "ValueError.__new__" = true ∧ PySem.W.keepIn K (.ref (pl.ca C)) = true ∧
    PySem.W.subIn K (.ref (pl.ca C)) (.type "BaseException") = some true ∧ PySem.W.typeIn K (.ref (pl.ca C)) = some (.type "type")
  sub : ∀ c C b, T.sub c C = some b → PySem.W.exmOne K (.ref (pl.ca c)) (.ref (pl.ca C)) = some b
  nat : ∀ C f (i : Nat) x, T.ini C = some f → pl.nm.ats[i]? = some x → T.mt C i = none → NoAttr K (pl.ca C) x
  nd : pl.nm.ats.Nodup
  ini : pl.ini = T.ini
  gds : ∀ (i : Nat) x kvs, pl.nm.gls[i]? = some x → T.gd i = some kvs → ∃ a, mg x = some (.ref a) ∧ GDict K w a kvs
  isx : ∀ c C b, T.sub c C = some b → ExcC K (pl.ca c) ∧ PySem.W.kitOne K (.ref (pl.ca c)) (.ref (pl.ca C)) = some b
theorem top_of (B : Base K mg w pl T) (k : Nat) (n : ∀ {f : Nat} {fa : Addr}, FnD K pl.nm T f fa → FnAt P w K mg base pl T k f fa) (n1 : ∀ {f : Nat} {fa : Addr}, FnD K pl.nm T f fa → FnAt P w K mg base pl T (k - 1) f fa) : Top P w K mg base pl T k :=
  ⟨B.blt, B.gls, fun f x h => let ⟨fa, a, b⟩ := B.fns f x h; ⟨fa, a, n b⟩, fun C m f x h h' => let ⟨fa, a, b⟩ := B.mts C m f x h h'; ⟨fa, a, n b⟩,
    fun C x f h h' => let ⟨a, fa, b, c⟩ := B.cls C x f h h'; ⟨a, fa, b, n1 c⟩, B.cl, B.exc, B.sub, B.nat, B.nd, B.ini, B.gds, B.isx⟩
theorem top_all (B : Base K mg w pl T) : ∀ k, Top P w K mg base pl T k
  | 0 => top_of B 0 fn_zero fn_zero
  | 1 => top_of B 1 (fn_next (top_of B 0 fn_zero fn_zero)) fn_zero
  | k + 2 => top_of B (k + 2) (fn_next (top_all B (k + 1))) (fn_next (top_all B k))
theorem rvs_ints {ρ : List Addr} {H : Hp} : ∀ ns : List Int, RVs K ρ H (ns.map D.int) (ns.map V.int)
  | [] => .nil
  | n :: ns => .cons (RV.int n) (rvs_ints ns)
/-- the law's call -/
theorem law_sp {H : Hp} {a : Addr} {ns : List Int} {kk f : Nat} (ho : Only H) (hS : SqL K H a (ns.map V.int)) (h : ∃ g, runF T kk f [.ls (ns.map D.int)] [] = .ok (.bl true) g) :
    spE pl K T 1 kk f [.ref a] H (fun v _ => v = .bl true) fun _ _ _ => False := by
  obtain ⟨g, h⟩ := h
  have fz : FzL K H a (ns.map V.int) := by
    rcases hS with (hS | hS) | hS
    · rcases ho a with z | ⟨o, xs, z⟩
      · rw [z] at hS; cases hS
      · rw [z] at hS; cases hS
    · exact .inl hS
    · exact .inr hS
  refine ⟨rfl, [], [.ls (ns.map D.int)], [], .one ?_, ⟨rfl, List.nodup_nil, fun n o a h => by simp at h⟩, ?_⟩
  · rw [RV]
    exact ⟨a, _, rfl, fz, rvs_ints ns⟩
  · rw [h]
    intro ρ' H' v e rg rv
    exact rv_bl rv
/-- the law's walk over a head by facts -/
theorem walkE {l : PySem.W.OpenLaw} {q : Program} {loose : List Str} {XP : (Str → Option Value) → Heap → Prop} {YP : World → Heap → Prop} {d : DefRec} {T : Tb} {f : Nat} (kk : Nat) (hn : l.most = some 63) (hdf : d.params.defaults = []) (hr : Room (lv kk) callerA)
    (hlaw : ∀ ns : List Int, ns.length ≤ 63 → ∃ g, runF T kk f [.ls (ns.map D.int)] [] = .ok (.bl true) g)
    (F : ∀ (w : World) (mg : Str → Option Value) (fa : Addr) (h : Heap), YP w h → h.Ns mainGlobals mg → mg d.name = some (.ref fa) →
      ∃ (K : PySem.W.Frag) (pl : Pl) (fd : FuncData), K.In h ∧ (∀ (s : Shared) (u : Value), BindsTo s fd ⟨[u], []⟩ [("script", u)]) ∧ ∀ base : Heap, K.In base → base.Ns mainGlobals mg → FnOk l.prog w K mg base (L2.CX l.prog w) (lv kk) fa fd ["script"] (spE pl K T 1 kk f)) :
    PySem.W.WalkO q loose XP YP l.row.toRowW d [] (fun f vs => PySem.call f vs) := by
  refine Att.attach_call hn hdf fun w u0 u1 mg mb fa ob mp kd dd a vs ns gr yp h1 h2 h3 h4 h5 h6 h7 h8 => ?_
  obtain ⟨K, pl, fd, hK, hb, hF⟩ := F w mg fa _ yp gr.T.g h4
  refine law_call hK gr.T.g gr.T.b gr.T.builtins gr.T.nolimit h8 h5 h6 (Nat.le_trans h7 (by decide)) hr hF hb (fun H ho hS => law_sp ho hS (hlaw ns h7)) ?_
  rintro H e s' ⟨_, _, _, _, _, _, _, _, _, _, _, _, z⟩
  exact z
end
end Sd
set_option Elab.async false
set_option linter.all false
set_option maxRecDepth 100000
set_option maxHeartbeats 4000000
/-! Snd18: what the top has left, by a Hook's facts. -/
namespace Sd
open PySem PySem.Spec PyProof.Rows L2 Py
/-- the i-th of all -/
theorem of_range {n : Nat} {p : Nat → Bool} (h : (List.range n).all p = true) {i : Nat} (hi : i < n) : p i = true := List.all_eq_true.mp h i (List.mem_range.mpr hi)
/-! ### values of the module's own names -/
mutual
def rvB (K : PySem.W.Frag) : D → Value → Bool
  | .non, .none => true
  | .bl b, .bool c => b == c
  | .int i, .int j _ => decide (i = j)
  | .str z, .str s _ => decide (toS z = s)
  | .kt ds, .ref a => (match K.lookup a with
    | some ⟨.type c, _, .seq its _, _⟩ => decide (c = "tuple") && (decide (its.size ≤ sizeLine) && rvsB K ds its.toList)
    | _ => false)
  | _, _ => false
def rvsB (K : PySem.W.Frag) : List D → List Value → Bool
  | [], [] => true
  | d :: ds, u :: us => rvB K d u && rvsB K ds us
  | _, _ => false
end
mutual
theorem rvB_ok {K : PySem.W.Frag} : ∀ {d : D} {u : Value}, rvB K d u = true → ∃ v, RelV v u ∧ ∀ ρ H, RV K ρ H d v
  | .non, u, h => by
    cases u with
    | none => exact ⟨.non, rfl, fun _ _ => RV.non⟩
    | _ => cases h
  | .bl b, u, h => by
    cases u with
    | bool c =>
      simp only [rvB, beq_iff_eq] at h
      subst h
      exact ⟨.bl b, rfl, fun _ _ => RV.bl b⟩
    | _ => cases h
  | .int i, u, h => by
    cases u with
    | int j t =>
      simp only [rvB, decide_eq_true_eq] at h
      subst h
      exact ⟨.int i, ⟨t, rfl⟩, fun _ _ => RV.int i⟩
    | _ => cases h
  | .str z, u, h => by
    cases u with
    | str s t =>
      simp only [rvB, decide_eq_true_eq] at h
      subst h
      exact ⟨.str (toS z), ⟨t, rfl⟩, fun _ _ => RV.str z⟩
    | _ => cases h
  | .kt ds, u, h => by
    cases u with
    | ref a =>
      simp only [rvB] at h
      cases q : K.lookup a with
      | none => rw [q] at h; cases h
      | some o =>
        obtain ⟨oc, od, dt, osl⟩ := o
        rw [q] at h
        cases oc with
        | type c =>
          cases dt with
          | seq its n =>
            simp only [Bool.and_eq_true, decide_eq_true_eq] at h
            obtain ⟨xs, r, hx⟩ := rvsB_ok h.2.2
            refine ⟨.ref a, rfl, fun ρ H => ?_⟩
            rw [RV]
            exact ⟨a, xs, rfl, .inr ⟨_, its, n, q, congrArg Value.type h.1, rfl, h.2.1, r⟩, hx ρ H⟩
          | _ => cases h
        | _ => cases dt <;> cases h
    | _ => cases h
  | .tup _, u, h => by cases u <;> cases h
  | .ls _, u, h => by cases u <;> cases h
  | .ref _, u, h => by cases u <;> cases h
theorem rvsB_ok {K : PySem.W.Frag} : ∀ {ds : List D} {us : List Value}, rvsB K ds us = true → ∃ vs, Vals vs us ∧ ∀ ρ H, RVs K ρ H ds vs
  | [], [], _ => ⟨[], .nil, fun _ _ => RVs.nil⟩
  | [], _ :: _, h => by cases h
  | _ :: _, [], h => by cases h
  | d :: ds, u :: us, h => by
    simp only [rvsB, Bool.and_eq_true] at h
    obtain ⟨v, r, hv⟩ := rvB_ok h.1
    obtain ⟨vs, rs, hvs⟩ := rvsB_ok h.2
    exact ⟨v :: vs, .cons r rs, fun ρ H => .cons (hv ρ H) (hvs ρ H)⟩
end
def idx {α : Type} (l : List α) : List (Nat × α) := (List.range l.length).filterMap fun i => (l[i]?).map fun x => (i, x)
theorem mem_idx {α : Type} {l : List α} {i : Nat} {x : α} (h : l[i]? = some x) : (i, x) ∈ idx l := by
  unfold idx
  refine List.mem_filterMap.mpr ⟨i, List.mem_range.mpr (List.getElem?_eq_some_iff.mp h).1, ?_⟩
  rw [h]
  rfl
def clsFa (nm : Nm) (t : TL) (p : Nat × Str) : List He.Fa :=
  match (t.inis[p.1]?).bind id with
  | some _ => [.cls p.2, .mkr p.2] ++ (idx nm.ats).map fun q => if ((t.mts[p.1]?).bind (List.lookup q.1)).isSome then .meth p.2 q.2 else .noat p.2 q.2
  | none => .exc p.2 :: ((idx nm.cls).filter fun q => excAt t q.1).map fun q => .exm p.2 q.2 (((t.subs[p.1]?).getD []).contains q.1)
/-- the facts that are asked -/
def facts (nm : Nm) (t : TL) : List He.Fa := bnames.map .free ++ (nm.fns.filterMap fun x => x.map He.Fa.glo) ++ nm.cls.map .glo ++ (idx nm.cls).flatMap (clsFa nm t)
/-- a dict's entries -/
def entB (K : PySem.W.Frag) : List DictEntry → List (Tx × D) → Bool
  | [], [] => true
  | e :: es, p :: ps => (match e.key with
    | .str s _ => decide (toS p.1 = s) && rvB K p.2 e.val && entB K es ps
    | _ => false)
  | _, _ => false
def dicB (K : PySem.W.Frag) (a : Addr) (kvs : List (Tx × D)) : Bool := match K.lookup a with
  | some ⟨_, _, .dict es _, _⟩ => entB K es.toList kvs
  | _ => false
theorem entB_find {K : PySem.W.Frag} (z : Tx) : ∀ {es : List DictEntry} {kvs : List (Tx × D)}, entB K es kvs = true → (match kvs.lookup z with
    | some d => ∃ e v, es.find? (·.key.isStr (toS z)) = some e ∧ RelV v e.val ∧ ∀ ρ H, RV K ρ H d v
    | none => es.find? (·.key.isStr (toS z)) = none) ∧ es.any (·.refKey) = false
  | [], [], _ => ⟨rfl, rfl⟩
  | [], _ :: _, h => by cases h
  | _ :: _, [], h => by cases h
  | e :: es, (y, d) :: ps, h => by
    obtain ⟨eh, ek, ev⟩ := e
    cases ek with
    | str s t =>
      simp only [entB, Bool.and_eq_true, decide_eq_true_eq] at h
      obtain ⟨⟨rfl, h2⟩, h3⟩ := h
      obtain ⟨i1, i2⟩ := entB_find z h3
      refine ⟨?_, by rw [List.any_cons, i2]; rfl⟩
      rw [List.lookup_cons, List.find?_cons]
      show match (match z == y with | true => some d | false => ps.lookup z) with
        | some d => ∃ e v, (match toS y == toS z with | true => some (⟨eh, .str (toS y) t, ev⟩ : DictEntry) | false => es.find? (·.key.isStr (toS z))) = some e ∧ RelV v e.val ∧ ∀ ρ H, RV K ρ H d v
        | none => (match toS y == toS z with | true => some (⟨eh, .str (toS y) t, ev⟩ : DictEntry) | false => es.find? (·.key.isStr (toS z))) = none
      by_cases hz : z = y
      · subst hz
        simp only [beq_self_eq_true]
        obtain ⟨v, r1, r2⟩ := rvB_ok h2
        exact ⟨_, v, rfl, r1, r2⟩
      · have e1 : (z == y) = false := beq_eq_false_iff_ne.mpr hz
        have e2 : (toS y == toS z) = false := beq_eq_false_iff_ne.mpr fun q => hz (toS_inj q).symm
        rw [e1, e2]
        exact i1
    | _ => cases h
def tabs (nm : Nm) (t : TL) : List He.Tab := (idx nm.gls).filterMap fun p => ((t.gds[p.1]?).bind id).map fun kvs => ((fun K => He.ga K p.2), kvs.map fun z => toS z.1)
/-- an own exception's class, as isinstance asks it -/
def excB (K : PySem.W.Frag) (a : Addr) : Bool := decide (PySem.W.findIn K (.ref a) "__getattribute__" = some (some (.builtin "BaseException.__getattribute__"))) && decide (PySem.W.findIn K (.ref a) "__getattr__" = some none) && decide (PySem.W.subIn K (.ref a) (.type "BaseException") = some true) &&
  PySem.W.hasDictIn K a && decide (PySem.W.findIn K (.ref a) "__class__" = some (some (.builtin "object.__class__"))) && decide (PySem.W.specialIn K (.builtin "object.__class__") "__get__" = some (some (.builtin "getset_descriptor.__get__"))) && decide (PySem.W.takesIn K (.builtin "object.__class__") = some true) && decide (PySem.W.mroIn K a (.type "object") = some true)
def isxB (nm : Nm) (t : TL) (K : PySem.W.Frag) : Bool := ((idx nm.cls).filter fun q => excAt t q.1).all fun p => excB K (He.ga K p.2) && ((idx nm.cls).filter fun q => excAt t q.1).all fun q => decide (PySem.W.kitOne K (.ref (He.ga K p.2)) (.ref (He.ga K q.2)) = some (((t.subs[p.1]?).getD []).contains q.1))
def exOf (nm : Nm) (t : TL) (K : PySem.W.Frag) : Bool := isxB nm t K && (List.range nm.gls.length).all (fun i => match nm.gls[i]?, (t.gls[i]?).bind id with
  | some x, some d => (match PySem.W.nsIn K mainGlobals x with
    | some (some u) => rvB K d u
    | _ => false)
  | _, _ => true) && (List.range nm.gls.length).all fun i => match nm.gls[i]?, (t.gds[i]?).bind id with
  | some x, some kvs => (match PySem.W.nsIn K mainGlobals x with
    | some (some (.ref a)) => decide (He.ga K x = a) && dicB K a kvs
    | _ => false)
  | _, _ => true
/-- a def's text beside its term -/
structure DefOk (T : Tb) (nm : Nm) (f : Nat) (d : He.DefD) (N ps : List Str) : Prop where
  fn : ∃ F, T.fn f = some F ∧ N.length = F.ns ∧ ps.length = F.np ∧ F.np ≤ F.ns ∧ mSs T nm N d.scope F.body true d.body = true
  df : d.dfl = [] ∧ d.kwd = []
  bd : ∀ (kV doc pm : Value) (an : Option Addr) (cdv ct : Value) (us : List Value), us.length = ps.length → bindArgs (PySem.W.fnOf d.name d.qual d.params d.body d.scope .none kV doc pm an cdv ct) ⟨us, []⟩ = pure (ps.zip us)
  sc : FnScope N ps d.scope
section
variable {K : PySem.W.Frag} {h : Heap} {mg : Str → Option Value} {nm : Nm} {t : TL} {fn : List He.DefD} {w : World} {fa : List He.Fa} {ts : List He.Tab} {ex : PySem.W.Frag → Bool}
def plOf (nm : Nm) (t : TL) (K : PySem.W.Frag) : Pl := ⟨nm, fun C => He.ga K ((nm.cls[C]?).getD ""), t.tb.ini⟩
theorem facts_in {l : List He.Fa} (c : He.SaysD l fn K) {f : He.Fa} (hf : f ∈ l) : f.ok K = true := by
  obtain ⟨i, hi, e⟩ := List.getElem_of_mem hf
  exact c.fact i (f := f) (by rw [List.getElem?_eq_getElem hi, e])
theorem fnd_of {l : List He.Fa} (c : He.SaysD l fn K) {f : Nat} {d : He.DefD} (hd : fn[f]? = some d) (ok : ∃ N ps, DefOk t.tb nm f d N ps) : FnD K nm t.tb f (He.fAd K d.at_) := by
  obtain ⟨N, ps, ⟨F, h1, h2, h3, h4, h5⟩, ⟨e1, e2⟩, hb, S⟩ := ok
  obtain ⟨fd, Fu⟩ := c.def_ f hd
  have e3 : d.dvs K = [] := by unfold He.DefD.dvs; rw [e1]; rfl
  have e4 : d.kws K = [] := by unfold He.DefD.kws; rw [e2]; rfl
  rw [e3, e4] at Fu
  exact ⟨_, _, _, _, _, N, ps, ⟨⟨fd, F, h1, Fu, Fu.bindsN hb, h2, h3, h4, h5⟩, S⟩⟩
/-- how the table's numbers and the text's names go together -/
def tidy (nm : Nm) (t : TL) (fn : List He.DefD) : Bool :=
  ((List.range nm.fns.length).all fun f => match nm.fns[f]? with
    | some (some x) => (match fn[f]? with
      | some d => decide (d.at_ = (x, none))
      | none => false)
    | _ => true) &&
  (List.range t.mts.length).all (fun C => match t.mts[C]? with
    | some l => (nm.cls[C]?).isSome && (l.isEmpty || ((t.inis[C]?).bind id).isSome) && l.all fun q => (match nm.ats[q.1]?, fn[q.2]? with
      | some x, some d => decide (d.at_ = ((nm.cls[C]?).getD "", some x))
      | _, _ => false)
    | none => true) &&
  (List.range t.inis.length).all (fun C => match (t.inis[C]?).bind id with
    | some f => (nm.cls[C]?).isSome && (match fn[f]? with
      | some d => decide (d.at_ = ((nm.cls[C]?).getD "", some ("__init__" : Str)))
      | none => false)
    | none => true) && decide (nm.ats.Nodup) && decide (t.subs.length = nm.cls.length)
theorem ats_of {l : List (Nat × Nat)} {m f : Nat} (h : l.lookup m = some f) : (m, f) ∈ l := by
  induction l with
  | nil => cases h
  | cons p l ih =>
    obtain ⟨a, b⟩ := p
    rw [List.lookup_cons] at h
    split at h
    · rename_i e
      cases h
      have : m = a := by simpa using e
      subst this
      exact List.mem_cons_self
    · exact List.mem_cons_of_mem _ (ih h)
theorem base_of (X : K.In h) (G : h.Ns mainGlobals mg) (c0 : He.SaysT (facts nm t) fn (tabs nm t) w K) (hex : exOf nm t K = true) (hok : ∀ f d, fn[f]? = some d → ∃ N ps, DefOk t.tb nm f d N ps) (hti : tidy nm t fn = true) : Base K mg w (plOf nm t K) t.tb := by
  have c := c0.d
  simp only [exOf, Bool.and_eq_true] at hex
  obtain ⟨⟨hex3, hex⟩, hex2⟩ := hex
  simp only [tidy, Bool.and_eq_true, decide_eq_true_eq] at hti
  obtain ⟨⟨⟨⟨t1, t2⟩, t3⟩, t4⟩, t5⟩ := hti
  have F1 : ∀ x ∈ bnames, He.Fa.free x ∈ facts nm t := fun x hx => List.mem_append_left _ (List.mem_append_left _ (List.mem_append_left _ (List.mem_map.mpr ⟨x, hx, rfl⟩)))
  have F2 : ∀ f x, nm.fns[f]? = some (some x) → He.Fa.glo x ∈ facts nm t := fun f x hx => List.mem_append_left _ (List.mem_append_left _ (List.mem_append_right _ (List.mem_filterMap.mpr ⟨some x, List.mem_of_getElem? hx, rfl⟩)))
  have F3 : ∀ (C : Nat) (x : Str), nm.cls[C]? = some x → He.Fa.glo x ∈ facts nm t := fun C x hx => List.mem_append_left _ (List.mem_append_right _ (List.mem_map.mpr ⟨x, List.mem_of_getElem? hx, rfl⟩))
  have F4 : ∀ (C : Nat) (x : Str) f, nm.cls[C]? = some x → f ∈ clsFa nm t (C, x) → f ∈ facts nm t := fun C x f hx hf => List.mem_append_right _ (List.mem_flatMap.mpr ⟨(C, x), mem_idx hx, hf⟩)
  have ca : ∀ {C : Nat} {x : Str}, nm.cls[C]? = some x → (plOf nm t K).ca C = He.ga K x := fun {C x} hx => by
    show He.ga K ((nm.cls[C]?).getD "") = _
    rw [hx]
    rfl
  have cn : ∀ {C f : Nat}, (t.inis[C]?).bind id = some f → ∃ x, nm.cls[C]? = some x ∧ ∃ d, fn[f]? = some d ∧ d.at_ = (x, some ("__init__" : Str)) := fun {C f} hf => by
    have hC : C < t.inis.length := by
      cases e : t.inis[C]? with
      | none => rw [e] at hf; cases hf
      | some o => exact (List.getElem?_eq_some_iff.mp e).1
    have q := of_range t3 hC
    rw [hf] at q
    simp only [Bool.and_eq_true] at q
    obtain ⟨q1, q2⟩ := q
    cases ex : nm.cls[C]? with
    | none => rw [ex] at q1; cases q1
    | some x =>
      rw [ex] at q2
      cases ed : fn[f]? with
      | none => rw [ed] at q2; cases q2
      | some d =>
        rw [ed] at q2
        exact ⟨x, rfl, d, rfl, of_decide_eq_true q2⟩
  have cf : ∀ {C f : Nat} {x : Str}, (t.inis[C]?).bind id = some f → nm.cls[C]? = some x → ∀ a, a ∈ ([.cls x, .mkr x] : List He.Fa) ++ ((idx nm.ats).map fun q => if ((t.mts[C]?).bind (List.lookup q.1)).isSome then He.Fa.meth x q.2 else .noat x q.2) → a.ok K = true := fun {C f x} hf hx a ha => by
    refine facts_in c (F4 C x a hx ?_)
    unfold clsFa
    rw [hf]
    exact ha
  have ce : ∀ {C : Nat} {x : Str}, (t.inis[C]?).bind id = none → nm.cls[C]? = some x → ∀ a, a ∈ He.Fa.exc x :: ((idx nm.cls).filter fun q => excAt t q.1).map (fun q => He.Fa.exm x q.2 (((t.subs[C]?).getD []).contains q.1)) → a.ok K = true := fun {C x} hf hx a ha => by
    refine facts_in c (F4 C x a hx ?_)
    unfold clsFa
    rw [hf]
    exact ha
  refine ⟨fun x hx => He.free_ok X G (facts_in c (F1 x hx)), ?_, ?_, ?_, ?_, ?_, ?_, ?_, ?_, t4, rfl, ?_, ?_⟩
  · intro i x d h1 h2
    have hi : i < nm.gls.length := (List.getElem?_eq_some_iff.mp h1).1
    have h2 : (t.gls[i]?).bind id = some d := h2
    have q := of_range hex hi
    rw [show nm.gls[i]? = some x from h1, h2] at q
    simp only at q
    cases e : PySem.W.nsIn K mainGlobals x with
    | none => rw [e] at q; cases q
    | some r =>
      rw [e] at q
      cases r with
      | none => cases q
      | some u =>
        obtain ⟨v, r1, r2⟩ := rvB_ok q
        exact ⟨u, v, PySem.W.mg_of X G e, r1, r2⟩
  · intro f x h1
    have q := of_range t1 (show f < nm.fns.length from (List.getElem?_eq_some_iff.mp h1).1)
    rw [show nm.fns[f]? = some (some x) from h1] at q
    simp only at q
    cases ed : fn[f]? with
    | none => rw [ed] at q; cases q
    | some d =>
      rw [ed] at q
      have e : d.at_ = (x, none) := of_decide_eq_true q
      refine ⟨He.ga K x, He.glo_ok X G (facts_in c (F2 f x h1)), ?_⟩
      have z := fnd_of c ed (hok f d ed)
      rw [e] at z
      exact z
  · intro C m f x h1 h2
    have h1 : (t.mts[C]?).bind (List.lookup m) = some f := h1
    cases el : t.mts[C]? with
    | none => rw [el] at h1; cases h1
    | some l =>
      have hl : l.lookup m = some f := by rw [el] at h1; exact h1
      have q := of_range t2 (List.getElem?_eq_some_iff.mp el).1
      rw [el] at q
      simp only [Bool.and_eq_true, Bool.or_eq_true] at q
      obtain ⟨⟨q1, q2⟩, q3⟩ := q
      have hm := ats_of hl
      have q4 := List.all_eq_true.mp q3 _ hm
      rw [show nm.ats[m]? = some x from h2] at q4
      cases ex : nm.cls[C]? with
      | none => rw [ex] at q1; cases q1
      | some y =>
        cases ed : fn[f]? with
        | none => rw [ed] at q4; cases q4
        | some d =>
          rw [ed, ex] at q4
          have e : d.at_ = (y, some x) := of_decide_eq_true q4
          rcases q2 with q2 | q2
          · have : l = [] := by simpa using q2
            subst this
            cases hl
          · obtain ⟨f0, hf0⟩ := Option.isSome_iff_exists.mp q2
            have z := cf hf0 ex (.meth y x) (List.mem_append_right _ (List.mem_map.mpr ⟨(m, x), mem_idx h2, by rw [if_pos]; rw [h1]; rfl⟩))
            have z2 := fnd_of c ed (hok f d ed)
            rw [e] at z2
            refine ⟨He.ma K (He.ga K y) x, ?_, z2⟩
            rw [ca ex]
            exact He.meth_ok z
  · intro C x f h1 h2
    obtain ⟨y, hy, d, hd, e⟩ := cn h1
    have h2 : nm.cls[C]? = some x := h2
    obtain rfl : y = x := Option.some.inj (hy.symm.trans h2)
    rw [ca hy]
    refine ⟨He.glo_ok X G (facts_in c (F3 C y hy)), _, He.mkr_ok (cf h1 hy (.mkr y) (by simp)), ?_⟩
    have z2 := fnd_of c hd (hok f d hd)
    rw [e] at z2
    exact z2
  · intro C f h1
    obtain ⟨y, hy, d, hd, e⟩ := cn h1
    rw [ca hy]
    exact He.cls_ok (cf h1 hy (.cls y) (by simp))
  · intro C x h1 h2
    have h1 : nm.cls[C]? = some x := h1
    rw [ca h1]
    exact ⟨He.glo_ok X G (facts_in c (F3 C x h1)), He.exc_ok (ce h2 h1 (.exc x) (by simp))⟩
  · intro a b k h1
    have h1 : (if excAt t a && excAt t b then some (((t.subs[a]?).getD []).contains b) else none) = some k := h1
    split at h1
    · rename_i hab
      cases h1
      simp only [Bool.and_eq_true] at hab
      have hab' := hab
      unfold excAt at hab'
      simp only [Bool.and_eq_true, decide_eq_true_eq, Option.isNone_iff_eq_none] at hab'
      obtain ⟨⟨a1, a2⟩, ⟨b1, b2⟩⟩ := hab'
      rw [t5] at a1 b1
      have ha : nm.cls[a]? = some nm.cls[a] := List.getElem?_eq_getElem a1
      have hb : nm.cls[b]? = some nm.cls[b] := List.getElem?_eq_getElem b1
      rw [ca ha, ca hb]
      exact He.exm_ok (ce a2 ha (.exm nm.cls[a] nm.cls[b] (((t.subs[a]?).getD []).contains b)) (List.mem_cons_of_mem _ (List.mem_map.mpr ⟨(b, nm.cls[b]), List.mem_filter.mpr ⟨mem_idx hb, hab.2⟩, rfl⟩)))
    · cases h1
  · intro C f i x h1 h2 h3
    obtain ⟨y, hy, d, hd, e⟩ := cn h1
    rw [ca hy]
    have h3 : (t.mts[C]?).bind (List.lookup i) = none := h3
    refine He.noat_ok (cf h1 hy (.noat y x) (List.mem_append_right _ (List.mem_map.mpr ⟨(i, x), mem_idx h2, ?_⟩)))
    rw [h3]
    rfl
  · intro i x kvs h1 h2
    have h1 : nm.gls[i]? = some x := h1
    have h2 : (t.gds[i]?).bind id = some kvs := h2
    have q := of_range hex2 (List.getElem?_eq_some_iff.mp h1).1
    rw [h1, h2] at q
    simp only at q
    have mt : ((fun K => He.ga K x), kvs.map fun z => toS z.1) ∈ tabs nm t := List.mem_filterMap.mpr ⟨(i, x), mem_idx h1, by rw [h2]; rfl⟩
    obtain ⟨j, hj, ej⟩ := List.getElem_of_mem mt
    obtain ⟨es, n, KD⟩ := c0.tab j (t := ((fun K => He.ga K x), kvs.map fun z => toS z.1)) (by rw [List.getElem?_eq_getElem hj, ej])
    cases e : PySem.W.nsIn K mainGlobals x with
    | none => rw [e] at q; cases q
    | some r =>
      rw [e] at q
      cases r with
      | none => cases q
      | some u =>
        cases u with
        | ref a =>
          simp only [Bool.and_eq_true, decide_eq_true_eq] at q
          obtain ⟨q1, q2⟩ := q
          have KD : KDict K w (He.ga K x) es n := KD
          rw [q1] at KD
          refine ⟨a, PySem.W.mg_of X G e, KD.low, es, n, KD.at_, KD.lit, fun z => ?_⟩
          unfold dicB at q2
          rw [KD.at_] at q2
          obtain ⟨f1, f2⟩ := entB_find z q2
          unfold PySem.W.nsIn
          rw [KD.at_]
          simp only
          split
          · rename_i d hd
            rw [hd] at f1
            obtain ⟨e1, v, g1, g2, g3⟩ := f1
            rw [g1]
            exact ⟨_, v, rfl, g2, g3⟩
          · rename_i hd
            rw [hd] at f1
            rw [f1, f2]
            rfl
        | _ => cases q
  · intro a b k h1
    have h1 : (if excAt t a && excAt t b then some (((t.subs[a]?).getD []).contains b) else none) = some k := h1
    split at h1
    · rename_i hab
      cases h1
      simp only [Bool.and_eq_true] at hab
      have hab' := hab
      unfold excAt at hab'
      simp only [Bool.and_eq_true, decide_eq_true_eq, Option.isNone_iff_eq_none] at hab'
      obtain ⟨⟨a1, a2⟩, ⟨b1, b2⟩⟩ := hab'
      rw [t5] at a1 b1
      have ha : nm.cls[a]? = some nm.cls[a] := List.getElem?_eq_getElem a1
      have hb : nm.cls[b]? = some nm.cls[b] := List.getElem?_eq_getElem b1
      rw [ca ha, ca hb]
      have q := List.all_eq_true.mp hex3 _ (List.mem_filter.mpr ⟨mem_idx ha, hab.1⟩)
      simp only [Bool.and_eq_true] at q
      obtain ⟨q1, q2⟩ := q
      have q3 := List.all_eq_true.mp q2 _ (List.mem_filter.mpr ⟨mem_idx hb, hab.2⟩)
      unfold excB at q1
      simp only [Bool.and_eq_true, decide_eq_true_eq] at q1 q3
      obtain ⟨⟨⟨⟨⟨⟨⟨c1, c2⟩, c3⟩, c4⟩, c5⟩, c6⟩, c7⟩, c8⟩ := q1
      exact ⟨⟨c1, c2, c3, c4, c5, c6, c7, c8⟩, q3⟩
    · cases h1
/-- the law's facts, all of them -/
theorem law_of {P : Program} {kk f : Nat} {d : He.DefD} {fa : Addr} (X : K.In h) (G : h.Ns mainGlobals mg) (c0 : He.SaysT (facts nm t) fn (tabs nm t) w K) (hex : exOf nm t K = true) (hok : ∀ f d, fn[f]? = some d → ∃ N ps, DefOk t.tb nm f d N ps) (hti : tidy nm t fn = true)
    (hf : nm.fns[f]? = some (some ("law" : Str))) (hd : fn[f]? = some d) (hfa : mg ("law" : Str) = some (.ref fa)) (hbd : DefOk t.tb nm f d N ["script"]) :
    ∃ (pl : Pl) (fd : FuncData), (∀ (s : Shared) (u : Value), BindsTo s fd ⟨[u], []⟩ [("script", u)]) ∧ ∀ base : Heap, K.In base → base.Ns mainGlobals mg → FnOk P w K mg base (L2.CX P w) (lv (kk + 1)) fa fd ["script"] (spE pl K t.tb 1 (kk + 1) f) := by
  have c := c0.d
  have B := base_of X G c0 hex hok hti
  have q := of_range (by simp only [tidy, Bool.and_eq_true] at hti; exact hti.1.1.1.1) (show f < nm.fns.length from (List.getElem?_eq_some_iff.mp hf).1)
  rw [hf] at q
  simp only at q
  rw [hd] at q
  have e : d.at_ = (("law" : Str), none) := of_decide_eq_true q
  have hg : He.Fa.glo ("law" : Str) ∈ facts nm t := List.mem_append_left _ (List.mem_append_left _ (List.mem_append_right _ (List.mem_filterMap.mpr ⟨some ("law" : Str), List.mem_of_getElem? hf, rfl⟩)))
  obtain rfl : fa = He.ga K ("law" : Str) := by
    have := hfa.symm.trans (He.glo_ok X G (facts_in c hg))
    cases this
    rfl
  obtain ⟨⟨F, h1, h2, h3, h4, h5⟩, ⟨e1, e2⟩, hb, S⟩ := hbd
  obtain ⟨fd, Fu⟩ := c.def_ f hd
  have e3 : d.dvs K = [] := by unfold He.DefD.dvs; rw [e1]; rfl
  have e4 : d.kws K = [] := by unfold He.DefD.kws; rw [e2]; rfl
  rw [e3, e4, e] at Fu
  have b1 : F.np = 1 := h3.symm
  refine ⟨plOf nm t K, fd, fun s u => Fu.bindsA hb s [u] rfl, fun base _ _ => ?_⟩
  have z := fn_core (P := P) (w := w) (top_all (base := base) B kk) h1 Fu h2 h3 h4 h5 S
  rw [b1] at z
  exact z
end
end Sd
namespace K06
open PySem PySem.Spec PyProof.Rows L2 Py Sd
def top (i : Nat) : Stmt := PySem.Challenge.pw_leatever_k06_cut_trees.main.body.getD i (.Pass ⟨0, 0, 0, 0⟩)
def nmF_0 : List (Option Str) := [some "parts_of", some "head_of", some "numbered", some "classes", some "least", some "checked", some "cut", some "_law_stream", some "_law_draw", some "_law_is_pythons", some "_law_given_back", some "_law_far", some "_law_atom", some "_law_node", some "_law_graph", some "_law_parts", some "_law_kinds", some "_law_met", some "_law_least", some "_law_cut", some "_law_given", some "_law_told", some "_law_wide", some "law"]
def nmF : List (Option Str) := nmF_0
def nmC_0 : List Str := ["LeateverError", "TooMany"]
def nmC : List Str := nmC_0
def nmG_0 : List Str := ["MOST_NODES"]
def nmG : List Str := nmG_0
def nmA_0 : List Str := []
def nmA : List Str := nmA_0
def loo_0 : List Str := ["LeateverError", "TooMany", "MOST_NODES", "parts_of", "head_of", "numbered", "classes", "least", "checked", "cut", "_law_stream", "_law_draw", "_law_is_pythons", "_law_given_back", "_law_far", "_law_atom", "_law_node", "_law_graph", "_law_parts", "_law_kinds", "_law_met", "_law_least", "_law_cut", "_law_given", "_law_told", "_law_wide"]
def loo : List Str := loo_0
def nm : Nm := ⟨nmF, nmC, nmG, nmA⟩
abbrev st0 : Stmt := top 5
def dd0 : He.DefD := ⟨("parts_of", none), "parts_of", "parts_of", defArgs st0, defBody st0, defScope st0, [], []⟩
theorem m0 : mSs T nm (["node"] : List Str) (defScope st0) fn0.body true (defBody st0) = true := by decide +kernel
theorem ok0 : DefOk T nm 0 dd0 (["node"] : List Str) (["node"] : List Str) := ⟨⟨fn0, rfl, rfl, rfl, by decide, m0⟩, ⟨rfl, rfl⟩, (fun _ _ _ _ _ _ us hl => match us, hl with | [_], _ => rfl), ⟨rfl, rfl, rfl, by decide +kernel, rfl, by decide +kernel, by decide +kernel⟩⟩
abbrev st1 : Stmt := top 6
def dd1 : He.DefD := ⟨("head_of", none), "head_of", "head_of", defArgs st1, defBody st1, defScope st1, [], []⟩
theorem m1 : mSs T nm (["node"] : List Str) (defScope st1) fn1.body true (defBody st1) = true := by decide +kernel
theorem ok1 : DefOk T nm 1 dd1 (["node"] : List Str) (["node"] : List Str) := ⟨⟨fn1, rfl, rfl, rfl, by decide, m1⟩, ⟨rfl, rfl⟩, (fun _ _ _ _ _ _ us hl => match us, hl with | [_], _ => rfl), ⟨rfl, rfl, rfl, by decide +kernel, rfl, by decide +kernel, by decide +kernel⟩⟩
abbrev st2 : Stmt := top 7
def dd2 : He.DefD := ⟨("numbered", none), "numbered", "numbered", defArgs st2, defBody st2, defScope st2, [], []⟩
theorem m2 : mSs T nm (["keys", "table", "key"] : List Str) (defScope st2) fn2.body true (defBody st2) = true := by decide +kernel
theorem ok2 : DefOk T nm 2 dd2 (["keys", "table", "key"] : List Str) (["keys"] : List Str) := ⟨⟨fn2, rfl, rfl, rfl, by decide, m2⟩, ⟨rfl, rfl⟩, (fun _ _ _ _ _ _ us hl => match us, hl with | [_], _ => rfl), ⟨rfl, rfl, rfl, by decide +kernel, rfl, by decide +kernel, by decide +kernel⟩⟩
abbrev st3 : Stmt := top 8
def dd3 : He.DefD := ⟨("classes", none), "classes", "classes", defArgs st3, defBody st3, defScope st3, [], []⟩
theorem m3 : mSs T nm (["graph", "found", "count", "keys", "at", "node", "part"] : List Str) (defScope st3) fn3.body true (defBody st3) = true := by decide +kernel
theorem ok3 : DefOk T nm 3 dd3 (["graph", "found", "count", "keys", "at", "node", "part"] : List Str) (["graph"] : List Str) := ⟨⟨fn3, rfl, rfl, rfl, by decide, m3⟩, ⟨rfl, rfl⟩, (fun _ _ _ _ _ _ us hl => match us, hl with | [_], _ => rfl), ⟨rfl, rfl, rfl, by decide +kernel, rfl, by decide +kernel, by decide +kernel⟩⟩
abbrev st4 : Stmt := top 9
def dd4 : He.DefD := ⟨("least", none), "least", "least", defArgs st4, defBody st4, defScope st4, [], []⟩
theorem m4 : mSs T nm (["graph", "kinds", "order", "firsts", "waiting", "found", "at", "node", "part"] : List Str) (defScope st4) fn4.body true (defBody st4) = true := by decide +kernel
theorem ok4 : DefOk T nm 4 dd4 (["graph", "kinds", "order", "firsts", "waiting", "found", "at", "node", "part"] : List Str) (["graph"] : List Str) := ⟨⟨fn4, rfl, rfl, rfl, by decide, m4⟩, ⟨rfl, rfl⟩, (fun _ _ _ _ _ _ us hl => match us, hl with | [_], _ => rfl), ⟨rfl, rfl, rfl, by decide +kernel, rfl, by decide +kernel, by decide +kernel⟩⟩
abbrev st5 : Stmt := top 10
def dd5 : He.DefD := ⟨("checked", none), "checked", "checked", defArgs st5, defBody st5, defScope st5, [], []⟩
theorem m5 : mSs T nm (["graph", "found"] : List Str) (defScope st5) fn5.body true (defBody st5) = true := by decide +kernel
theorem ok5 : DefOk T nm 5 dd5 (["graph", "found"] : List Str) (["graph"] : List Str) := ⟨⟨fn5, rfl, rfl, rfl, by decide, m5⟩, ⟨rfl, rfl⟩, (fun _ _ _ _ _ _ us hl => match us, hl with | [_], _ => rfl), ⟨rfl, rfl, rfl, by decide +kernel, rfl, by decide +kernel, by decide +kernel⟩⟩
abbrev st6 : Stmt := top 11
def dd6 : He.DefD := ⟨("cut", none), "cut", "cut", defArgs st6, defBody st6, defScope st6, [], []⟩
theorem m6 : mSs T nm (["graph", "depth", "order", "rows", "found", "at", "node", "level", "numbers", "part", "key"] : List Str) (defScope st6) fn6.body true (defBody st6) = true := by decide +kernel
theorem ok6 : DefOk T nm 6 dd6 (["graph", "depth", "order", "rows", "found", "at", "node", "level", "numbers", "part", "key"] : List Str) (["graph", "depth"] : List Str) := ⟨⟨fn6, rfl, rfl, rfl, by decide, m6⟩, ⟨rfl, rfl⟩, (fun _ _ _ _ _ _ us hl => match us, hl with | [_, _], _ => rfl), ⟨rfl, rfl, rfl, by decide +kernel, rfl, by decide +kernel, by decide +kernel⟩⟩
abbrev st7 : Stmt := top 13
def dd7 : He.DefD := ⟨("_law_stream", none), "_law_stream", "_law_stream", defArgs st7, defBody st7, defScope st7, [], []⟩
theorem m7 : mSs T nm (["script", "mixed", "cell"] : List Str) (defScope st7) fn7.body true (defBody st7) = true := by decide +kernel
theorem ok7 : DefOk T nm 7 dd7 (["script", "mixed", "cell"] : List Str) (["script"] : List Str) := ⟨⟨fn7, rfl, rfl, rfl, by decide, m7⟩, ⟨rfl, rfl⟩, (fun _ _ _ _ _ _ us hl => match us, hl with | [_], _ => rfl), ⟨rfl, rfl, rfl, by decide +kernel, rfl, by decide +kernel, by decide +kernel⟩⟩
abbrev st8 : Stmt := top 14
def dd8 : He.DefD := ⟨("_law_draw", none), "_law_draw", "_law_draw", defArgs st8, defBody st8, defScope st8, [], []⟩
theorem m8 : mSs T nm (["stream", "many", "value"] : List Str) (defScope st8) fn8.body true (defBody st8) = true := by decide +kernel
theorem ok8 : DefOk T nm 8 dd8 (["stream", "many", "value"] : List Str) (["stream", "many"] : List Str) := ⟨⟨fn8, rfl, rfl, rfl, by decide, m8⟩, ⟨rfl, rfl⟩, (fun _ _ _ _ _ _ us hl => match us, hl with | [_, _], _ => rfl), ⟨rfl, rfl, rfl, by decide +kernel, rfl, by decide +kernel, by decide +kernel⟩⟩
abbrev st9 : Stmt := top 15
def dd9 : He.DefD := ⟨("_law_is_pythons", none), "_law_is_pythons", "_law_is_pythons", defArgs st9, defBody st9, defScope st9, [], []⟩
theorem m9 : mSs T nm (["value", "part"] : List Str) (defScope st9) fn9.body true (defBody st9) = true := by decide +kernel
theorem ok9 : DefOk T nm 9 dd9 (["value", "part"] : List Str) (["value"] : List Str) := ⟨⟨fn9, rfl, rfl, rfl, by decide, m9⟩, ⟨rfl, rfl⟩, (fun _ _ _ _ _ _ us hl => match us, hl with | [_], _ => rfl), ⟨rfl, rfl, rfl, by decide +kernel, rfl, by decide +kernel, by decide +kernel⟩⟩
abbrev st10 : Stmt := top 16
def dd10 : He.DefD := ⟨("_law_given_back", none), "_law_given_back", "_law_given_back", defArgs st10, defBody st10, defScope st10, [], []⟩
theorem m10 : mSs T nm (["value"] : List Str) (defScope st10) fn10.body true (defBody st10) = true := by decide +kernel
theorem ok10 : DefOk T nm 10 dd10 (["value"] : List Str) (["value"] : List Str) := ⟨⟨fn10, rfl, rfl, rfl, by decide, m10⟩, ⟨rfl, rfl⟩, (fun _ _ _ _ _ _ us hl => match us, hl with | [_], _ => rfl), ⟨rfl, rfl, rfl, by decide +kernel, rfl, by decide +kernel, by decide +kernel⟩⟩
abbrev st11 : Stmt := top 17
def dd11 : He.DefD := ⟨("_law_far", none), "_law_far", "_law_far", defArgs st11, defBody st11, defScope st11, [], []⟩
theorem m11 : mSs T nm (["stream"] : List Str) (defScope st11) fn11.body true (defBody st11) = true := by decide +kernel
theorem ok11 : DefOk T nm 11 dd11 (["stream"] : List Str) (["stream"] : List Str) := ⟨⟨fn11, rfl, rfl, rfl, by decide, m11⟩, ⟨rfl, rfl⟩, (fun _ _ _ _ _ _ us hl => match us, hl with | [_], _ => rfl), ⟨rfl, rfl, rfl, by decide +kernel, rfl, by decide +kernel, by decide +kernel⟩⟩
abbrev st12 : Stmt := top 18
def dd12 : He.DefD := ⟨("_law_atom", none), "_law_atom", "_law_atom", defArgs st12, defBody st12, defScope st12, [], []⟩
theorem m12 : mSs T nm (["stream", "atom", "k"] : List Str) (defScope st12) fn12.body true (defBody st12) = true := by decide +kernel
theorem ok12 : DefOk T nm 12 dd12 (["stream", "atom", "k"] : List Str) (["stream"] : List Str) := ⟨⟨fn12, rfl, rfl, rfl, by decide, m12⟩, ⟨rfl, rfl⟩, (fun _ _ _ _ _ _ us hl => match us, hl with | [_], _ => rfl), ⟨rfl, rfl, rfl, by decide +kernel, rfl, by decide +kernel, by decide +kernel⟩⟩
abbrev st13 : Stmt := top 19
def dd13 : He.DefD := ⟨("_law_node", none), "_law_node", "_law_node", defArgs st13, defBody st13, defScope st13, [], []⟩
theorem m13 : mSs T nm (["stream", "many", "pick", "parts", "k"] : List Str) (defScope st13) fn13.body true (defBody st13) = true := by decide +kernel
theorem ok13 : DefOk T nm 13 dd13 (["stream", "many", "pick", "parts", "k"] : List Str) (["stream", "many"] : List Str) := ⟨⟨fn13, rfl, rfl, rfl, by decide, m13⟩, ⟨rfl, rfl⟩, (fun _ _ _ _ _ _ us hl => match us, hl with | [_, _], _ => rfl), ⟨rfl, rfl, rfl, by decide +kernel, rfl, by decide +kernel, by decide +kernel⟩⟩
abbrev st14 : Stmt := top 20
def dd14 : He.DefD := ⟨("_law_graph", none), "_law_graph", "_law_graph", defArgs st14, defBody st14, defScope st14, [], []⟩
theorem m14 : mSs T nm (["stream", "most", "many", "k"] : List Str) (defScope st14) fn14.body true (defBody st14) = true := by decide +kernel
theorem ok14 : DefOk T nm 14 dd14 (["stream", "most", "many", "k"] : List Str) (["stream", "most"] : List Str) := ⟨⟨fn14, rfl, rfl, rfl, by decide, m14⟩, ⟨rfl, rfl⟩, (fun _ _ _ _ _ _ us hl => match us, hl with | [_, _], _ => rfl), ⟨rfl, rfl, rfl, by decide +kernel, rfl, by decide +kernel, by decide +kernel⟩⟩
abbrev st15 : Stmt := top 21
def dd15 : He.DefD := ⟨("_law_parts", none), "_law_parts", "_law_parts", defArgs st15, defBody st15, defScope st15, [], []⟩
theorem m15 : mSs T nm (["node"] : List Str) (defScope st15) fn15.body true (defBody st15) = true := by decide +kernel
theorem ok15 : DefOk T nm 15 dd15 (["node"] : List Str) (["node"] : List Str) := ⟨⟨fn15, rfl, rfl, rfl, by decide, m15⟩, ⟨rfl, rfl⟩, (fun _ _ _ _ _ _ us hl => match us, hl with | [_], _ => rfl), ⟨rfl, rfl, rfl, by decide +kernel, rfl, by decide +kernel, by decide +kernel⟩⟩
abbrev st16 : Stmt := top 22
def dd16 : He.DefD := ⟨("_law_kinds", none), "_law_kinds", "_law_kinds", defArgs st16, defBody st16, defScope st16, [], []⟩
theorem m16 : mSs T nm (["graph", "kinds", "before", "count", "table", "found", "node", "key", "part"] : List Str) (defScope st16) fn16.body true (defBody st16) = true := by decide +kernel
theorem ok16 : DefOk T nm 16 dd16 (["graph", "kinds", "before", "count", "table", "found", "node", "key", "part"] : List Str) (["graph"] : List Str) := ⟨⟨fn16, rfl, rfl, rfl, by decide, m16⟩, ⟨rfl, rfl⟩, (fun _ _ _ _ _ _ us hl => match us, hl with | [_], _ => rfl), ⟨rfl, rfl, rfl, by decide +kernel, rfl, by decide +kernel, by decide +kernel⟩⟩
abbrev st17 : Stmt := top 23
def dd17 : He.DefD := ⟨("_law_met", none), "_law_met", "_law_met", defArgs st17, defBody st17, defScope st17, [], []⟩
theorem m17 : mSs T nm (["graph", "kinds", "at", "found", "part"] : List Str) (defScope st17) fn17.body true (defBody st17) = true := by decide +kernel
theorem ok17 : DefOk T nm 17 dd17 (["graph", "kinds", "at", "found", "part"] : List Str) (["graph", "kinds", "at", "found"] : List Str) := ⟨⟨fn17, rfl, rfl, rfl, by decide, m17⟩, ⟨rfl, rfl⟩, (fun _ _ _ _ _ _ us hl => match us, hl with | [_, _, _, _], _ => rfl), ⟨rfl, rfl, rfl, by decide +kernel, rfl, by decide +kernel, by decide +kernel⟩⟩
abbrev st18 : Stmt := top 24
def dd18 : He.DefD := ⟨("_law_least", none), "_law_least", "_law_least", defArgs st18, defBody st18, defScope st18, [], []⟩
theorem m18 : mSs T nm (["graph", "kinds", "found", "rows", "kind", "node", "part"] : List Str) (defScope st18) fn18.body true (defBody st18) = true := by decide +kernel
theorem ok18 : DefOk T nm 18 dd18 (["graph", "kinds", "found", "rows", "kind", "node", "part"] : List Str) (["graph"] : List Str) := ⟨⟨fn18, rfl, rfl, rfl, by decide, m18⟩, ⟨rfl, rfl⟩, (fun _ _ _ _ _ _ us hl => match us, hl with | [_], _ => rfl), ⟨rfl, rfl, rfl, by decide +kernel, rfl, by decide +kernel, by decide +kernel⟩⟩
abbrev st19 : Stmt := top 25
def dd19 : He.DefD := ⟨("_law_cut", none), "_law_cut", "_law_cut", defArgs st19, defBody st19, defScope st19, [], []⟩
theorem m19 : mSs T nm (["graph", "depth", "rows", "many", "level", "node", "part"] : List Str) (defScope st19) fn19.body true (defBody st19) = true := by decide +kernel
theorem ok19 : DefOk T nm 19 dd19 (["graph", "depth", "rows", "many", "level", "node", "part"] : List Str) (["graph", "depth"] : List Str) := ⟨⟨fn19, rfl, rfl, rfl, by decide, m19⟩, ⟨rfl, rfl⟩, (fun _ _ _ _ _ _ us hl => match us, hl with | [_, _], _ => rfl), ⟨rfl, rfl, rfl, by decide +kernel, rfl, by decide +kernel, by decide +kernel⟩⟩
abbrev st20 : Stmt := top 26
def dd20 : He.DefD := ⟨("_law_given", none), "_law_given", "_law_given", defArgs st20, defBody st20, defScope st20, [], []⟩
theorem m20 : mSs T nm (["told"] : List Str) (defScope st20) fn20.body true (defBody st20) = true := by decide +kernel
theorem ok20 : DefOk T nm 20 dd20 (["told"] : List Str) (["told"] : List Str) := ⟨⟨fn20, rfl, rfl, rfl, by decide, m20⟩, ⟨rfl, rfl⟩, (fun _ _ _ _ _ _ us hl => match us, hl with | [_], _ => rfl), ⟨rfl, rfl, rfl, by decide +kernel, rfl, by decide +kernel, by decide +kernel⟩⟩
abbrev st21 : Stmt := top 27
def dd21 : He.DefD := ⟨("_law_told", none), "_law_told", "_law_told", defArgs st21, defBody st21, defScope st21, [], []⟩
theorem m21 : mSs T nm (["graph", "depth", "e"] : List Str) (defScope st21) fn21.body true (defBody st21) = true := by decide +kernel
theorem ok21 : DefOk T nm 21 dd21 (["graph", "depth", "e"] : List Str) (["graph", "depth"] : List Str) := ⟨⟨fn21, rfl, rfl, rfl, by decide, m21⟩, ⟨rfl, rfl⟩, (fun _ _ _ _ _ _ us hl => match us, hl with | [_, _], _ => rfl), ⟨rfl, rfl, rfl, by decide +kernel, rfl, by decide +kernel, by decide +kernel⟩⟩
abbrev st22 : Stmt := top 28
def dd22 : He.DefD := ⟨("_law_wide", none), "_law_wide", "_law_wide", defArgs st22, defBody st22, defScope st22, [], []⟩
theorem m22 : mSs T nm (["stream", "rows", "many", "k", "parts", "j"] : List Str) (defScope st22) fn22.body true (defBody st22) = true := by decide +kernel
theorem ok22 : DefOk T nm 22 dd22 (["stream", "rows", "many", "k", "parts", "j"] : List Str) (["stream"] : List Str) := ⟨⟨fn22, rfl, rfl, rfl, by decide, m22⟩, ⟨rfl, rfl⟩, (fun _ _ _ _ _ _ us hl => match us, hl with | [_], _ => rfl), ⟨rfl, rfl, rfl, by decide +kernel, rfl, by decide +kernel, by decide +kernel⟩⟩
abbrev st23 : Stmt := top 29
def dd23 : He.DefD := ⟨("law", none), "law", "law", defArgs st23, defBody st23, defScope st23, [], []⟩
theorem m23 : mSs T nm (["script", "stream", "graph", "depth", "due", "actual"] : List Str) (defScope st23) fn23.body true (defBody st23) = true := by decide +kernel
theorem ok23 : DefOk T nm 23 dd23 (["script", "stream", "graph", "depth", "due", "actual"] : List Str) (["script"] : List Str) := ⟨⟨fn23, rfl, rfl, rfl, by decide, m23⟩, ⟨rfl, rfl⟩, (fun _ _ _ _ _ _ us hl => match us, hl with | [_], _ => rfl), ⟨rfl, rfl, rfl, by decide +kernel, rfl, by decide +kernel, by decide +kernel⟩⟩
def dds_0 : List He.DefD := [dd0, dd1, dd2, dd3, dd4, dd5, dd6, dd7, dd8, dd9, dd10, dd11, dd12, dd13, dd14, dd15, dd16, dd17, dd18, dd19, dd20, dd21, dd22, dd23]
def dds : List He.DefD := dds_0
theorem all_ok : ∀ f d, dds[f]? = some d → ∃ N ps, DefOk T nm f d N ps := by
  intro f d h
  match f, h with
  | 0, h => cases h; exact ⟨_, _, ok0⟩
  | 1, h => cases h; exact ⟨_, _, ok1⟩
  | 2, h => cases h; exact ⟨_, _, ok2⟩
  | 3, h => cases h; exact ⟨_, _, ok3⟩
  | 4, h => cases h; exact ⟨_, _, ok4⟩
  | 5, h => cases h; exact ⟨_, _, ok5⟩
  | 6, h => cases h; exact ⟨_, _, ok6⟩
  | 7, h => cases h; exact ⟨_, _, ok7⟩
  | 8, h => cases h; exact ⟨_, _, ok8⟩
  | 9, h => cases h; exact ⟨_, _, ok9⟩
  | 10, h => cases h; exact ⟨_, _, ok10⟩
  | 11, h => cases h; exact ⟨_, _, ok11⟩
  | 12, h => cases h; exact ⟨_, _, ok12⟩
  | 13, h => cases h; exact ⟨_, _, ok13⟩
  | 14, h => cases h; exact ⟨_, _, ok14⟩
  | 15, h => cases h; exact ⟨_, _, ok15⟩
  | 16, h => cases h; exact ⟨_, _, ok16⟩
  | 17, h => cases h; exact ⟨_, _, ok17⟩
  | 18, h => cases h; exact ⟨_, _, ok18⟩
  | 19, h => cases h; exact ⟨_, _, ok19⟩
  | 20, h => cases h; exact ⟨_, _, ok20⟩
  | 21, h => cases h; exact ⟨_, _, ok21⟩
  | 22, h => cases h; exact ⟨_, _, ok22⟩
  | 23, h => cases h; exact ⟨_, _, ok23⟩
  | (_ + 24), h => cases h
theorem tid : tidy nm TT dds = true := by decide +kernel
abbrev R : PySem.W.OpenRow := PySem.W.OpenLaw.row PySem.Challenge.rw_leatever_k06_cut_trees
abbrev hk : PySem.W.Hook := He.hookX 6 (facts nm TT) dds (tabs nm TT) [] (exOf nm TT)
def ob (s : PySem.W.SharedT) : He.AlX := He.obsX 6 (facts nm TT) dds (tabs nm TT) [] (exOf nm TT) (HandSHeadRun.getT s)
theorem ob_eq (s : PySem.W.SharedT) : ob s = hk.obs s.abs := He.obsX_eq (HandSHeadRun.getT_eq s)
theorem run (w : World) : HandSHeadRun.RunEq R (PySem.W.view R.prog [29]) hk ob 2000 loo w := by
  intro os
  kernel_rfl
end K06
open PySem PySem.W PySem.Calls PyProof.Rows
set_option maxRecDepth 100000 in
set_option maxHeartbeats 0 in
theorem PySem.Challenge.cw_leatever_k06_cut_trees_holds : PySem.Challenge.rw_leatever_k06_cut_trees.Holds := by
  w_on; o_law
  refine HandSHeadRun.head_any (r := OpenLaw.row PySem.Challenge.rw_leatever_k06_cut_trees) (q := view (OpenLaw.row PySem.Challenge.rw_leatever_k06_cut_trees).prog [29]) (H := K06.hk) (ob := K06.ob) (M := 2000) (loose := K06.loo) (d := HandSHeadRun.topDef (OpenLaw.row PySem.Challenge.rw_leatever_k06_cut_trees).prog 29) (kwd := []) K06.ob_eq
    (by kernel_rfl) (fun s => by kernel_rfl) K06.run (by kernel_rfl) (by kernel_rfl) (by kernel_rfl) (by rfl) (by first | assumption | decide +kernel) (by decide +kernel) ⟨rfl, rfl, rfl, rfl, rfl, by decide +kernel⟩ ?hw ?hc
  case hw => w_witness2
  case hc =>
    refine Sd.walkE (l := PySem.Challenge.rw_leatever_k06_cut_trees) (T := K06.T) (f := 23) 20 rfl (by kernel_rfl) ⟨rfl, by decide, by decide⟩ K06.law_plain ?F
    intro w mg fa h ⟨K, KX, c⟩ G hmg0
    have hmg : mg ("law" : PySem.Str) = some (.ref fa) := by
      have e : (HandSHeadRun.topDef (OpenLaw.row PySem.Challenge.rw_leatever_k06_cut_trees).prog 29).name = ("law" : PySem.Str) := by kernel_rfl
      rw [← e]
      exact hmg0
    obtain ⟨pl, fd, hb, hF⟩ := Sd.law_of (P := (PySem.Challenge.rw_leatever_k06_cut_trees).prog) (w := w) (kk := 19) (f := 23) KX G c.t c.more K06.all_ok K06.tid rfl rfl hmg K06.ok23
    exact ⟨K, pl, fd, KX, hb, hF⟩
