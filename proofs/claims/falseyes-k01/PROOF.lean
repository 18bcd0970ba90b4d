import PyProof.Rows.All
import PySem.Syntax
import Wide.All
import OpenK.AllK
import Wide.FinOn
import HandS.ForMost
import HandS.ForExc
import HandS.Walk
import KE.SortData
import KE.DataIsa
import KE.DataEq
import HandS.Wide
import PyProof.Rows.IntBool
import HandS.Style
import HandS.TupAny
import HandS.IsInst
import HandS.Deep
import HandS.Codes
import HandS.More
import PyProof.StrOps2
import HandS.Flow
import HandS.CallSlots
import HandS.WordsExc
import KE.KRevSl
import HandS.ExcOwn
import HandS.Zip
import HandS.DictComp
import HandS.Set
import HandS.TupSets
import HandS.Strs
import KE.GoesSet
import HandS.EndBits
import PySem.Challenge.RW_falseyes_k01_what_is_a_marking_and_a_wor
set_option autoImplicit false
set_option Elab.async false
set_option linter.all false
set_option maxRecDepth 100000
/-! Fy0: a small language of our own, its data and its total meaning. No model in sight but the names of texts (Str). -/
namespace Fy
open PySem (Str)

/-- pure data: nothing in it ever changes -/
inductive P where
  | non
  | bl (b : Bool)
  | int (i : Int)
  | str (s : Str)
  | tup (xs : List P)
  | lst (xs : List P)
  | dct (kvs : List (P × P))
  | ins (c : Nat) (fs : List (Nat × P))
  /-- a list that nobody may change (the script) -/
  | scr (xs : List P)

instance : Inhabited P := ⟨.non⟩

/-- what a slot holds: data, or a cell of the store -/
inductive Sl where
  | val (p : P)
  | ref (n : Nat)

/-- a cell of the store: what may still change; lck: a list that is walked just now -/
inductive Cell where
  | dead
  | lst (xs : List P)
  | lck (xs : List P)
  | dct (kvs : List (P × P))
  | ins (c : Nat) (fs : List (Nat × Sl))

structure Exn where
  c : Nat
  lim : Option Int

abbrev Sto := List Cell
inductive R (α : Type) where
  | ok (a : α) (s : Sto)
  | exc (x : Exn) (s : Sto)
  | bad
abbrev M (α : Type) := Sto → R α

def ret {α : Type} (a : α) : M α := fun s => .ok a s
def stuck {α : Type} : M α := fun _ => .bad
def bnd {α β : Type} (m : M α) (f : α → M β) : M β := fun s =>
  match m s with
  | .ok a t => f a t
  | .exc x t => .exc x t
  | .bad => .bad
def lift {α : Type} (o : Option α) : M α := fun s =>
  match o with
  | some a => .ok a s
  | none => .bad
/-- an exception is not allowed to leave -/
def nox {α : Type} (m : M α) : M α := fun s =>
  match m s with
  | .exc _ _ => .bad
  | r => r

/-! ### data -/
def b2i (b : Bool) : Int := if b then 1 else 0
mutual
/-- Python's == -/
def P.eqv : P → P → Bool
  | .non, q => match q with | .non => true | _ => false
  | .bl a, q => match q with | .bl b => a == b | .int j => b2i a == j | _ => false
  | .int i, q => match q with | .bl b => i == b2i b | .int j => i == j | _ => false
  | .str x, q => match q with | .str y => decide (x = y) | _ => false
  | .lst xs, q => match q with | .lst ys => P.eqvs xs ys | _ => false
  | .tup xs, q => match q with | .tup ys => P.eqvs xs ys | _ => false
  | .dct _, _ => false
  | .ins _ _, _ => false
  | .scr _, _ => false
def P.eqvs : List P → List P → Bool
  | [], q => match q with | [] => true | _ => false
  | x :: xs, q => match q with | y :: ys => P.eqv x y && P.eqvs xs ys | [] => false
end
mutual
def P.depth : P → Nat
  | .lst xs => P.depths xs + 1
  | .tup xs => P.depths xs + 1
  | .non => 0
  | .bl _ => 0
  | .int _ => 0
  | .str _ => 0
  | .dct _ => 0
  | .ins _ _ => 0
  | .scr _ => 0
def P.depths : List P → Nat
  | [] => 0
  | x :: xs => max (P.depth x) (P.depths xs)
end
mutual
/-- no dict and no instance within -/
def P.flat : P → Bool
  | .lst xs => P.flats xs
  | .tup xs => P.flats xs
  | .dct _ => false
  | .ins _ _ => false
  | .scr _ => false
  | .non => true
  | .bl _ => true
  | .int _ => true
  | .str _ => true
def P.flats : List P → Bool
  | [] => true
  | x :: xs => P.flat x && P.flats xs
end

def depthMost : Nat := 60
def lenMost : Nat := 100000
/-- == where both are data that == is known of -/
def eqP (p q : P) : Option Bool :=
  if p.flat && q.flat && decide (min p.depth q.depth ≤ depthMost) then some (p.eqv q) else none

/-- a value's truth -/
def truP : P → Option Bool
  | .non => some false
  | .bl b => some b
  | .int i => some (i != 0)
  | .str x => if x.cps.size ≤ lenMost then some (x.cps.size != 0) else none
  | .tup xs => some (!xs.isEmpty)
  | .lst xs => some (!xs.isEmpty)
  | .dct kvs => some (!kvs.isEmpty)
  | .ins _ _ => none
  | .scr xs => some (!xs.isEmpty)

def strCat (a b : Str) : Str := ⟨a.cps ++ b.cps⟩
inductive Bop where
  | add | sub | mul | fdiv | mod | pow | band | bor | shl
  deriving DecidableEq
inductive Cop where
  | eq | ne | lt | le | gt | ge | is | isn | mem | nmem
  deriving DecidableEq
inductive Ty where
  | int | bool | str | tup | lst | dct
  deriving DecidableEq
inductive Blt where
  | len | all | any | abs | int | min2 | max2 | str | tup | lst | sorted | sum | bool
  deriving DecidableEq
inductive Mth where
  | upper | get2 | append | pop1 | insert | extend | setdefault | join | split | startswith | index
  deriving DecidableEq

def binP : Bop → P → P → Option P
  | .add, .int i, .int j => some (.int (i + j))
  | .add, .str x, .str y => if x.cps.size + y.cps.size ≤ lenMost then some (.str (strCat x y)) else none
  | .add, .lst xs, .lst ys => if xs.length + ys.length ≤ lenMost then some (.lst (xs ++ ys)) else none
  | .add, .tup xs, .tup ys => if xs.length + ys.length ≤ lenMost then some (.tup (xs ++ ys)) else none
  | .add, .int i, .bl b => some (.int (i + b2i b))
  | .add, .bl b, .int j => some (.int (b2i b + j))
  | .sub, .int i, .int j => some (.int (i - j))
  | .sub, .int i, .bl b => some (.int (i - b2i b))
  | .sub, .bl b, .int j => some (.int (b2i b - j))
  | .mul, .int i, .int j => if i.natAbs.log2 + j.natAbs.log2 < 1000000 then some (.int (i * j)) else none
  | .mul, .str x, .int j => if 2 ≤ j ∧ j ≤ 1000 ∧ 0 < x.cps.size ∧ x.cps.size ≤ 10000 then some (.str ⟨(List.replicate j.toNat x.cps).foldl (· ++ ·) #[]⟩) else if 2 ≤ j ∧ j ≤ 1000 ∧ x.cps.size = 0 then some (.str x) else none
  | .mul, .lst xs, .int j => if 0 ≤ j ∧ j ≤ 1000 ∧ xs.length ≤ 10000 then some (.lst (List.replicate j.toNat xs).flatten) else none
  | .fdiv, .int i, .int j => if 0 < j ∧ j.natAbs.log2 < 9000 then some (.int (i / j)) else none
  | .mod, .int i, .int j => if 0 < j then some (.int (i % j)) else none
  | .pow, .int i, .int j => if 0 ≤ j ∧ j ≤ 100000 ∧ i.natAbs < 2 ^ 64 then some (.int (i ^ j.toNat)) else none
  | _, _, _ => none

def strLt (x y : Str) : Bool := decide (x.cps.toList < y.cps.toList)

/-- a sign of a text -/
def signs (x : Str) : List P := x.cps.toList.map fun c => .str ⟨#[c]⟩
/-- x in y for texts, x one sign -/
def strIn (x y : Str) : Option Bool := if x.cps.size = 1 then some (decide (x.cps.getD 0 0 ∈ y.cps.toList)) else none

def keyOk : P → Bool
  | .int _ => true
  | .str _ => true
  | _ => false
def look (kvs : List (P × P)) (k : P) : Option P := (kvs.find? fun kv => kv.1.eqv k).map (·.2)
def putKv (kvs : List (P × P)) (k p : P) : List (P × P) :=
  if kvs.any (fun e => e.1.eqv k) then kvs.map fun e => if e.1.eqv k then (e.1, p) else e
  else kvs ++ [(k, p)]
def dropKv (kvs : List (P × P)) (k : P) : List (P × P) := kvs.filter fun e => !(e.1.eqv k)

def isNon : P → Bool
  | .non => true
  | _ => false
def isP : P → P → Option Bool
  | p, .non => some (isNon p)
  | .bl a, .bl b => some (a == b)
  | _, _ => none

def cmpP : Cop → P → P → Option Bool
  | .eq, p, q => eqP p q
  | .ne, p, q => (eqP p q).map (!·)
  | .lt, .int i, .int j => some (decide (i < j))
  | .lt, .str x, .str y => some (strLt x y)
  | .le, .int i, .int j => some (decide (i ≤ j))
  | .gt, .int i, .int j => some (decide (j < i))
  | .ge, .int i, .int j => some (decide (j ≤ i))
  | .is, p, q => isP p q
  | .isn, p, q => (isP p q).map (!·)
  | .mem, p, .lst ys => if p.flat && P.flats ys && decide (p.depth ≤ depthMost) then some (ys.any fun y => y.eqv p) else none
  | .mem, p, .tup ys => if p.flat && P.flats ys && decide (p.depth ≤ depthMost) then some (ys.any fun y => y.eqv p) else none
  | .mem, .str x, .str y => strIn x y
  | .mem, p, .dct kvs => if keyOk p then some (look kvs p).isSome else none
  | .nmem, p, .lst ys => if p.flat && P.flats ys && decide (p.depth ≤ depthMost) then some (!ys.any fun y => y.eqv p) else none
  | .nmem, p, .tup ys => if p.flat && P.flats ys && decide (p.depth ≤ depthMost) then some (!ys.any fun y => y.eqv p) else none
  | .nmem, .str x, .str y => (strIn x y).map (!·)
  | .nmem, p, .dct kvs => if keyOk p then some (!(look kvs p).isSome) else none
  | _, _, _ => none

/-! ### subscripts -/
/-- the place that an index means in a row of m -/
def ixQ (m : Nat) (j : Int) : Option Nat :=
  if 0 ≤ j then (if j < m then some j.toNat else none)
  else if -(m : Int) ≤ j then some (j + m).toNat else none
def atP (xs : List P) (j : Int) : Option P := (ixQ xs.length j).bind fun m => xs[m]?
def idxP : P → P → Option P
  | .lst xs, .int i => atP xs i
  | .tup xs, .int i => atP xs i
  | .str x, .int i => if x.cps.size ≤ lenMost then atP (signs x) i else none
  | .scr xs, .int i => atP xs i
  | .dct kvs, k => if keyOk k then look kvs k else none
  | _, _ => none
/-- where a bound of a slice stands, in a row of m; e: where none is written -/
def ixS (m e : Nat) : Option Int → Nat
  | none => e
  | some j => if j < 0 then (j + (m : Int)).toNat else min j.toNat m
def cutL {α : Type} (ys : List α) (l h : Option Int) : List α :=
  (ys.drop (ixS ys.length 0 l)).take (ixS ys.length ys.length h - ixS ys.length 0 l)
def slcP : P → Option Int → Option Int → Option P
  | .lst xs, lo, hi => some (.lst (cutL xs lo hi))
  | .tup xs, lo, hi => some (.tup (cutL xs lo hi))
  | .str x, lo, hi => if x.cps.size ≤ lenMost then some (.str ⟨(cutL x.cps.toList lo hi).toArray⟩) else none
  | _, _, _ => none
def revP : P → Option P
  | .lst xs => some (.lst xs.reverse)
  | .tup xs => some (.tup xs.reverse)
  | _ => none

def isTy : Ty → P → Bool
  | .int, .int _ => true
  | .int, .bl _ => true
  | .bool, .bl _ => true
  | .str, .str _ => true
  | .tup, .tup _ => true
  | .lst, .lst _ => true
  | .lst, .scr _ => true
  | .dct, .dct _ => true
  | _, _ => false

/-- the items that a walk over data meets -/
def itemsP : P → Option (List P)
  | .lst xs => some xs
  | .tup xs => some xs
  | .str x => some (signs x)
  | .scr xs => some xs
  | _ => none

def rowP : P → Option (List P)
  | .lst xs => some xs
  | .tup xs => some xs
  | _ => none
def zipP : P → P → Option (List P)
  | .lst xs, .lst ys => some ((xs.zip ys).map fun z => .tup [z.1, z.2])
  | .tup xs, .tup ys => some ((xs.zip ys).map fun z => .tup [z.1, z.2])
  | _, _ => none
def rngP : P → P → Option (List P)
  | .int l, .int h => if -1000000 ≤ l ∧ l ≤ 1000000 ∧ -1000000 ≤ h ∧ h ≤ 1000000 then some ((List.range (h - l).toNat).map fun i => .int (l + (i : Nat))) else none
  | _, _ => none
/-! ### sorting: data of one kind each -/
mutual
def P.ltv : P → P → Bool
  | .bl a, q => match q with | .bl b => !a && b | _ => false
  | .int i, q => match q with | .int j => decide (i < j) | _ => false
  | .str x, q => match q with | .str y => strLt x y | _ => false
  | .lst xs, q => match q with | .lst ys => P.ltvs xs ys | _ => false
  | .tup xs, q => match q with | .tup ys => P.ltvs xs ys | _ => false
  | .non, _ => false
  | .dct _, _ => false
  | .ins _ _, _ => false
  | .scr _, _ => false
def P.ltvs : List P → List P → Bool
  | [], q => match q with | [] => false | _ :: _ => true
  | x :: xs, q => match q with | y :: ys => if P.eqv x y then P.ltvs xs ys else P.ltv x y | [] => false
end
mutual
/-- place by place of one kind -/
def P.alk : P → P → Bool
  | .non, q => match q with | .non => true | _ => false
  | .bl _, q => match q with | .bl _ => true | _ => false
  | .int _, q => match q with | .int _ => true | _ => false
  | .str _, q => match q with | .str _ => true | _ => false
  | .lst xs, q => match q with | .lst ys => P.alks xs ys | _ => false
  | .tup xs, q => match q with | .tup ys => P.alks xs ys | _ => false
  | .dct _, _ => false
  | .ins _ _, _ => false
  | .scr _, _ => false
def P.alks : List P → List P → Bool
  | [], _ => true
  | x :: xs, q => match q with | y :: ys => P.alk x y && P.alks xs ys | [] => true
end
def leP (x y : P) : Bool := !(y.ltv x)
def sortL (xs : List P) : List P := xs.mergeSort leP
def isTupC : P → Bool
  | .tup (_ :: _) => true
  | _ => false
def isPlainKey : P → Bool
  | .bl _ => true
  | .int _ => true
  | .str _ => true
  | .lst _ => true
  | _ => false
/-- what sorted is known of -/
def canSort (xs : List P) : Bool :=
  (xs.all fun x => xs.all fun y => x.alk y) && (xs.all isTupC || xs.all isPlainKey) && xs.all (fun x => x.flat && decide (x.depth ≤ depthMost)) && decide (xs.length ≤ lenMost)
/-- each once, in the order in which they are first met -/
def addU (L : List P) (x : P) : List P := if L.any (fun y => y.eqv x) then L else L ++ [x]
def uniq (xs : List P) : List P := xs.foldl addU []
def allKeys (xs : List P) : Bool := xs.all keyOk && decide (xs.length < 4000)

/-! ### the language -/
/-- a target -/
inductive Pt where
  | nm (i : Nat)
  | tp (ps : List Pt)

mutual
inductive Ex where
  | var (i : Nat)
  | cst (p : P)
  | glo (g : Nat)
  | tup (es : Exs)
  | lst (es : Exs)
  | bin (o : Bop) (a b : Ex)
  | neg (a : Ex)
  | cmp (o : Cop) (a b : Ex)
  | cmp2 (o1 o2 : Cop) (a b c : Ex)
  | and (a : Ex) (es : Exs)
  | or (a : Ex) (es : Exs)
  | not (a : Ex)
  | ife (c a b : Ex)
  | idx (a i : Ex)
  | slc (a : Ex) (lo hi : Ox)
  | rev (a : Ex)
  | isi (a : Ex) (ts : List Ty) (many : Bool)
  | blt (b : Blt) (es : Exs)
  | mth (m : Mth) (o : Ex) (es : Exs)
  | cal (f : Nat) (es : Exs)
  | lcm (e : Ex) (own : List Nat) (g : Gen)
  | dcm (k v : Ex) (own : List Nat) (g : Gen)
  | scm (e : Ex) (own : List Nat) (g : Gen)
  | sst (e : Ex)
  | lsn (e : Ex)
  | emp
  | new (e : Ex)
inductive Exs where
  | nil
  | cons (e : Ex) (es : Exs)
inductive Ox where
  | no
  | yes (e : Ex)
inductive It where
  | val (e : Ex)
  | rng1 (a : Ex)
  | rng2 (a b : Ex)
  | zip (a b : Ex)
  | enm (a : Ex)
  | itm (a : Ex)
inductive Gen where
  | nil
  | cons (p : Pt) (i : It) (ifs : Exs) (g : Gen)
end
mutual
inductive St where
  | asg (i : Nat) (e : Ex)
  | asgP (p : Pt) (e : Ex)
  | par (i j : Nat) (a b : Ex)
  | seti (o i e : Ex)
  | sets (o lo hi e : Ex)
  | expr (e : Ex)
  | ite (c : Ex) (a b : Sts)
  | whl (c : Ex) (b : Sts)
  | for_ (p : Pt) (i : It) (b : Sts)
  | ret (e : Ex)
  | pass
  | brk
  | cont
  | frz (i : Nat)
inductive Sts where
  | nil
  | cons (s : St) (ss : Sts)
end

abbrev Env := List (Option Sl)
inductive Flow where
  | nx
  | bk
  | ct
  | rt (v : Sl)

/-- around a body: the calls, the constants of the module, how long a while may run, the height of the store at the entry -/
structure Ev where
  call : Nat → List Sl → M Sl
  glo : List P
  fuel : Nat
  base : Nat

/-- the data that a value stands for just now -/
def peek : Sl → M P
  | .val p => ret p
  | .ref n => fun s =>
    match s[n]? with
    | some (.lst xs) => .ok (.lst xs) s
    | some (.lck xs) => .ok (.lst xs) s
    | some (.dct kvs) => .ok (.dct kvs) s
    | _ => .bad
def asP : Sl → M P
  | .val p => ret p
  | .ref _ => stuck
def asI : Sl → M Int
  | .val (.int i) => ret i
  | _ => stuck
def vals : List Sl → Option (List P)
  | [] => some []
  | .val p :: r => (vals r).map (p :: ·)
  | .ref _ :: _ => none
def tru (x : Sl) : M Bool := bnd (peek x) fun p => lift (truP p)
def wipeE (env : Env) : List Nat → Env
  | [] => env
  | v :: vs => (wipeE env vs).set v none
mutual
def bindP : Pt → P → Env → Option Env
  | .nm i, p, env => if i < env.length then some (env.set i (some (.val p))) else none
  | .tp ps, p, env => match p with | .tup xs => bindPs ps xs env | _ => none
def bindPs : List Pt → List P → Env → Option Env
  | [], xs, env => match xs with | [] => some env | _ => none
  | p :: ps, xs, env => match xs with
    | [] => none
    | x :: xs => match bindP p x env with | some env' => bindPs ps xs env' | none => none
end
mutual
/-- the slots of a target hold nothing -/
def freeP : Pt → Env → Bool
  | .nm i, env => match env[i]? with | some none => true | _ => false
  | .tp ps, env => freePs ps env
def freePs : List Pt → Env → Bool
  | [], _ => true
  | p :: ps, env => freeP p env && freePs ps env
end
def foldP {β : Type} : List P → β → (P → β → M β) → M β
  | [], acc, _ => ret acc
  | x :: xs, acc, f => bnd (f x acc) fun a => foldP xs a f

/-! ### built-in functions by data -/
def peeks : List Sl → M (List P)
  | [] => ret []
  | x :: xs => bnd (peek x) fun p => bnd (peeks xs) fun ps => ret (p :: ps)
def boolsP : List P → Option (List Bool)
  | [] => some []
  | .bl b :: xs => (boolsP xs).map (b :: ·)
  | _ :: _ => none
def bltP : Blt → List P → Option P
  | .len, [.str x] => if x.cps.size ≤ lenMost then some (.int x.cps.size) else none
  | .len, [.lst xs] => some (.int xs.length)
  | .len, [.tup xs] => some (.int xs.length)
  | .len, [.dct xs] => some (.int xs.length)
  | .len, [.scr xs] => some (.int xs.length)
  | .all, [.lst xs] => (boolsP xs).map fun bs => .bl (bs.all id)
  | .any, [.lst xs] => (boolsP xs).map fun bs => .bl (bs.any id)
  | .abs, [.int i] => some (.int (if i < 0 then -i else i))
  | .int, [.int i] => some (.int i)
  | .int, [.bl b] => some (.int (b2i b))
  | .bool, [.int i] => some (.bl (i != 0))
  | .bool, [.bl b] => some (.bl b)
  | .min2, [.int i, .int j] => some (.int (if j < i then j else i))
  | .max2, [.int i, .int j] => some (.int (if j > i then j else i))
  | .str, [.int i] => if i.natAbs.log2 < 1920 then some (.str (PySem.Str.ofString (toString i))) else none
  | .str, [.bl b] => some (.str (PySem.Str.ofString (if b then "True" else "False")))
  | .tup, [.lst xs] => some (.tup xs)
  | .tup, [.tup xs] => some (.tup xs)
  | .lst, [.lst xs] => some (.lst xs)
  | .lst, [.tup xs] => some (.lst xs)
  | .sorted, [.lst xs] => if canSort xs then some (.lst (sortL xs)) else none
  | _, _ => none
def upC (c : Nat) : Nat := if 97 ≤ c ∧ c ≤ 122 then c - 32 else c
/-- methods that change nothing -/
def mthP : Mth → P → List P → Option P
  | .upper, .str x, [] => if x.cps.size ≤ lenMost ∧ (x.cps.toList.all fun c => decide (c < 128)) = true then some (.str ⟨x.cps.map upC⟩) else none
  | .get2, .dct kvs, [k, d] => if keyOk k then some ((look kvs k).getD d) else none
  | _, _, _ => none
/-- methods that change a cell: the answer, the cell behind -/
def mthC : Mth → Cell → List P → Option (P × Cell)
  | .append, .lst xs, [p] => if xs.length < lenMost then some (.non, .lst (xs ++ [p])) else none
  | .pop1, .lst xs, [.int i] => if 0 ≤ i ∧ i.toNat < xs.length then (xs[i.toNat]?).map fun p => (p, .lst (xs.eraseIdx i.toNat)) else none
  | .insert, .lst xs, [.int i, p] => if 0 ≤ i ∧ i.toNat ≤ xs.length ∧ xs.length < lenMost then some (.non, .lst (xs.take i.toNat ++ p :: xs.drop i.toNat)) else none
  | _, _, _ => none
def Mth.mut : Mth → Bool
  | .append => true
  | .pop1 => true
  | .insert => true
  | .extend => true
  | .setdefault => true
  | _ => false
/-- the kind of object that has the method -/
def Mth.of : Mth → P → Bool
  | .upper, .str _ => true
  | .join, .str _ => true
  | .split, .str _ => true
  | .startswith, .str _ => true
  | .get2, .dct _ => true
  | .setdefault, .dct _ => true
  | .append, .lst _ => true
  | .pop1, .lst _ => true
  | .insert, .lst _ => true
  | .extend, .lst _ => true
  | .index, .tup _ => true
  | _, _ => false
def mthM (m : Mth) (o : Sl) (as : List Sl) : M Sl :=
  if m.mut then
    match o, vals as with
    | .ref n, some ps => fun s =>
      match (s[n]?).bind fun c => mthC m c ps with
      | some r => .ok (.val r.1) (s.set n r.2)
      | none => .bad
    | _, _ => stuck
  else bnd (peek o) fun p => lift ((vals as).bind fun ps => (mthP m p ps).map Sl.val)
/-- o[i] = p -/
def setC : Cell → P → P → Option Cell
  | .lst xs, .int i, p => if 0 ≤ i ∧ i.toNat < xs.length then some (.lst (xs.set i.toNat p)) else none
  | .dct kvs, k, p => if keyOk k && decide (kvs.length < lenMost) then some (.dct (putKv kvs k p)) else none
  | _, _, _ => none
/-- o[lo:hi] = ys -/
def setS : Cell → P → P → P → Option Cell
  | .lst xs, .int i, .int j, .lst ys =>
    if 0 ≤ i ∧ i ≤ j ∧ i.toNat ≤ xs.length ∧ xs.length + ys.length ≤ lenMost then some (.lst (xs.take i.toNat ++ ys ++ xs.drop j.toNat)) else none
  | _, _, _, _ => none
def setM (o : Sl) (f : Cell → Option Cell) : M Unit :=
  match o with
  | .val _ => stuck
  | .ref n => fun s =>
    match s[n]? with
    | some c => match f c with | some c' => .ok () (s.set n c') | none => .bad
    | none => .bad
def cellOf : P → Option Cell
  | .lst xs => some (.lst xs)
  | .dct kvs => some (.dct kvs)
  | _ => none
/-- what makes an object of its own -/
def Ex.fresh : Ex → Bool
  | .lst _ => true
  | .lcm .. => true
  | .dcm .. => true
  | .blt .lst _ => true
  | .bin .add _ _ => true
  | .emp => true
  | _ => false

def ixOf : Option Sl → M (Option Int)
  | none => ret none
  | some x => bnd (peek x) fun p => match p with | .int i => ret (some i) | _ => stuck

/-! ### the meaning -/
mutual
def evE (C : Ev) : Ex → Env → M Sl
  | .var i, env => match env[i]? with | some (some v) => ret v | _ => stuck
  | .cst p, _ => ret (.val p)
  | .glo g, _ => lift (C.glo[g]?.map Sl.val)
  | .tup es, env => bnd (evEs C es env) fun vs => lift ((vals vs).map fun ps => .val (.tup ps))
  | .lst es, env => bnd (evEs C es env) fun vs => lift ((vals vs).map fun ps => .val (.lst ps))
  | .bin o a b, env => bnd (evE C a env) fun x => bnd (evE C b env) fun y => bnd (peek x) fun p => bnd (peek y) fun q => lift ((binP o p q).map Sl.val)
  | .neg a, env => bnd (evE C a env) fun x => match x with | .val (.int i) => ret (.val (.int (-i))) | _ => stuck
  | .cmp o a b, env => bnd (evE C a env) fun x => bnd (evE C b env) fun y => bnd (peek x) fun p => bnd (peek y) fun q => lift ((cmpP o p q).map fun k => .val (.bl k))
  | .cmp2 o1 o2 a b c, env => bnd (evE C a env) fun x => bnd (evE C b env) fun y => bnd (peek x) fun p => bnd (peek y) fun q => bnd (lift (cmpP o1 p q)) fun k =>
      if k then bnd (evE C c env) fun z => bnd (peek y) fun q => bnd (peek z) fun r => lift ((cmpP o2 q r).map fun k => .val (.bl k)) else ret (.val (.bl false))
  | .and a es, env => bnd (evE C a env) fun x => evA C es env x
  | .or a es, env => bnd (evE C a env) fun x => evR C es env x
  | .not a, env => bnd (evE C a env) fun x => bnd (tru x) fun k => ret (.val (.bl (!k)))
  | .ife c a b, env => bnd (evE C c env) fun x => bnd (tru x) fun k => if k then evE C a env else evE C b env
  | .idx a i, env => bnd (evE C a env) fun x => bnd (evE C i env) fun y => bnd (peek x) fun p => bnd (peek y) fun q => lift ((idxP p q).map Sl.val)
  | .slc a lo hi, env => bnd (evE C a env) fun x => bnd (evO C lo env) fun l => bnd (evO C hi env) fun h => bnd (peek x) fun p => lift ((slcP p l h).map Sl.val)
  | .rev a, env => bnd (evE C a env) fun x => bnd (peek x) fun p => lift ((revP p).map Sl.val)
  | .isi a ts _, env => bnd (evE C a env) fun x => bnd (peek x) fun p => ret (.val (.bl (ts.any fun t => isTy t p)))
  | .blt b es, env => bnd (evEs C es env) fun vs => bnd (peeks vs) fun ps => lift ((bltP b ps).map Sl.val)
  | .mth m o es, env => bnd (evE C o env) fun x => bnd (peek x) fun p => if m.of p then bnd (evEs C es env) fun vs => mthM m x vs else stuck
  | .cal f es, env => bnd (evEs C es env) fun vs => C.call f vs
  | .lcm e own g, env => bnd (evG C g (fun env acc => bnd (evE C e env) fun x => bnd (asP x) fun p => if acc.length < lenMost then ret (acc ++ [p]) else stuck) env (wipeE env own) []) fun ps => ret (.val (.lst ps))
  | .dcm k v own g, env => bnd (evG C g (fun env acc => bnd (evE C k env) fun x => bnd (asP x) fun p => bnd (evE C v env) fun y => bnd (asP y) fun q => if keyOk p && decide (acc.length < lenMost) then ret (acc ++ [.tup [p, q]]) else stuck) env (wipeE env own) []) fun ps =>
      ret (.val (.dct (ps.foldl (fun kvs pr => match pr with | .tup [k, v] => putKv kvs k v | _ => kvs) [])))
  | .scm e own g, env => bnd (evG C g (fun env acc => bnd (evE C e env) fun x => bnd (asP x) fun p => if keyOk p && decide (acc.length < 4000) then ret (acc ++ [p]) else stuck) env (wipeE env own) []) fun ps =>
      if allKeys ps && canSort (uniq ps) then ret (.val (.lst (sortL (uniq ps)))) else stuck
  | .sst e, env => bnd (evE C e env) fun x => bnd (peek x) fun p => bnd (lift (rowP p)) fun ps => if allKeys ps && canSort (uniq ps) then ret (.val (.lst (sortL (uniq ps)))) else stuck
  | .lsn e, env => bnd (evE C e env) fun x => bnd (peek x) fun p => bnd (lift (rowP p)) fun ps => if allKeys ps then ret (.val (.int (uniq ps).length)) else stuck
  | .emp, _ => ret (.val (.dct []))
  | .new e, env => bnd (evE C e env) fun x => if e.fresh then (match x with | .val p => (match cellOf p with | some c => fun s => .ok (.ref s.length) (s ++ [c]) | none => stuck) | .ref _ => stuck) else stuck
def evEs (C : Ev) : Exs → Env → M (List Sl)
  | .nil, _ => ret []
  | .cons e es, env => bnd (evE C e env) fun x => bnd (evEs C es env) fun xs => ret (x :: xs)
/-- the rest of an and, behind the value x -/
def evA (C : Ev) : Exs → Env → Sl → M Sl
  | .nil, _, x => ret x
  | .cons e es, env, x => bnd (tru x) fun k => if k then bnd (evE C e env) fun y => evA C es env y else ret x
/-- .. of an or -/
def evR (C : Ev) : Exs → Env → Sl → M Sl
  | .nil, _, x => ret x
  | .cons e es, env, x => bnd (tru x) fun k => if k then ret x else bnd (evE C e env) fun y => evR C es env y
def evO (C : Ev) : Ox → Env → M (Option Int)
  | .no, _ => ret none
  | .yes e, env => bnd (evE C e env) fun x => ixOf (some x)
def evI (C : Ev) : It → Env → M (List P)
  | .val e, env => bnd (evE C e env) fun x => bnd (asP x) fun p => lift (itemsP p)
  | .rng1 a, env => bnd (evE C a env) fun x => match x with | .val (.int n) => if -1000000 ≤ n ∧ n ≤ 1000000 then ret ((List.range n.toNat).map fun i => .int (i : Nat)) else stuck | _ => stuck
  | .rng2 a b, env => bnd (evE C a env) fun x => bnd (evE C b env) fun y => bnd (asP x) fun p => bnd (asP y) fun q => lift (rngP p q)
  | .zip a b, env => bnd (evE C a env) fun x => bnd (evE C b env) fun y => bnd (asP x) fun p => bnd (asP y) fun q => lift (zipP p q)
  | .enm a, env => bnd (evE C a env) fun x => bnd (asP x) fun p => match p with | .lst xs => ret (xs.mapIdx fun i x => .tup [.int (i : Nat), x]) | _ => stuck
  | .itm a, env => bnd (evE C a env) fun x => bnd (asP x) fun p => match p with | .dct kvs => ret (kvs.map fun kv => .tup [kv.1, kv.2]) | _ => stuck
def evG (C : Ev) : Gen → (Env → List P → M (List P)) → Env → Env → List P → M (List P)
  | .nil, f, _, env, acc => f env acc
  | .cons p i ifs g, f, ei, env, acc => bnd (evI C i ei) fun xs => if freeP p env then nox (foldP xs acc fun x acc =>
      match bindP p x env with
      | none => stuck
      | some env' => bnd (evTs C ifs env') fun k => if k then evG C g f env' env' acc else ret acc) else stuck
def evTs (C : Ev) : Exs → Env → M Bool
  | .nil, _ => ret true
  | .cons e es, env => bnd (evE C e env) fun x => bnd (tru x) fun k => if k then evTs C es env else ret false
end

/-! ### statements -/
def loopP (f : P → Env → M (Flow × Env)) : List P → Env → M (Flow × Env)
  | [], env => ret (.nx, env)
  | x :: xs, env => bnd (f x env) fun r =>
    match r.1 with
    | .nx => loopP f xs r.2
    | .ct => loopP f xs r.2
    | .bk => ret (.nx, r.2)
    | .rt v => ret (.rt v, r.2)
def loopW (c : Env → M Bool) (f : Env → M (Flow × Env)) : Nat → Env → M (Flow × Env)
  | 0, _ => stuck
  | n + 1, env => bnd (c env) fun k =>
    if k then bnd (f env) fun r =>
      match r.1 with
      | .nx => loopW c f n r.2
      | .ct => loopW c f n r.2
      | .bk => ret (.nx, r.2)
      | .rt v => ret (.rt v, r.2)
    else ret (.nx, env)
/-- slot i's cell, the store's last, becomes data; nothing else holds it -/
def isRef (n : Nat) : Option Sl → Bool
  | some (.ref m) => m == n
  | _ => false
def holdsRef (n : Nat) : Cell → Bool
  | .ins _ fs => fs.any fun f => isRef n (some f.2)
  | _ => false
def cellP : Cell → Option P
  | .lst xs => some (.lst xs)
  | .dct kvs => some (.dct kvs)
  | _ => none
def freeze (base i : Nat) (env : Env) : M (Flow × Env) := fun st =>
  match env[i]? with
  | some (some (.ref n)) =>
    if n + 1 = st.length ∧ base ≤ n then
      match st[n]?.bind cellP with
      | some p =>
        if (env.set i none).any (isRef n) || st.any (holdsRef n) then .bad
        else .ok (.nx, env.set i (some (.val p))) (st.take n)
      | none => .bad
    else .bad
  | _ => .bad
def setSl (env : Env) (i : Nat) (v : Sl) : M (Flow × Env) := if i < env.length then ret (.nx, env.set i (some v)) else stuck

mutual
def evS (C : Ev) : St → Env → M (Flow × Env)
  | .asg i e, env => bnd (evE C e env) fun v => setSl env i v
  | .asgP p e, env => bnd (evE C e env) fun v => bnd (asP v) fun q => match bindP p q env with | some env' => ret (.nx, env') | none => stuck
  | .par i j a b, env => bnd (evE C a env) fun v => bnd (evE C b env) fun w => if i < env.length ∧ j < env.length ∧ i ≠ j then ret (.nx, (env.set i (some v)).set j (some w)) else stuck
  | .seti o i e, env => bnd (evE C e env) fun v => bnd (evE C o env) fun x => bnd (evE C i env) fun y => bnd (asP v) fun p => bnd (asP y) fun q => bnd (setM x fun c => setC c q p) fun _ => ret (.nx, env)
  | .sets o l h e, env => bnd (evE C e env) fun v => bnd (evE C o env) fun x => bnd (evE C l env) fun y => bnd (asI y) fun i => bnd (evE C h env) fun z => bnd (asI z) fun j => bnd (asP v) fun p =>
      bnd (setM x fun c => setS c (.int i) (.int j) p) fun _ => ret (.nx, env)
  | .expr e, env => bnd (evE C e env) fun _ => ret (.nx, env)
  | .ite c a b, env => bnd (evE C c env) fun x => bnd (tru x) fun k => if k then evSs C a env else evSs C b env
  | .whl c b, env => loopW (fun env => bnd (evE C c env) tru) (evSs C b) C.fuel env
  | .for_ p i b, env => bnd (evI C i env) fun xs => loopP (fun x env => match bindP p x env with | some env' => evSs C b env' | none => stuck) xs env
  | .ret e, env => bnd (evE C e env) fun v => ret (.rt v, env)
  | .pass, env => ret (.nx, env)
  | .brk, env => ret (.bk, env)
  | .cont, env => ret (.ct, env)
  | .frz i, env => freeze C.base i env
def evSs (C : Ev) : Sts → Env → M (Flow × Env)
  | .nil, env => ret (.nx, env)
  | .cons s ss, env => bnd (evS C s env) fun r =>
    match r.1 with
    | .nx => evSs C ss r.2
    | .bk => ret (.bk, r.2)
    | .ct => ret (.ct, r.2)
    | .rt v => ret (.rt v, r.2)
end

/-! ### defs -/
/-- np parameters, nn slots in all -/
structure Fd where
  np : Nat
  nn : Nat
  body : Sts
structure Tab where
  fns : List Fd
  glo : List P
  fuel : Nat
def leave (n : Nat) (r : R (Flow × Env)) : R Sl :=
  match r with
  | .ok (.nx, _) st => .ok (.val .non) (st.take n)
  | .ok (.rt (.val p), _) st => .ok (.val p) (st.take n)
  | .ok (.rt (.ref m), _) st => if m < n then .ok (.ref m) (st.take n) else .ok (.ref m) st
  | .ok _ _ => .bad
  | .exc x st => .exc x (st.take n)
  | .bad => .bad
def run (T : Tab) : Nat → Nat → List Sl → M Sl
  | 0, _, _ => stuck
  | k + 1, f, as => fun st =>
    match T.fns[f]? with
    | none => .bad
    | some d => if as.length = d.np ∧ d.np ≤ d.nn then
        leave st.length (evSs ⟨run T k, T.glo, T.fuel, st.length⟩ d.body (as.map some ++ List.replicate (d.nn - d.np) none) st)
      else .bad
end Fy

/-! Fy1: how the data of our language stand in the layer's abstract heap. -/
namespace Fy
open PySem
open PySem.Spec
open PyProof.Rows
open L2

/-! ### data of ours and the kit's data -/
mutual
def P.py : P → PyData
  | .non => .none
  | .bl b => .bool b
  | .int i => .int i
  | .str s => .str s
  | .lst xs => .list (P.pys xs)
  | .tup xs => .tuple (P.pys xs)
  | .dct _ => .none
  | .ins _ _ => .none
  | .scr _ => .none
def P.pys : List P → List PyData
  | [] => []
  | x :: xs => P.py x :: P.pys xs
end
mutual
theorem eqv_py : ∀ p q : P, p.flat = true → q.flat = true → PyData.eqv p.py q.py = p.eqv q
  | .non, q, _, hq => by cases q <;> first | rfl | cases hq
  | .bl a, q, _, hq => by cases q <;> first | rfl | cases hq
  | .int i, q, _, hq => by cases q <;> first | rfl | cases hq
  | .str x, q, _, hq => by
    cases q with
    | str y =>
      show (x == y) = decide (x = y)
      by_cases h : x = y
      · subst h
        simp
      · simp [h]
    | dct _ => cases hq
    | ins _ _ => cases hq
    | scr _ => cases hq
    | _ => rfl
  | .lst xs, q, hp, hq => by
    cases q with
    | lst ys => exact eqvs_py xs ys hp hq
    | dct _ => cases hq
    | ins _ _ => cases hq
    | scr _ => cases hq
    | _ => rfl
  | .tup xs, q, hp, hq => by
    cases q with
    | tup ys => exact eqvs_py xs ys hp hq
    | dct _ => cases hq
    | ins _ _ => cases hq
    | scr _ => cases hq
    | _ => rfl
theorem eqvs_py : ∀ xs ys : List P, P.flats xs = true → P.flats ys = true → PyData.eqvAll (P.pys xs) (P.pys ys) = P.eqvs xs ys
  | [], [], _, _ => rfl
  | [], _ :: _, _, _ => rfl
  | _ :: _, [], _, _ => rfl
  | x :: xs, y :: ys, hx, hy => by
    have h1 : x.flat = true ∧ P.flats xs = true := by simpa [P.flats] using hx
    have h2 : y.flat = true ∧ P.flats ys = true := by simpa [P.flats] using hy
    show (PyData.eqv x.py y.py && PyData.eqvAll (P.pys xs) (P.pys ys)) = (P.eqv x y && P.eqvs xs ys)
    rw [eqv_py x y h1.1 h2.1, eqvs_py xs ys h1.2 h2.2]
end
mutual
theorem depth_py : ∀ p : P, p.py.depth = p.depth
  | .non => rfl
  | .bl _ => rfl
  | .int _ => rfl
  | .str _ => rfl
  | .lst xs => by
    show PyData.depthAll (P.pys xs) + 1 = P.depths xs + 1
    rw [depths_py xs]
  | .tup xs => by
    show PyData.depthAll (P.pys xs) + 1 = P.depths xs + 1
    rw [depths_py xs]
  | .dct _ => rfl
  | .ins _ _ => rfl
  | .scr _ => rfl
theorem depths_py : ∀ xs : List P, PyData.depthAll (P.pys xs) = P.depths xs
  | [] => rfl
  | x :: xs => by
    show max x.py.depth (PyData.depthAll (P.pys xs)) = max x.depth (P.depths xs)
    rw [depth_py x, depths_py xs]
end
mutual
theorem plain_py : ∀ p : P, p.py.plain = true
  | .non => rfl
  | .bl _ => rfl
  | .int _ => rfl
  | .str _ => rfl
  | .lst xs => plains_py xs
  | .tup xs => plains_py xs
  | .dct _ => rfl
  | .ins _ _ => rfl
  | .scr _ => rfl
theorem plains_py : ∀ xs : List P, PyData.plainAll (P.pys xs) = true
  | [] => rfl
  | x :: xs => by
    show (x.py.plain && PyData.plainAll (P.pys xs)) = true
    rw [plain_py x, plains_py xs]
    rfl
end
theorem pys_map : ∀ xs : List P, P.pys xs = xs.map P.py
  | [] => rfl
  | x :: xs => by
    show x.py :: P.pys xs = x.py :: xs.map P.py
    rw [pys_map xs]

/-! ### how data stand in a heap -/
/-- the one heap is part of the other -/
def Sub (H H' : Hp) : Prop := ∀ a o, H a = some o → H' a = some o
theorem Sub.refl (H : Hp) : Sub H H := fun _ _ h => h
theorem Sub.trans {H H1 H2 : Hp} (a : Sub H H1) (b : Sub H1 H2) : Sub H H2 := fun x o h => b x o (a x o h)
theorem Sub.new {H : Hp} {p : Addr} {o : HO} (h : H p = none) : Sub H (upd H p o) := fun a u e => by
  rw [upd_ne (ne_of_none e h)]
  exact e
theorem Sub.back {H H' : Hp} (s : Sub H H') {p : Addr} (h : H' p = none) : H p = none := by
  cases e : H p with
  | none => rfl
  | some o =>
    rw [s p o e] at h
    cases h
theorem sub_rd {H H' : Hp} {a : Addr} {u : HO} (e : Sub H H') (h : Rd H a u) : Rd H' a u := by
  rcases h with h | ⟨o, h⟩
  · exact .inl (e a _ h)
  · exact .inr ⟨o, e a _ h⟩
theorem sub_l {K : PySem.W.Frag} {H H' : Hp} {a : Addr} {xs : List V} (e : Sub H H') (h : SqL K H a xs) : SqL K H' a xs := by
  rcases h with h | h
  · exact .inl (sub_rd e h)
  · exact .inr h
theorem sub_t {K : PySem.W.Frag} {H H' : Hp} {a : Addr} {xs : List V} (e : Sub H H') (h : SqT K H a xs) : SqT K H' a xs := by
  rcases h with h | h
  · exact .inl (sub_rd e h)
  · exact .inr h

def keyP : Key → P
  | .inl i => .int i
  | .inr x => .str x
mutual
inductive Rep (K : PySem.W.Frag) (F : Hp) : V → P → Prop
  | non : Rep K F .non .non
  | bl (b : Bool) : Rep K F (.bl b) (.bl b)
  | int (i : Int) : Rep K F (.int i) (.int i)
  | str (x : Str) : Rep K F (.str x) (.str x)
  | lst {a : Addr} {xs : List V} {ds : List P} : F a = some (.lst xs) → Reps K F xs ds → Rep K F (.ref a) (.lst ds)
  | scr {a : Addr} {xs : List V} {ds : List P} : SqL K F a xs → Reps K F xs ds → Rep K F (.ref a) (.scr ds)
  | tup {a : Addr} {xs : List V} {ds : List P} : SqT K F a xs → Reps K F xs ds → Rep K F (.ref a) (.tup ds)
  | dct {a : Addr} {kvs : List (Key × V)} {ds : List (P × P)} : F a = some (.dK kvs) → RepK K F kvs ds → Rep K F (.ref a) (.dct ds)
inductive Reps (K : PySem.W.Frag) (F : Hp) : List V → List P → Prop
  | nil : Reps K F [] []
  | cons {v : V} {vs : List V} {d : P} {ds : List P} : Rep K F v d → Reps K F vs ds → Reps K F (v :: vs) (d :: ds)
inductive RepK (K : PySem.W.Frag) (F : Hp) : List (Key × V) → List (P × P) → Prop
  | nil : RepK K F [] []
  | cons {k : Key} {v : V} {vs : List (Key × V)} {d : P} {ds : List (P × P)} : Rep K F v d → RepK K F vs ds → RepK K F ((k, v) :: vs) ((keyP k, d) :: ds)
end
section
variable {K : PySem.W.Frag} {F F' H : Hp}
mutual
theorem Rep.mono (s : Sub F F') : ∀ {v : V} {p : P}, Rep K F v p → Rep K F' v p
  | _, _, .non => .non
  | _, _, .bl b => .bl b
  | _, _, .int i => .int i
  | _, _, .str x => .str x
  | _, _, .lst h r => .lst (s _ _ h) (Reps.mono s r)
  | _, _, .scr h r => .scr (sub_l s h) (Reps.mono s r)
  | _, _, .tup h r => .tup (sub_t s h) (Reps.mono s r)
  | _, _, .dct h r => .dct (s _ _ h) (RepK.mono s r)
theorem Reps.mono (s : Sub F F') : ∀ {vs : List V} {ps : List P}, Reps K F vs ps → Reps K F' vs ps
  | _, _, .nil => .nil
  | _, _, .cons h r => .cons (Rep.mono s h) (Reps.mono s r)
theorem RepK.mono (s : Sub F F') : ∀ {vs : List (Key × V)} {ps : List (P × P)}, RepK K F vs ps → RepK K F' vs ps
  | _, _, .nil => .nil
  | _, _, .cons h r => .cons (Rep.mono s h) (RepK.mono s r)
end
mutual
theorem Rep.dp : ∀ {v : V} {p : P}, Rep K F v p → p.flat = true → Dp K F v p.py
  | _, _, .non, _ => .non
  | _, _, .bl b, _ => .bl b
  | _, _, .int i, _ => .int i
  | _, _, .str x, _ => .str x
  | _, _, .lst h r, hp => .lst (.of h) (Reps.dp r hp)
  | _, _, .scr h r, hp => by cases hp
  | _, _, .tup h r, hp => .tup h (Reps.dp r hp)
  | _, _, .dct h r, hp => by cases hp
theorem Reps.dp : ∀ {vs : List V} {ps : List P}, Reps K F vs ps → P.flats ps = true → DpAll K F vs (P.pys ps)
  | _, _, .nil, _ => .nil
  | _, _, @Reps.cons _ _ _ _ d ds h r, hp => by
    have h1 : d.flat = true ∧ P.flats ds = true := by simpa [P.flats] using hp
    exact .cons (Rep.dp h h1.1) (Reps.dp r h1.2)
end
theorem Reps.length : ∀ {vs : List V} {ps : List P}, Reps K F vs ps → vs.length = ps.length
  | _, _, .nil => rfl
  | _, _, .cons _ r => congrArg (· + 1) (Reps.length r)
theorem Reps.append : ∀ {vs ws : List V} {ps qs : List P}, Reps K F vs ps → Reps K F ws qs → Reps K F (vs ++ ws) (ps ++ qs)
  | _, _, _, _, .nil, r => r
  | _, _, _, _, .cons h t, r => .cons h (Reps.append t r)
theorem Reps.get : ∀ {vs : List V} {ps : List P} {i : Nat} {p : P}, Reps K F vs ps → ps[i]? = some p → ∃ v, vs[i]? = some v ∧ Rep K F v p
  | _, _, _, _, .nil, er => by simp at er
  | _, _, 0, _, .cons h _, e => by
    simp at e
    subst e
    exact ⟨_, rfl, h⟩
  | _, _, i + 1, p, .cons _ t, e => by
    obtain ⟨v, h1, h2⟩ := Reps.get (i := i) (p := p) t (by simpa using e)
    exact ⟨v, by simpa using h1, h2⟩
theorem Reps.get' : ∀ {vs : List V} {ps : List P} {i : Nat} {v : V}, Reps K F vs ps → vs[i]? = some v → ∃ p, ps[i]? = some p ∧ Rep K F v p
  | _, _, _, _, .nil, er => by simp at er
  | _, _, 0, _, .cons h _, e => by
    simp at e
    subst e
    exact ⟨_, rfl, h⟩
  | _, _, i + 1, p, .cons _ t, e => by
    obtain ⟨v, h1, h2⟩ := Reps.get' (i := i) (v := p) t (by simpa using e)
    exact ⟨v, by simpa using h1, h2⟩
theorem Reps.set {v : V} {p : P} (r : Rep K F v p) : ∀ {vs : List V} {ps : List P} (i : Nat), Reps K F vs ps → Reps K F (vs.set i v) (ps.set i p)
  | _, _, _, .nil => .nil
  | _, _, 0, .cons _ t2 => .cons r t2
  | _, _, i + 1, .cons h t => .cons h (Reps.set r i t)
theorem Reps.take : ∀ {vs : List V} {ps : List P} (n : Nat), Reps K F vs ps → Reps K F (vs.take n) (ps.take n)
  | _, _, 0, _ => .nil
  | _, _, _ + 1, .nil => .nil
  | _, _, n + 1, .cons h t => .cons h (Reps.take n t)
theorem Reps.drop : ∀ {vs : List V} {ps : List P} (n : Nat), Reps K F vs ps → Reps K F (vs.drop n) (ps.drop n)
  | _, _, 0, r => r
  | _, _, _ + 1, .nil => .nil
  | _, _, n + 1, .cons _ t => Reps.drop n t
theorem Reps.reverse : ∀ {vs : List V} {ps : List P}, Reps K F vs ps → Reps K F vs.reverse ps.reverse
  | _, _, .nil => .nil
  | _, _, .cons h t => by
    (rw [List.reverse_cons, List.reverse_cons])
    exact (Reps.reverse t).append (.cons h .nil)

/-- at the object: what the data say of it -/
theorem Rep.lst_inv {v : V} {ps : List P} (h : Rep K F v (.lst ps)) : ∃ a vs, v = .ref a ∧ F a = some (.lst vs) ∧ Reps K F vs ps := by
  cases h with
  | lst h r => exact ⟨_, _, rfl, h, r⟩
theorem Rep.scr_inv {v : V} {ps : List P} (h : Rep K F v (.scr ps)) : ∃ a vs, v = .ref a ∧ SqL K F a vs ∧ Reps K F vs ps := by
  cases h with
  | scr h r => exact ⟨_, _, rfl, h, r⟩
theorem Rep.tup_inv {v : V} {ps : List P} (h : Rep K F v (.tup ps)) : ∃ a vs, v = .ref a ∧ SqT K F a vs ∧ Reps K F vs ps := by
  cases h with
  | tup h r => exact ⟨_, _, rfl, h, r⟩
theorem Rep.dct_inv {v : V} {ps : List (P × P)} (h : Rep K F v (.dct ps)) : ∃ a vs, v = .ref a ∧ F a = some (.dK vs) ∧ RepK K F vs ps := by
  cases h with
  | dct h r => exact ⟨_, _, rfl, h, r⟩
theorem Rep.int_inv {v : V} {i : Int} (h : Rep K F v (.int i)) : v = .int i := by
  cases h
  rfl
theorem Rep.str_inv {v : V} {i : Str} (h : Rep K F v (.str i)) : v = .str i := by
  cases h
  rfl
theorem Rep.bl_inv {v : V} {i : Bool} (h : Rep K F v (.bl i)) : v = .bl i := by
  cases h
  rfl
theorem Rep.non_inv {v : V} (h : Rep K F v .non) : v = .non := by
  cases h
  rfl

/-! ### the store -/
def Cell.live : Cell → Prop
  | .dead => False
  | _ => True
def CellOk (K : PySem.W.Frag) (F : Hp) (ho : HO) : Cell → Prop
  | .dead => True
  | .lst xs => ∃ vs, ho = .lst vs ∧ Reps K F vs xs
  | .lck xs => ∃ vs, ho = .lst vs ∧ Reps K F vs xs
  | .dct kvs => ∃ vs, ho = .dK vs ∧ RepK K F vs kvs
  | .ins _ _ => False
theorem CellOk.mono (s : Sub F F') {ho : HO} {c : Cell} (h : CellOk K F ho c) : CellOk K F' ho c := by
  cases c with
  | dead => exact h
  | lst xs => obtain ⟨vs, e, r⟩ := h; exact ⟨vs, e, r.mono s⟩
  | lck xs => obtain ⟨vs, e, r⟩ := h; exact ⟨vs, e, r.mono s⟩
  | dct kvs => obtain ⟨vs, e, r⟩ := h; exact ⟨vs, e, r.mono s⟩
  | ins c fs => exact h
structure Rel (K : PySem.W.Frag) (F : Hp) (ρ : List Addr) (st : Sto) (H : Hp) : Prop where
  len : ρ.length = st.length
  sub : Sub F H
  cell : ∀ (n : Nat) (c : Cell), st[n]? = some c → c.live → ∃ a ho, ρ[n]? = some a ∧ F a = none ∧ H a = some ho ∧ CellOk K F ho c
  inj : ∀ (m n : Nat) (cm cn : Cell) (a : Addr), st[m]? = some cm → cm.live → st[n]? = some cn → cn.live → ρ[m]? = some a → ρ[n]? = some a → m = n
def RepS (K : PySem.W.Frag) (F : Hp) (ρ : List Addr) (b : Nat) (v : V) : Sl → Prop
  | .val p => Rep K F v p
  | .ref n => n < b ∧ ∃ a, ρ[n]? = some a ∧ v = .ref a
inductive RepSs (K : PySem.W.Frag) (F : Hp) (ρ : List Addr) (b : Nat) : List V → List Sl → Prop
  | nil : RepSs K F ρ b [] []
  | cons {v : V} {vs : List V} {s : Sl} {ss : List Sl} : RepS K F ρ b v s → RepSs K F ρ b vs ss → RepSs K F ρ b (v :: vs) (s :: ss)
def EnvOk (K : PySem.W.Frag) (F : Hp) (ρ : List Addr) (b : Nat) (env : Env) (sg : L2.St) : Prop :=
  env.length = sg.length ∧ ∀ (i : Nat) (s : Sl), env[i]? = some (some s) → ∃ v, sg[i]? = some (some v) ∧ RepS K F ρ b v s
/-- what is ours at a -/
def Own (F : Hp) (ρ : List Addr) (st : Sto) (a : Addr) : Prop := F a ≠ none ∨ ∃ (n : Nat) (c : Cell), st[n]? = some c ∧ c.live ∧ ρ[n]? = some a
structure Step (b : Nat) (F : Hp) (ρ : List Addr) (st : Sto) (H : Hp) (F' : Hp) (ρ' : List Addr) (st' : Sto) (H' : Hp) : Prop where
  ext : Sub F F'
  pre : ∀ (n : Nat) (a : Addr), n < b → ρ[n]? = some a → ρ'[n]? = some a
  len : b ≤ st'.length
  keep : ∀ a o, H a = some o → ¬ Own F ρ st a → H' a = some o
  own : ∀ a, H a ≠ none → Own F' ρ' st' a → Own F ρ st a
  there : ∀ a, H a ≠ none → H' a ≠ none
section
variable {ρ ρ' ρ'' : List Addr} {st st' st'' : Sto} {H' F'' H'' : Hp} {b b' : Nat}
theorem Step.refl (h : b ≤ st.length) : Step b F ρ st H F ρ st H := ⟨.refl _, fun _ _ _ h => h, h, fun _ _ h _ => h, fun _ _ h => h, fun _ h => h⟩
theorem Step.trans (a : Step b F ρ st H F' ρ' st' H') (c : Step b' F' ρ' st' H' F'' ρ'' st'' H'') (hb : b ≤ b') : Step b F ρ st H F'' ρ'' st'' H'' :=
  ⟨a.ext.trans c.ext, fun n x hn e => c.pre n x (Nat.lt_of_lt_of_le hn hb) (a.pre n x hn e), Nat.le_trans hb c.len, fun x o e hn => c.keep x o (a.keep x o e hn) fun z => hn (a.own x (by rw [e]; exact fun z => nomatch z) z),
    fun x h z => a.own x h (c.own x (a.there x h) z), fun x h => c.there x (a.there x h)⟩
theorem Step.weak (a : Step b F ρ st H F' ρ' st' H') (h : b' ≤ b) : Step b' F ρ st H F' ρ' st' H' :=
  ⟨a.ext, fun n x hn => a.pre n x (Nat.lt_of_lt_of_le hn h), Nat.le_trans h a.len, a.keep, a.own, a.there⟩
theorem RepS.step {v : V} {s : Sl} (a : Step b F ρ st H F' ρ' st' H') (h : RepS K F ρ b v s) : RepS K F' ρ' st'.length v s := by
  cases s with
  | val p => exact Rep.mono a.ext h
  | ref n =>
    obtain ⟨h1, x, e, hv⟩ := h
    exact ⟨Nat.lt_of_lt_of_le h1 a.len, x, a.pre n x h1 e, hv⟩
theorem RepSs.step {vs : List V} {ss : List Sl} (a : Step b F ρ st H F' ρ' st' H') (h : RepSs K F ρ b vs ss) : RepSs K F' ρ' st'.length vs ss := by
  induction h with
  | nil => exact .nil
  | cons h _ ih => exact .cons (h.step a) ih
theorem EnvOk.step {env : Env} {sg : L2.St} (a : Step b F ρ st H F' ρ' st' H') (h : EnvOk K F ρ b env sg) : EnvOk K F' ρ' st'.length env sg :=
  ⟨h.1, fun i s e => let ⟨v, h1, h2⟩ := h.2 i s e; ⟨v, h1, h2.step a⟩⟩
theorem RepSs.length {vs : List V} {ss : List Sl} (h : RepSs K F ρ b vs ss) : vs.length = ss.length := by
  induction h with
  | nil => rfl
  | cons _ _ ih => exact congrArg (· + 1) ih
/-- a value whose data are known just now -/
def Pk (K : PySem.W.Frag) (F H : Hp) (v : V) (p : P) : Prop :=
  Rep K F v p ∨ ∃ a ho, v = .ref a ∧ H a = some ho ∧ ((∃ vs xs, p = .lst xs ∧ ho = .lst vs ∧ Reps K F vs xs) ∨ ∃ vs xs, p = .dct xs ∧ ho = .dK vs ∧ RepK K F vs xs)
theorem Pk.lst_inv {v : V} {ps : List P} (s : Sub F H) (h : Pk K F H v (.lst ps)) : ∃ a vs, v = .ref a ∧ H a = some (.lst vs) ∧ Reps K F vs ps := by
  rcases h with h | ⟨a, ho, e, h1, h | h⟩
  · obtain ⟨a, vs, e, h1, h2⟩ := h.lst_inv
    exact ⟨a, vs, e, s _ _ h1, h2⟩
  · obtain ⟨vs, xs, e1, e2, r⟩ := h
    cases e1
    subst e2
    exact ⟨a, vs, e, h1, r⟩
  · obtain ⟨vs, xs, e1, e2, r⟩ := h
    cases e1
theorem Pk.dct_inv {v : V} {ps : List (P × P)} (s : Sub F H) (h : Pk K F H v (.dct ps)) : ∃ a vs, v = .ref a ∧ H a = some (.dK vs) ∧ RepK K F vs ps := by
  rcases h with h | ⟨a, ho, e, h1, h | h⟩
  · obtain ⟨a, vs, e, h1, h2⟩ := h.dct_inv
    exact ⟨a, vs, e, s _ _ h1, h2⟩
  · obtain ⟨vs, xs, e1, e2, r⟩ := h
    cases e1
  · obtain ⟨vs, xs, e1, e2, r⟩ := h
    cases e1
    subst e2
    exact ⟨a, vs, e, h1, r⟩
theorem Pk.other {v : V} {p : P} (h : Pk K F H v p) (h1 : ∀ xs, p ≠ .lst xs) (h2 : ∀ xs, p ≠ .dct xs) : Rep K F v p := by
  rcases h with h | ⟨a, ho, e, _, h | h⟩
  · exact h
  · obtain ⟨vs, xs, e1, _⟩ := h
    exact absurd e1 (h1 _)
  · obtain ⟨vs, xs, e1, _⟩ := h
    exact absurd e1 (h2 _)
theorem Pk.tup_inv {v : V} {ps : List P} (s : Sub F H) (h : Pk K F H v (.tup ps)) : ∃ a vs, v = .ref a ∧ SqT K H a vs ∧ Reps K F vs ps := by
  obtain ⟨a, vs, e, h1, h2⟩ := (h.other (fun _ z => nomatch z) (fun _ z => nomatch z)).tup_inv
  exact ⟨a, vs, e, sub_t s h1, h2⟩
theorem Pk.scr_inv {v : V} {ps : List P} (s : Sub F H) (h : Pk K F H v (.scr ps)) : ∃ a vs, v = .ref a ∧ SqL K H a vs ∧ Reps K F vs ps := by
  obtain ⟨a, vs, e, h1, h2⟩ := (h.other (fun _ z => nomatch z) (fun _ z => nomatch z)).scr_inv
  exact ⟨a, vs, e, sub_l s h1, h2⟩
theorem Pk.int_inv {v : V} {i : Int} (h : Pk K F H v (.int i)) : v = .int i := (h.other (fun _ z => nomatch z) (fun _ z => nomatch z)).int_inv
theorem Pk.str_inv {v : V} {i : Str} (h : Pk K F H v (.str i)) : v = .str i := (h.other (fun _ z => nomatch z) (fun _ z => nomatch z)).str_inv
theorem Pk.bl_inv {v : V} {i : Bool} (h : Pk K F H v (.bl i)) : v = .bl i := (h.other (fun _ z => nomatch z) (fun _ z => nomatch z)).bl_inv
theorem Pk.non_inv {v : V} (h : Pk K F H v .non) : v = .non := (h.other (fun _ z => nomatch z) (fun _ z => nomatch z)).non_inv
/-- .. as the kit's data in the whole heap -/
theorem Pk.dp {v : V} {p : P} (s : Sub F H) (h : Pk K F H v p) (hp : p.flat = true) : Dp K H v p.py := by
  rcases h with h | ⟨a, ho, e, h1, h | h⟩
  · exact (h.mono s).dp hp
  · obtain ⟨vs, xs, rfl, rfl, r⟩ := h
    subst e
    exact .lst (.of h1) ((r.mono s).dp hp)
  · obtain ⟨vs, xs, rfl, rfl, r⟩ := h
    cases hp
/-- peek tells it -/
theorem pk_of {v : V} {x : Sl} {p : P} (r : Rel K F ρ st H) (h : RepS K F ρ b v x) {st2 : Sto} (e : peek x st = .ok p st2) : st2 = st ∧ Pk K F H v p := by
  cases x with
  | val q =>
    have e' : R.ok q st = R.ok p st2 := e
    injection e' with e1 e2
    subst e1
    exact ⟨e2.symm, .inl h⟩
  | ref n =>
    obtain ⟨h1, a, ha, hv⟩ := h
    have key : ∀ c, st[n]? = some c → c.live → ∃ ho, H a = some ho ∧ CellOk K F ho c := fun c hc hl => by
      obtain ⟨a', ho, e1, _, e2, ok⟩ := r.cell n c hc hl
      rw [ha] at e1
      cases e1
      exact ⟨ho, e2, ok⟩
    unfold peek at e
    simp only at e
    split at e
    · rename_i xs hc
      injection e with e1 e2
      subst e1
      obtain ⟨ho, e3, vs, e4, r⟩ := key _ hc trivial
      exact ⟨e2.symm, .inr ⟨a, ho, hv, e3, .inl ⟨vs, xs, rfl, e4, r⟩⟩⟩
    · rename_i xs hc
      injection e with e1 e2
      subst e1
      obtain ⟨ho, e3, vs, e4, r⟩ := key _ hc trivial
      exact ⟨e2.symm, .inr ⟨a, ho, hv, e3, .inl ⟨vs, xs, rfl, e4, r⟩⟩⟩
    · rename_i xs hc
      injection e with e1 e2
      subst e1
      obtain ⟨ho, e3, vs, e4, r⟩ := key _ hc trivial
      exact ⟨e2.symm, .inr ⟨a, ho, hv, e3, .inr ⟨vs, xs, rfl, e4, r⟩⟩⟩
    · cases e
end
end
end Fy

/-! Fy2: what the model's operators, built-in functions and methods do with our data. -/
namespace Fy
open PySem
open PySem.Spec
open PyProof.Rows
open L2

/-- F' and H' are F and H with new things -/
structure New (F H F' H' : Hp) : Prop where
  f : Sub F F'
  h : Sub H H'
  fh : Sub F' H'
  own : ∀ a, F' a ≠ none → F a ≠ none ∨ H a = none
theorem New.refl {F H : Hp} (s : Sub F H) : New F H F H := ⟨.refl _, .refl _, s, fun _ h => .inl h⟩
theorem New.laid {F H : Hp} (s : Sub F H) {p : Addr} {o : HO} (n : H p = none) : New F H (upd F p o) (upd H p o) := by
  refine ⟨Sub.new (s.back n), Sub.new n, fun a u e => ?_, fun a h => ?_⟩
  · by_cases q : a = p
    · subst q
      rw [upd_same] at e ⊢
      exact e
    · rw [upd_ne q] at e ⊢
      exact s a u e
  · by_cases q : a = p
    · subst q
      exact .inr n
    · rw [upd_ne q] at h
      exact .inl h
/-- a result is handed on: data p, in a heap with new things -/
def Give (K : PySem.W.Frag) (F H : Hp) (p : P) (Q : VK) : Prop := ∀ v F' H', New F H F' H' → Rep K F' v p → Q v H'
/-- .. a new list -/
def GiveL (K : PySem.W.Frag) (F H : Hp) (xs : List P) (Q : VK) : Prop := ∀ p vs, H p = none → Reps K F vs xs → Q (.ref p) (upd H p (.lst vs))
section
variable {K : PySem.W.Frag} {F H : Hp} {Q : VK}
theorem Give.here {p : P} {v : V} (s : Sub F H) (q : Give K F H p Q) (r : Rep K F v p) : Q v H := q v F H (.refl s) r
theorem Give.lst {xs : List P} (s : Sub F H) (q : Give K F H (.lst xs) Q) : GiveL K F H xs Q := fun p vs n r =>
  q (.ref p) _ _ (.laid s n) (.lst (by rw [upd_same]) (r.mono (Sub.new (s.back n))))
theorem Give.tup {xs : List P} {p : Addr} {vs : List V} (s : Sub F H) (q : Give K F H (.tup xs) Q) (n : H p = none) (r : Reps K F vs xs) : Q (.ref p) (upd H p (.tup vs)) :=
  q (.ref p) _ _ (.laid s n) (.tup (.of (by rw [upd_same])) (r.mono (Sub.new (s.back n))))
end
theorem lenMost_lt {n : Nat} (h : n ≤ lenMost) : n ≤ sizeLine := Nat.le_trans h (by decide)
theorem lenMost_lt' {n : Nat} (h : n < lenMost) : n < sizeLine := Nat.lt_of_lt_of_le h (by decide)
theorem lenMost_63 {n : Nat} (h : n ≤ lenMost) : (n : Int) < 2 ^ 63 := by
  have : lenMost = 100000 := rfl
  omega

/-! ### two-place operators -/
def rP2 (K : PySem.W.Frag) (f : P → P → Option P) : R2 := fun x y H Q => ∃ F p q z, Sub F H ∧ Pk K F H x p ∧ Pk K F H y q ∧ f p q = some z ∧ Give K F H z Q
/-- .. whose result is a new list -/
def rP2L (K : PySem.W.Frag) (f : P → P → Option (List P)) : R2 := fun x y H Q => ∃ F p q z, Sub F H ∧ Pk K F H x p ∧ Pk K F H y q ∧ f p q = some z ∧ GiveL K F H z Q
section
variable {X : Cx}
theorem rep_size (a : Array Nat) : ∀ (n : Nat) (acc : Array Nat), ((List.replicate n a).foldl (· ++ ·) acc).size = acc.size + n * a.size
  | 0, acc => by simp
  | n + 1, acc => by
    rw [List.replicate_succ, List.foldl_cons, rep_size a n, Array.size_append, Nat.succ_mul]
    omega
theorem str_app (i j : Str) : i ++ j = strCat i j := rfl
theorem o_add : OpR X (binaryOp .Add) (rP2 X.K (binP .add)) := by
  intro pz s sg H x y v u Q I rx ry h
  obtain ⟨F, p, q, z, sf, hp, hq, e, g⟩ := h
  cases p <;> cases q <;> simp only [binP, reduceCtorEq] at e
  case int.int i j =>
    cases e
    exact op_add pz s sg H x y v u Q I rx ry ⟨i, j, hp.int_inv, hq.int_inv, g.here sf (.int _)⟩
  case int.bl i j =>
    cases e
    obtain rfl := hp.int_inv
    obtain rfl := hq.bl_inv
    obtain ⟨t, rfl⟩ := rx
    cases ry
    exact add_int_bool ⟨.int (i + b2i j), H, I.tok _, ⟨_, rfl⟩, g.here sf (.int _)⟩
  case bl.int i j =>
    cases e
    obtain rfl := hp.bl_inv
    obtain rfl := hq.int_inv
    cases rx
    obtain ⟨t, rfl⟩ := ry
    exact IntBool.add_bool_int ⟨.int (b2i i + j), H, I.tok _, ⟨_, rfl⟩, g.here sf (.int _)⟩
  case str.str i j =>
    split at e
    · rename_i hl
      cases e
      exact op_add_str pz s sg H x y v u Q I rx ry ⟨i, j, hp.str_inv, hq.str_inv, lenMost_lt hl, g.here sf (.str _)⟩
    · cases e
  case lst.lst i j =>
    split at e
    · rename_i hl
      cases e
      obtain ⟨a, vs, rfl, ha, ra⟩ := hp.lst_inv sf
      obtain ⟨b, ws, rfl, hb, rb⟩ := hq.lst_inv sf
      refine op_cat pz s sg H _ _ v u Q I rx ry ⟨a, b, vs, ws, rfl, rfl, ha, hb, ?_, fun p n => g.lst sf p _ n (ra.append rb)⟩
      rw [ra.length, rb.length]
      exact lenMost_lt hl
    · cases e
  case tup.tup i j =>
    split at e
    · rename_i hl
      cases e
      obtain ⟨a, vs, e1, ha, ra⟩ := hp.tup_inv sf
      obtain ⟨b, ws, e2, hb, rb⟩ := hq.tup_inv sf
      subst e1 e2
      have hp' : Rep X.K F (.ref a) (.tup i) := hp.other (fun _ z => nomatch z) (fun _ z => nomatch z)
      have hq' : Rep X.K F (.ref b) (.tup j) := hq.other (fun _ z => nomatch z) (fun _ z => nomatch z)
      refine op_catA pz s sg H _ _ v u Q I rx ry ⟨a, b, vs, ws, rfl, rfl, ha, hb, ?_, fun e => ?_, fun _ e => ?_, fun _ _ p n => g.tup sf n (ra.append rb)⟩
      · rw [ra.length, rb.length]
        exact lenMost_lt hl
      · subst e
        cases ra
        exact g.here sf hq'
      · subst e
        cases rb
        rw [List.append_nil] at g
        exact g.here sf hp'
    · cases e
theorem o_sub : OpR X (binaryOp .Sub) (rP2 X.K (binP .sub)) := by
  intro pz s sg H x y v u Q I rx ry h
  obtain ⟨F, p, q, z, sf, hp, hq, e, g⟩ := h
  cases p <;> cases q <;> simp only [binP, reduceCtorEq] at e
  case int.int i j =>
    cases e
    exact op_sub pz s sg H x y v u Q I rx ry ⟨i, j, hp.int_inv, hq.int_inv, g.here sf (.int _)⟩
  case int.bl i j =>
    cases e
    obtain rfl := hp.int_inv
    obtain rfl := hq.bl_inv
    obtain ⟨t, rfl⟩ := rx
    cases ry
    exact IntBool.sub_int_bool ⟨.int (i - b2i j), H, I.tok _, ⟨_, rfl⟩, g.here sf (.int _)⟩
  case bl.int i j =>
    cases e
    obtain rfl := hp.bl_inv
    obtain rfl := hq.int_inv
    cases rx
    obtain ⟨t, rfl⟩ := ry
    exact IntBool.sub_bool_int ⟨.int (b2i i - j), H, I.tok _, ⟨_, rfl⟩, g.here sf (.int _)⟩
theorem o_fdiv : OpR X (binaryOp .FloorDiv) (rP2 X.K (binP .fdiv)) := by
  intro pz s sg H x y v u Q I rx ry h
  obtain ⟨F, p, q, z, sf, hp, hq, e, g⟩ := h
  cases p <;> cases q <;> simp only [binP, reduceCtorEq] at e
  case int.int i j =>
    split at e
    · rename_i hl
      cases e
      exact op_fdivW pz s sg H x y v u Q I rx ry ⟨i, j, hp.int_inv, hq.int_inv, hl, g.here sf (.int _)⟩
    · cases e
theorem o_mod : OpR X (binaryOp .Mod) (rP2 X.K (binP .mod)) := by
  intro pz s sg H x y v u Q I rx ry h
  obtain ⟨F, p, q, z, sf, hp, hq, e, g⟩ := h
  cases p <;> cases q <;> simp only [binP, reduceCtorEq] at e
  case int.int i j =>
    split at e
    · rename_i hl
      cases e
      exact op_mod pz s sg H x y v u Q I rx ry ⟨i, j, hp.int_inv, hq.int_inv, hl, g.here sf (.int _)⟩
    · cases e
theorem o_pow : OpR X (binaryOp .Pow) (rP2 X.K (binP .pow)) := by
  intro pz s sg H x y v u Q I rx ry h
  obtain ⟨F, p, q, z, sf, hp, hq, e, g⟩ := h
  cases p <;> cases q <;> simp only [binP, reduceCtorEq] at e
  case int.int i j =>
    split at e
    · rename_i hl
      cases e
      exact op_pow pz s sg H x y v u Q I rx ry ⟨i, j, hp.int_inv, hq.int_inv, ⟨hl.1, by have := hl.2.1; omega, hl.2.2⟩, g.here sf (.int _)⟩
    · cases e
theorem o_mul : OpR X (binaryOp .Mult) (rP2 X.K (binP .mul)) := by
  intro pz s sg H x y v u Q I rx ry h
  obtain ⟨F, p, q, z, sf, hp, hq, e, g⟩ := h
  cases p <;> cases q <;> simp only [binP, reduceCtorEq] at e
  case int.int i j =>
    split at e
    · rename_i hl
      cases e
      exact op_mulW pz s sg H x y v u Q I rx ry ⟨i, j, hp.int_inv, hq.int_inv, hl, g.here sf (.int _)⟩
    · cases e
  case str.int i j =>
    have ex := hp.str_inv
    have ey := hq.int_inv
    subst ex ey
    obtain ⟨t, rfl⟩ := rx
    obtain ⟨t', rfl⟩ := ry
    have hj : ∀ (h1 : 2 ≤ j) (h2 : j ≤ 1000), (decide (j < -(2 ^ 63 : Int)) || decide (j ≥ 2 ^ 63)) = false := fun h1 h2 => by
      rw [decide_eq_false (by omega), decide_eq_false (by omega)]
      rfl
    split at e
    · rename_i hl
      cases e
      obtain ⟨h1, h2, h3, h4⟩ := hl
      have e1 : (j == 1 || i.length == 0) = false := by
        rw [Bool.or_eq_false_iff, beq_eq_false_iff_ne, beq_eq_false_iff_ne]
        exact ⟨by omega, fun z => by
          have z' : i.cps.size = 0 := z
          omega⟩
      refine PySem.P.mul_str (hj h1 h2) (fun _ _ hh => ?_) (fun _ _ => ?_) ?_
      · have h5 : (i.length : Int) ≤ 10000 := by
          have : i.length = i.cps.size := rfl
          omega
        have h6 : (i.length : Int) ≤ (2 ^ 63 - 1) / j := Int.le_ediv_of_mul_le (by omega) (by
          have h7 : (i.length : Int) * j ≤ 10000 * 1000 := Int.mul_le_mul h5 h2 (by omega) (by omega)
          omega)
        omega
      · have h5 : i.length * j.toNat ≤ 10000 * 1000 := Nat.mul_le_mul h4 (by omega)
        exact decide_eq_false (by
          have : sizeLine = 16777216 := by decide
          omega)
      · rw [if_neg (by omega), if_neg (by rw [e1]; decide)]
        refine ⟨?_, .str _, H, I.tok _, ⟨_, rfl⟩, g.here sf (.str _)⟩
        show ((List.replicate j.toNat i.cps).foldl (· ++ ·) #[]).size ≤ sizeLine
        rw [rep_size]
        have h5 : j.toNat * i.cps.size ≤ 1000 * 10000 := Nat.mul_le_mul (by omega) h4
        have : sizeLine = 16777216 := by decide
        have : (#[] : Array Nat).size = 0 := rfl
        omega
    · split at e
      · rename_i hl
        cases e
        obtain ⟨h1, h2, h3⟩ := hl
        have e1 : (j == 1 || i.length == 0) = true := by
          rw [Bool.or_eq_true, beq_iff_eq, beq_iff_eq]
          exact .inr h3
        refine PySem.P.mul_str (hj h1 h2) (fun _ h => absurd h (by rw [e1]; decide)) (fun _ h => absurd h (by rw [e1]; decide)) ?_
        rw [if_neg (by omega), if_pos e1]
        exact ⟨.str _, H, I, ⟨_, rfl⟩, g.here sf (.str _)⟩
      · cases e
  case lst.int i j =>
    split at e
    · rename_i hl
      cases e
      obtain ⟨h1, h2, h3⟩ := hl
      obtain ⟨a, vs, rfl, ha, ra⟩ := hp.lst_inv sf
      refine op_rep pz s sg H _ _ v u Q I rx ry ⟨a, j, vs, rfl, hq.int_inv, ha, by omega, by omega, ?_, fun p n => g.lst sf p _ n ?_⟩
      · have h4 : vs.length * j.toNat ≤ 10000 * 1000 := Nat.mul_le_mul (by rw [ra.length]; exact h3) (by omega)
        have : sizeLine = 16777216 := by decide
        omega
      · generalize j.toNat = n
        induction n with
        | zero => exact .nil
        | succ n ih => exact ra.append ih
    · cases e
end

/-! ### comparisons -/
def rCmp (K : PySem.W.Frag) (o : Cop) : R2 := fun x y H Q => ∃ F p q k, Sub F H ∧ Pk K F H x p ∧ Pk K F H y q ∧ cmpP o p q = some k ∧ Q (.bl k) H
theorem depthMost_ok {a b : Nat} (h : min a b ≤ depthMost) {u : Nat} (hu : u + 64 < cLine) : u + min a b < cLine := by
  have : depthMost = 60 := rfl
  omega
section
variable {X : Cx}
theorem Pk.reads {pz : List (Addr × Obj)} {sg : L2.St} {H F : Hp} {s : Shared} {v : V} {u : Value} {p : P} (I : Inv X pz sg H s) (sf : Sub F H) (h : Pk X.K F H v p) (hp : p.flat = true) (r : RelV v u) : ∃ as, Reads s.heap u p.py as :=
  Dp.reads I p.py v u (h.dp sf hp) r
theorem eqP_some {p q : P} {k : Bool} (e : eqP p q = some k) : p.flat = true ∧ q.flat = true ∧ min p.depth q.depth ≤ depthMost ∧ k = p.eqv q := by
  unfold eqP at e
  split at e
  · rename_i h
    simp only [decide_eq_true_eq, Bool.and_eq_true] at h
    cases e
    exact ⟨h.1.1, h.1.2, h.2, rfl⟩
  · cases e
theorem c_eq (hu : X.A.units + 64 < cLine) : OpR X (compareOp .Eq) (rCmp X.K .eq) := by
  intro pz s sg H x y v u Q I rx ry h
  obtain ⟨F, p, q, k, sf, hp, hq, e, g⟩ := h
  obtain ⟨f1, f2, hd, rfl⟩ := eqP_some e
  obtain ⟨as, r1⟩ := hp.reads I sf f1 rx
  obtain ⟨bs, r2⟩ := hq.reads I sf f2 ry
  refine SeqAt.eq_plain r1 r2 (plain_py _) (plain_py _) (by rw [depth_py, depth_py]; exact depthMost_ok hd hu) ?_
  rw [eqv_py p q f1 f2]
  exact ⟨.bl _, H, I, rfl, g⟩
theorem c_ne (hu : X.A.units + 64 < cLine) : OpR X (compareOp .NotEq) (rCmp X.K .ne) := by
  intro pz s sg H x y v u Q I rx ry h
  obtain ⟨F, p, q, k, sf, hp, hq, e, g⟩ := h
  have e' : (eqP p q).map (!·) = some k := e
  obtain ⟨k', e1, e2⟩ := Option.map_eq_some_iff.mp e'
  obtain ⟨f1, f2, hd, rfl⟩ := eqP_some e1
  subst e2
  obtain ⟨as, r1⟩ := hp.reads I sf f1 rx
  obtain ⟨bs, r2⟩ := hq.reads I sf f2 ry
  refine SeqAt.ne_plain r1 r2 (plain_py _) (plain_py _) (by rw [depth_py, depth_py]; exact depthMost_ok hd hu) ?_
  rw [eqv_py p q f1 f2]
  exact ⟨.bl _, H, I, rfl, g⟩
theorem c_lt : OpR X (compareOp .Lt) (rCmp X.K .lt) := by
  intro pz s sg H x y v u Q I rx ry h
  obtain ⟨F, p, q, k, sf, hp, hq, e, g⟩ := h
  cases p <;> cases q <;> simp only [cmpP, reduceCtorEq] at e
  case int.int i j =>
    cases e
    exact op_lt pz s sg H x y v u Q I rx ry ⟨i, j, hp.int_inv, hq.int_inv, g⟩
  case str.str i j =>
    cases e
    exact op_lt_str pz s sg H x y v u Q I rx ry ⟨i, j, hp.str_inv, hq.str_inv, g⟩
theorem c_le : OpR X (compareOp .LtE) (rCmp X.K .le) := by
  intro pz s sg H x y v u Q I rx ry h
  obtain ⟨F, p, q, k, sf, hp, hq, e, g⟩ := h
  cases p <;> cases q <;> simp only [cmpP, reduceCtorEq] at e
  case int.int i j =>
    cases e
    exact op_le pz s sg H x y v u Q I rx ry ⟨i, j, hp.int_inv, hq.int_inv, g⟩
theorem c_gt : OpR X (compareOp .Gt) (rCmp X.K .gt) := by
  intro pz s sg H x y v u Q I rx ry h
  obtain ⟨F, p, q, k, sf, hp, hq, e, g⟩ := h
  cases p <;> cases q <;> simp only [cmpP, reduceCtorEq] at e
  case int.int i j =>
    cases e
    exact op_gt pz s sg H x y v u Q I rx ry ⟨i, j, hp.int_inv, hq.int_inv, g⟩
theorem c_ge : OpR X (compareOp .GtE) (rCmp X.K .ge) := by
  intro pz s sg H x y v u Q I rx ry h
  obtain ⟨F, p, q, k, sf, hp, hq, e, g⟩ := h
  cases p <;> cases q <;> simp only [cmpP, reduceCtorEq] at e
  case int.int i j =>
    cases e
    exact op_ge pz s sg H x y v u Q I rx ry ⟨i, j, hp.int_inv, hq.int_inv, g⟩
theorem Pk.non_iff {F H : Hp} {K : PySem.W.Frag} {v : V} {p : P} (h : Pk K F H v p) : decide (v = .non) = isNon p := by
  have key : ∀ {p : P}, Rep K F v p → decide (v = .non) = isNon p := fun r => by
    cases r <;> rfl
  rcases h with h | ⟨a, ho, e, _, h | h⟩
  · exact key h
  · obtain ⟨vs, xs, rfl, _⟩ := h
    subst e
    rfl
  · obtain ⟨vs, xs, rfl, _⟩ := h
    subst e
    rfl
theorem isP_inv {p q : P} {k : Bool} (e : isP p q = some k) : (q = .non ∧ k = isNon p) ∨ ∃ a b, p = .bl a ∧ q = .bl b ∧ k = (a == b) := by
  unfold isP at e
  split at e
  · cases e
    exact .inl ⟨rfl, rfl⟩
  · cases e
    exact .inr ⟨_, _, rfl, rfl, rfl⟩
  · cases e
theorem c_is : OpR X (compareOp .Is) (rCmp X.K .is) := by
  intro pz s sg H x y v u Q I rx ry h
  obtain ⟨F, p, q, k, sf, hp, hq, e, g⟩ := h
  rcases isP_inv e with ⟨rfl, rfl⟩ | ⟨a, b, rfl, rfl, rfl⟩
  · refine op_isN pz s sg H x y v u Q I rx ry ⟨hq.non_inv, ?_⟩
    rw [hp.non_iff]
    exact g
  · refine op_isBl pz s sg H x y v u Q I rx ry ⟨a, b, hp.bl_inv, hq.bl_inv, ?_⟩
    rw [show decide (a = b) = (a == b) by cases a <;> cases b <;> rfl]
    exact g
theorem c_isn : OpR X (compareOp .IsNot) (rCmp X.K .isn) := by
  intro pz s sg H x y v u Q I rx ry h
  obtain ⟨F, p, q, k, sf, hp, hq, e, g⟩ := h
  have e' : (isP p q).map (!·) = some k := e
  obtain ⟨k', e1, e2⟩ := Option.map_eq_some_iff.mp e'
  subst e2
  rcases isP_inv e1 with ⟨rfl, rfl⟩ | ⟨a, b, rfl, rfl, rfl⟩
  · refine op_notN pz s sg H x y v u Q I rx ry ⟨hq.non_inv, ?_⟩
    rw [hp.non_iff]
    exact g
  · refine op_notBl pz s sg H x y v u Q I rx ry ⟨a, b, hp.bl_inv, hq.bl_inv, ?_⟩
    rw [show decide (a = b) = (a == b) by cases a <;> cases b <;> rfl]
    exact g
/-- a key -/
theorem keyOk_inv {p : P} (h : keyOk p = true) : ∃ k : Key, p = keyP k := by
  cases p with
  | int i => exact ⟨.inl i, rfl⟩
  | str x => exact ⟨.inr x, rfl⟩
  | _ => cases h
theorem Pk.key {F H : Hp} {K : PySem.W.Frag} {v : V} {k : Key} (h : Pk K F H v (keyP k)) : v = kV k := by
  cases k with
  | inl i => exact h.int_inv
  | inr x => exact h.str_inv
theorem eqv_key (a b : Key) : (keyP a).eqv (keyP b) = decide (a = b) := by
  cases a with
  | inl i =>
    cases b with
    | inl j =>
      show (i == j) = _
      rw [key_ll]
    | inr y => exact (key_lr i y).symm
  | inr x =>
    cases b with
    | inl j => exact (key_rl x j).symm
    | inr y => exact (key_rr x y).symm
theorem RepK.look {K : PySem.W.Frag} {F : Hp} {k : Key} : ∀ {vs : List (Key × V)} {ps : List (P × P)}, RepK K F vs ps → (Fy.look ps (keyP k) = none ∧ valV vs k = none) ∨ ∃ p v, Fy.look ps (keyP k) = some p ∧ valV vs k = some v ∧ Rep K F v p
  | _, _, .nil => Or.inl ⟨rfl, rfl⟩
  | _, _, @RepK.cons _ _ k' v vs d ds h t => by
    by_cases e : k' = k
    · refine .inr ⟨d, v, ?_, ?_, h⟩
      · unfold Fy.look
        rw [List.find?_cons_of_pos (by show (keyP k').eqv (keyP k) = true; rw [eqv_key, e, decide_eq_true rfl])]
        rfl
      · unfold valV
        rw [List.find?_cons_of_pos (by show decide (k' = k) = true; rw [e, decide_eq_true rfl])]
        rfl
    · have e1 : Fy.look ((keyP k', d) :: ds) (keyP k) = Fy.look ds (keyP k) := by
        unfold Fy.look
        rw [List.find?_cons_of_neg (by show ¬ (keyP k').eqv (keyP k) = true; rw [eqv_key, decide_eq_false e]; decide)]
      have e2 : valV ((k', v) :: vs) k = valV vs k := by
        unfold valV
        rw [List.find?_cons_of_neg (by show ¬ decide (k' = k) = true; rw [decide_eq_false e]; decide)]
      rw [e1, e2]
      exact RepK.look t
theorem RepK.length {K : PySem.W.Frag} {F : Hp} : ∀ {vs : List (Key × V)} {ps : List (P × P)}, RepK K F vs ps → vs.length = ps.length
  | _, _, .nil => rfl
  | _, _, .cons _ t => congrArg (· + 1) (RepK.length t)
theorem any_pys (d : P) (hd : d.flat = true) : ∀ ys : List P, P.flats ys = true → ((P.pys ys).any fun y => PyData.eqv y d.py) = ys.any fun y => y.eqv d
  | [], _ => rfl
  | y :: ys, h => by
    have h1 : y.flat = true ∧ P.flats ys = true := by simpa [P.flats] using h
    show (PyData.eqv y.py d.py || (P.pys ys).any fun y => PyData.eqv y d.py) = (y.eqv d || ys.any fun y => y.eqv d)
    rw [eqv_py y d h1.1 hd, any_pys d hd ys h1.2]
theorem mem_hu {xs : List P} {p : P} (hd : p.depth ≤ depthMost) {u : Nat} (hu : u + 64 < cLine) : u + 1 + min (PyData.depthAll (P.pys xs)) p.py.depth < cLine := by
  rw [depth_py]
  have : depthMost = 60 := rfl
  omega
theorem c_mem (hu : X.A.units + 64 < cLine) : OpR X (compareOp .In) (rCmp X.K .mem) := by
  intro pz s sg H x y v u Q I rx ry h
  obtain ⟨F, p, q, k, sf, hp, hq, e, g⟩ := h
  cases q with
  | lst ys =>
    simp only [cmpP] at e
    split at e
    · rename_i hc
      simp only [decide_eq_true_eq, Bool.and_eq_true] at hc
      obtain ⟨as, r1⟩ := hp.reads I sf hc.1.1 rx
      obtain ⟨bs, r2⟩ := hq.reads I sf (show (P.lst ys).flat = true from hc.1.2) ry
      refine SeqAt.in_list_data (xs := P.pys ys) r2 r1 (plains_py _) (plain_py _) (mem_hu hc.2 hu) ?_
      rw [any_pys p hc.1.1 ys hc.1.2]
      cases e
      exact ⟨.bl _, H, I, rfl, g⟩
    · cases e
  | tup ys =>
    simp only [cmpP] at e
    split at e
    · rename_i hc
      simp only [decide_eq_true_eq, Bool.and_eq_true] at hc
      obtain ⟨as, r1⟩ := hp.reads I sf hc.1.1 rx
      obtain ⟨bs, r2⟩ := hq.reads I sf (show (P.tup ys).flat = true from hc.1.2) ry
      refine SeqAt.in_tuple_data (xs := P.pys ys) r2 r1 (plains_py _) (plain_py _) (mem_hu hc.2 hu) ?_
      rw [any_pys p hc.1.1 ys hc.1.2]
      cases e
      exact ⟨.bl _, H, I, rfl, g⟩
    · cases e
  | str z =>
    cases p <;> simp only [cmpP, reduceCtorEq] at e
    case str w =>
      unfold strIn at e
      split at e
      · rename_i hc
        cases e
        obtain ⟨cs⟩ := w
        have hw : ∃ c, cs = #[c] := by
          have h1 : cs.size = 1 := hc
          exact ⟨cs[0], by
            apply Array.ext
            · simpa using h1
            · intro i h2 h3
              have : i = 0 := by omega
              subst this
              rfl⟩
        obtain ⟨c, rfl⟩ := hw
        exact op_in_sign pz s sg H x y v u Q I rx ry ⟨c, z, hp.str_inv, hq.str_inv, g⟩
      · cases e
  | dct kvs =>
    have e : (if keyOk p then some (Fy.look kvs p).isSome else none) = some k := by
      cases p <;> exact e
    split at e
    · rename_i hc
      cases e
      obtain ⟨kk, rfl⟩ := keyOk_inv hc
      obtain ⟨a, vs, rfl, ha, ra⟩ := hq.dct_inv sf
      have hx := hp.key
      subst hx
      cases ry
      refine d_in (by omega) I (DGet.k (k := kk) ha) rx fun s3 I3 => ⟨.bl _, H, I3, rfl, ?_⟩
      rcases ra.look (k := kk) with ⟨h1, h2⟩ | ⟨p, v, h1, h2, _⟩
      · rw [h1] at g
        rw [h2]
        exact g
      · rw [h1] at g
        rw [h2]
        exact g
    · cases e
  | _ => cases p <;> simp only [cmpP, reduceCtorEq] at e
theorem c_nmem (hu : X.A.units + 64 < cLine) : OpR X (compareOp .NotIn) (rCmp X.K .nmem) := by
  intro pz s sg H x y v u Q I rx ry h
  obtain ⟨F, p, q, k, sf, hp, hq, e, g⟩ := h
  cases q with
  | lst ys =>
    simp only [cmpP] at e
    split at e
    · rename_i hc
      simp only [decide_eq_true_eq, Bool.and_eq_true] at hc
      obtain ⟨as, r1⟩ := hp.reads I sf hc.1.1 rx
      obtain ⟨bs, r2⟩ := hq.reads I sf (show (P.lst ys).flat = true from hc.1.2) ry
      refine SeqAt.notIn_list_data (xs := P.pys ys) r2 r1 (plains_py _) (plain_py _) (mem_hu hc.2 hu) ?_
      rw [any_pys p hc.1.1 ys hc.1.2]
      cases e
      exact ⟨.bl _, H, I, rfl, g⟩
    · cases e
  | tup ys =>
    simp only [cmpP] at e
    split at e
    · rename_i hc
      simp only [decide_eq_true_eq, Bool.and_eq_true] at hc
      obtain ⟨as, r1⟩ := hp.reads I sf hc.1.1 rx
      obtain ⟨bs, r2⟩ := hq.reads I sf (show (P.tup ys).flat = true from hc.1.2) ry
      refine SeqAt.notIn_tuple_data (xs := P.pys ys) r2 r1 (plains_py _) (plain_py _) (mem_hu hc.2 hu) ?_
      rw [any_pys p hc.1.1 ys hc.1.2]
      cases e
      exact ⟨.bl _, H, I, rfl, g⟩
    · cases e
  | str z =>
    cases p <;> simp only [cmpP, reduceCtorEq] at e
    case str w =>
      unfold strIn at e
      split at e
      · rename_i hc
        cases e
        obtain ⟨cs⟩ := w
        have hw : ∃ c, cs = #[c] := by
          have h1 : cs.size = 1 := hc
          exact ⟨cs[0], by
            apply Array.ext
            · simpa using h1
            · intro i h2 h3
              have : i = 0 := by omega
              subst this
              rfl⟩
        obtain ⟨c, rfl⟩ := hw
        exact op_notIn_sign pz s sg H x y v u Q I rx ry ⟨c, z, hp.str_inv, hq.str_inv, g⟩
      · cases e
  | dct kvs =>
    have e : (if keyOk p then some (!(Fy.look kvs p).isSome) else none) = some k := by
      cases p <;> exact e
    split at e
    · rename_i hc
      cases e
      obtain ⟨kk, rfl⟩ := keyOk_inv hc
      obtain ⟨a, vs, rfl, ha, ra⟩ := hq.dct_inv sf
      have hx := hp.key
      subst hx
      cases ry
      refine d_notIn (by omega) I (DGet.k (k := kk) ha) rx fun s3 I3 => ⟨.bl _, H, I3, rfl, ?_⟩
      rcases ra.look (k := kk) with ⟨h1, h2⟩ | ⟨p, v, h1, h2, _⟩
      · rw [h1] at g
        rw [h2]
        exact g
      · rw [h1] at g
        rw [h2]
        exact g
    · cases e
  | _ => cases p <;> simp only [cmpP, reduceCtorEq] at e
end

/-! ### truth, subscripts, slices -/
section
variable {X : Cx}
theorem tru_of {F H : Hp} {K : PySem.W.Frag} {v : V} {p : P} {k : Bool} (sf : Sub F H) (h : Pk K F H v p) (e : truP p = some k) : TruV K v H k := by
  cases p with
  | non =>
    cases e
    rw [h.non_inv]
    rfl
  | bl b =>
    cases e
    rw [h.bl_inv]
    rfl
  | int i =>
    cases e
    rw [h.int_inv]
    rfl
  | str x =>
    have e : (if x.cps.size ≤ lenMost then some (x.cps.size != 0) else none) = some k := e
    split at e
    case isFalse => cases e
    rename_i hl
    cases e
    rw [h.str_inv]
    refine ⟨lenMost_lt hl, ?_⟩
    show (x.cps.size != 0) = ((x.cps.size : Int) != 0)
    cases x.cps.size with
    | zero => rfl
    | succ n =>
      have e : ((n + 1 : Nat) : Int) ≠ 0 := by omega
      rw [bne_iff_ne.mpr e, bne_iff_ne.mpr (Nat.succ_ne_zero n)]
  | tup xs =>
    cases e
    obtain ⟨a, vs, rfl, ha, ra⟩ := h.tup_inv sf
    refine .inr (.inl ⟨vs, ha, ?_⟩)
    cases ra <;> rfl
  | lst xs =>
    cases e
    obtain ⟨a, vs, rfl, ha, ra⟩ := h.lst_inv sf
    refine .inl ⟨vs, .of ha, ?_⟩
    cases ra <;> rfl
  | scr xs =>
    cases e
    obtain ⟨a, vs, rfl, ha, ra⟩ := h.scr_inv sf
    refine .inl ⟨vs, ha, ?_⟩
    cases ra <;> rfl
  | dct xs =>
    cases e
    obtain ⟨a, vs, rfl, ha, ra⟩ := h.dct_inv sf
    refine .inr (.inr ⟨vs, ha, ?_⟩)
    cases ra <;> rfl
  | ins c fs => cases e
theorem at_reps {F : Hp} {K : PySem.W.Frag} {vs : List V} {xs : List P} {i : Int} {p : P} (r : Reps K F vs xs) (e : atP xs i = some p) : ∃ v, atI vs i = some v ∧ Rep K F v p := by
  unfold atP at e
  obtain ⟨j, e1, e2⟩ := Option.bind_eq_some_iff.mp e
  obtain ⟨v, h1, h2⟩ := r.get e2
  refine ⟨v, ?_, h2⟩
  unfold atI
  rw [r.length]
  have e3 : ixN xs.length i = some j := e1
  rw [e3]
  exact h1
theorem i_ix (hu : X.A.units + 64 < cLine) : IxR X (rP2 X.K idxP) := by
  intro value slice pz s sg H x y v u Q I rx ry h hsub
  obtain ⟨F, p, q, z, sf, hp, hq, e, g⟩ := h
  cases p with
  | lst xs =>
    cases q with
    | int i =>
      obtain ⟨a, vs, rfl, ha, ra⟩ := hp.lst_inv sf
      obtain ⟨w, h1, h2⟩ := at_reps ra e
      exact ix_list value slice pz s sg H _ y v u Q I rx ry ⟨a, vs, i, w, rfl, hq.int_inv, .of ha, h1, g.here sf h2⟩ hsub
    | _ => cases e
  | scr xs =>
    cases q with
    | int i =>
      obtain ⟨a, vs, rfl, ha, ra⟩ := hp.scr_inv sf
      obtain ⟨w, h1, h2⟩ := at_reps ra e
      exact ix_list value slice pz s sg H _ y v u Q I rx ry ⟨a, vs, i, w, rfl, hq.int_inv, ha, h1, g.here sf h2⟩ hsub
    | _ => cases e
  | tup xs =>
    cases q with
    | int i =>
      obtain ⟨a, vs, rfl, ha, ra⟩ := hp.tup_inv sf
      obtain ⟨w, h1, h2⟩ := at_reps ra e
      exact ix_tup value slice pz s sg H _ y v u Q I rx ry ⟨a, vs, i, w, rfl, hq.int_inv, ha, h1, g.here sf h2⟩ hsub
    | _ => cases e
  | str w =>
    cases q with
    | int i =>
      have e : (if w.cps.size ≤ lenMost then atP (signs w) i else none) = some z := e
      split at e
      · rename_i hl
        unfold atP signs at e
        rw [List.length_map] at e
        obtain ⟨j, e1, e2⟩ := Option.bind_eq_some_iff.mp e
        rw [List.getElem?_map] at e2
        obtain ⟨c, e3, rfl⟩ := Option.map_eq_some_iff.mp e2
        refine ix_str value slice pz s sg H x y v u Q I rx ry ⟨w, i, c, hp.str_inv, hq.int_inv, lenMost_lt hl, ?_, g.here sf (.str _)⟩ hsub
        unfold atI
        have e4 : ixN w.cps.toList.length i = some j := e1
        rw [e4]
        exact e3
      · cases e
    | _ => cases e
  | dct kvs =>
    have e : (if keyOk q then Fy.look kvs q else none) = some z := by
      cases q <;> exact e
    split at e
    · rename_i hc
      obtain ⟨kk, rfl⟩ := keyOk_inv hc
      obtain ⟨a, vs, rfl, ha, ra⟩ := hp.dct_inv sf
      have hy := hq.key
      subst hy
      cases rx
      rcases ra.look (k := kk) with ⟨h1, _⟩ | ⟨p, w, h1, h2, h3⟩
      · rw [h1] at e
        cases e
      · rw [h1] at e
        cases e
        obtain ⟨zz, hd0, vss, rel, dd⟩ := dk_of I.hok ha
        refine tail_any (ops := [.ref a, u]) dd.typeIs PySem.F.slot_dict_getitem.lookup ?_ hsub
        have hg := DGet.k (k := kk) ha
        rw [h2] at hg
        exact d_getItem (by omega) I hg ry fun w' s' I' rw' => ⟨w, H, I', rw', g.here sf h3⟩
    · cases e
  | _ => cases q <;> cases e
end

/-! ### slices -/
theorem ixS_eq (m e : Nat) (o : Option Int) : HT.sIx m e o = ixS m e o := by
  cases o <;> rfl
theorem cutV_reps {K : PySem.W.Frag} {F : Hp} {vs : List V} {xs : List P} (r : Reps K F vs xs) (l h : Option Int) : Reps K F (cutV vs l h) (cutL xs l h) := by
  unfold cutV cutL
  rw [r.length]
  exact (r.drop _).take _
def rSl (K : PySem.W.Frag) : V → Option Int → Option Int → Hp → VK → Prop := fun x lo hi H Q => ∃ F p z, Sub F H ∧ Pk K F H x p ∧ slcP p lo hi = some z ∧ Give K F H z Q
section
variable {X : Cx}
theorem l_sl : SlR X (rSl X.K) := by
  intro pz s sg H x v vl vu lo hi sl Q I rx hs pl pu h
  obtain ⟨F, p, z, sf, hp, e, g⟩ := h
  cases p with
  | lst xs =>
    cases e
    obtain ⟨a, vs, rfl, ha, ra⟩ := hp.lst_inv sf
    exact sl_list pz s sg H _ v vl vu lo hi sl Q I rx hs pl pu ⟨a, vs, rfl, .of ha, fun p n => g.lst sf p _ n (cutV_reps ra lo hi)⟩
  | tup xs =>
    cases e
    obtain ⟨a, vs, e1, ha, ra⟩ := hp.tup_inv sf
    have hp' : Rep X.K F x (.tup xs) := hp.other (fun _ z => nomatch z) (fun _ z => nomatch z)
    subst e1
    refine sl_tupA pz s sg H _ v vl vu lo hi sl Q I rx hs pl pu ⟨a, vs, rfl, ha, fun hw => ?_, fun _ p n => g.tup sf n (cutV_reps ra lo hi)⟩
    have e2 : cutL xs lo hi = xs := by
      unfold cutL
      rw [ra.length, ixS_eq, ixS_eq] at hw
      rw [hw.1, hw.2, List.drop_zero]
      (exact List.take_of_length_le (Nat.le_refl _))
    rw [e2] at g
    exact g.here sf hp'
  | str w =>
    have e : (if w.cps.size ≤ lenMost then some (P.str ⟨(cutL w.cps.toList lo hi).toArray⟩) else none) = some z := e
    split at e
    · rename_i hl
      cases e
      exact sl_str pz s sg H x v vl vu lo hi sl Q I rx hs pl pu ⟨w, hp.str_inv, lenMost_lt hl, g.here sf (.str _)⟩
    · cases e
  | _ => cases e

/-! ### isinstance -/
def tyN : Ty → String
  | .int => "int"
  | .bool => "bool"
  | .str => "str"
  | .tup => "tuple"
  | .lst => "list"
  | .dct => "dict"
/-- the name of the type of a datum -/
def tyP : P → String
  | .non => "NoneType"
  | .bl _ => "bool"
  | .int _ => "int"
  | .str _ => "str"
  | .tup _ => "tuple"
  | .lst _ => "list"
  | .scr _ => "list"
  | .dct _ => "dict"
  | .ins _ _ => ""
theorem ty_ok {F H : Hp} {K : PySem.W.Frag} {v : V} {p : P} (sf : Sub F H) (h : Pk K F H v p) : TyX K H v (.type (tyP p)) := by
  cases p with
  | non => rw [h.non_inv]; exact .base .non
  | bl b => rw [h.bl_inv]; exact .base (.bl b)
  | int i => rw [h.int_inv]; exact .base (.int i)
  | str x => rw [h.str_inv]; exact .base (.str x)
  | tup xs =>
    obtain ⟨a, vs, rfl, ha, _⟩ := h.tup_inv sf
    rcases ha with (ha | ⟨o, ha⟩) | ⟨o, its, n, hk, hc, _⟩
    · exact .base (.tup ha)
    · exact .fTuple ha
    · exact .kTuple hk hc
  | lst xs =>
    obtain ⟨a, vs, rfl, ha, _⟩ := h.lst_inv sf
    exact .base (.lst ha)
  | scr xs =>
    obtain ⟨a, vs, rfl, ha, _⟩ := h.scr_inv sf
    rcases ha with (ha | ⟨o, ha⟩) | ⟨o, its, n, hk, hc, _⟩
    · exact .base (.lst ha)
    · exact .base (.frz ha)
    · exact .kList hk hc
  | dct xs =>
    obtain ⟨a, vs, rfl, ha, _⟩ := h.dct_inv sf
    exact .base (.dK ha)
  | ins c fs =>
    rcases h with h | ⟨a, ho, e, _, h | h⟩
    · cases h
    · obtain ⟨vs, xs, h, _⟩ := h
      cases h
    · obtain ⟨vs, xs, h, _⟩ := h
      cases h
def isTyS : Ty → String → Bool
  | .int, T => T == "int" || T == "bool"
  | .bool, T => T == "bool"
  | .str, T => T == "str"
  | .tup, T => T == "tuple"
  | .lst, T => T == "list"
  | .dct, T => T == "dict"
theorem isTyS_eq (t : Ty) (p : P) : isTy t p = isTyS t (tyP p) := by
  cases t <;> cases p <;> rfl
theorem kit_all (t : Ty) : (["NoneType", "bool", "int", "str", "tuple", "list", "dict"].all fun T => kitB T (tyN t) == some (isTyS t T)) = true := by
  cases t <;> decide +kernel
theorem kit_ok (K : PySem.W.Frag) (p : P) (hp : ∀ c fs, p ≠ .ins c fs) (t : Ty) : PySem.W.kitOne K (.type (tyP p)) (.type (tyN t)) = some (isTy t p) := by
  refine kit_ty ?_
  rw [isTyS_eq]
  have h := List.all_eq_true.mp (kit_all t) (tyP p) (by cases p <;> first | exact absurd rfl (hp _ _) | (simp only [tyP, List.mem_cons, List.mem_nil_iff]; simp))
  exact beq_iff_eq.mp h
/-- isinstance(x, T) -/
def rIs1 (K : PySem.W.Frag) : List V → Hp → VK → Prop := fun xs H Q => ∃ F x p t, xs = [x, .ty (tyN t)] ∧ Sub F H ∧ Pk K F H x p ∧ (∀ c fs, p ≠ .ins c fs) ∧ Q (.bl (isTy t p)) H
theorem b_is1 : CallR X (.builtin "isinstance") (rIs1 X.K) := by
  intro pz s sg H xs us Q I r h
  obtain ⟨F, x, p, t, rfl, sf, hp, hi, q⟩ := h
  exact call_isi pz s sg H _ us Q I r ⟨x, _, _, _, _, rfl, .ty _, ty_ok sf hp, kit_ok X.K p hi t, q⟩
theorem kit_many (K : PySem.W.Frag) (p : P) (hp : ∀ c fs, p ≠ .ins c fs) : ∀ ts : List Ty, PySem.W.kitAny K (.type (tyP p)) (ts.map fun t => .type (tyN t)) = some (ts.any fun t => isTy t p)
  | [] => rfl
  | t :: ts => by
    show (match PySem.W.kitOne K (.type (tyP p)) (.type (tyN t)) with | some true => some true | some false => PySem.W.kitAny K (.type (tyP p)) (ts.map fun t => .type (tyN t)) | none => none) = some (isTy t p || ts.any fun t => isTy t p)
    rw [kit_ok K p hp t, kit_many K p hp ts]
    cases isTy t p <;> rfl
/-- isinstance(x, (T, ..)) -/
def rIsN (K : PySem.W.Frag) : List V → Hp → VK → Prop := fun xs H Q => ∃ (F : Hp) (x : V) (tp : Addr) (p : P) (ts : List Ty), xs = [x, .ref tp] ∧ H tp = some (.tup (ts.map fun t => .ty (tyN t))) ∧ Sub F H ∧ Pk K F H x p ∧ (∀ c fs, p ≠ .ins c fs) ∧ Q (.bl (ts.any fun t => isTy t p)) H
theorem cls_paired : ∀ ts : List Ty, Paired ClsV (ts.map fun t => V.ty (tyN t)) (ts.map fun t => Value.type (tyN t))
  | [] => .nil
  | t :: ts => .cons (.ty _) (cls_paired ts)
theorem b_isN : CallR X (.builtin "isinstance") (rIsN X.K) := by
  intro pz s sg H xs us Q I r h
  obtain ⟨F, x, tp, p, ts, rfl, ht, sf, hp, hi, q⟩ := h
  exact call_isiT pz s sg H _ us Q I r ⟨x, tp, _, _, _, _, rfl, ht, cls_paired ts, ty_ok sf hp, kit_many X.K p hi ts, q⟩
end

/-! ### sorted -/
mutual
theorem alk_py : ∀ p q : P, p.flat = true → q.flat = true → PySem.W.alike p.py q.py = p.alk q
  | .non, q, _, hq => by cases q <;> first | rfl | cases hq
  | .bl a, q, _, hq => by cases q <;> first | rfl | cases hq
  | .int i, q, _, hq => by cases q <;> first | rfl | cases hq
  | .str x, q, _, hq => by cases q <;> first | rfl | cases hq
  | .lst xs, q, hp, hq => by
    cases q with
    | lst ys => exact alks_py xs ys hp hq
    | dct _ => cases hq
    | ins _ _ => cases hq
    | scr _ => cases hq
    | _ => rfl
  | .tup xs, q, hp, hq => by
    cases q with
    | tup ys => exact alks_py xs ys hp hq
    | dct _ => cases hq
    | ins _ _ => cases hq
    | scr _ => cases hq
    | _ => rfl
theorem alks_py : ∀ xs ys : List P, P.flats xs = true → P.flats ys = true → PySem.W.alikeAll (P.pys xs) (P.pys ys) = P.alks xs ys
  | [], ys, _, _ => by cases ys <;> rfl
  | x :: xs, [], _, _ => rfl
  | x :: xs, y :: ys, hx, hy => by
    have h1 : x.flat = true ∧ P.flats xs = true := by simpa [P.flats] using hx
    have h2 : y.flat = true ∧ P.flats ys = true := by simpa [P.flats] using hy
    show (PySem.W.alike x.py y.py && PySem.W.alikeAll (P.pys xs) (P.pys ys)) = (x.alk y && P.alks xs ys)
    rw [alk_py x y h1.1 h2.1, alks_py xs ys h1.2 h2.2]
end
theorem dataLt_same (d : PyData) : PySem.W.dataLt d d = false := lex_irrefl _
mutual
theorem ltv_py : ∀ p q : P, p.flat = true → q.flat = true → p.alk q = true → PySem.W.dataLt p.py q.py = p.ltv q
  | .non, q, _, hq, ha => by
    cases q with
    | non => exact dataLt_same _
    | _ => cases ha
  | .bl a, q, _, hq, ha => by
    cases q with
    | bl b => exact (PySem.W.dataLt_bool a b).trans (by cases a <;> cases b <;> rfl)
    | _ => cases ha
  | .int i, q, _, hq, ha => by
    cases q with
    | int j => exact PySem.W.dataLt_int i j
    | _ => cases ha
  | .str x, q, _, hq, ha => by
    cases q with
    | str y => exact PySem.W.dataLt_str x y
    | _ => cases ha
  | .lst xs, q, hp, hq, ha => by
    cases q with
    | lst ys => exact (PySem.W.dataLt_list _ _).trans (ltvs_py xs ys hp hq ha)
    | _ => cases ha
  | .tup xs, q, hp, hq, ha => by
    cases q with
    | tup ys => exact (PySem.W.dataLt_tuple _ _).trans (ltvs_py xs ys hp hq ha)
    | _ => cases ha
  | .dct _, _, hp, _, _ => by cases hp
  | .ins _ _, _, hp, _, _ => by cases hp
  | .scr _, _, hp, _, _ => by cases hp
theorem ltvs_py : ∀ xs ys : List P, P.flats xs = true → P.flats ys = true → P.alks xs ys = true → PyProof.Rows.lexLt itemOrd (PySem.W.keyToksAll (P.pys xs)) (PySem.W.keyToksAll (P.pys ys)) = P.ltvs xs ys
  | [], [], _, _, _ => dataLt_same (.list [])
  | [], y :: ys, _, _, _ => by
    show PyProof.Rows.lexLt itemOrd (PySem.W.keyToksAll []) (PySem.W.keyToksAll (y.py :: P.pys ys)) = true
    rw [PySem.W.toks_all_cons]
    rfl
  | x :: xs, [], _, _, _ => by
    show PyProof.Rows.lexLt itemOrd (PySem.W.keyToksAll (x.py :: P.pys xs)) (PySem.W.keyToksAll []) = false
    rw [PySem.W.toks_all_cons]
    rfl
  | x :: xs, y :: ys, hx, hy, ha => by
    have h1 : x.flat = true ∧ P.flats xs = true := by simpa [P.flats] using hx
    have h2 : y.flat = true ∧ P.flats ys = true := by simpa [P.flats] using hy
    have h3 : x.alk y = true ∧ P.alks xs ys = true := by simpa [P.alks] using ha
    show PyProof.Rows.lexLt itemOrd (PySem.W.keyToksAll (x.py :: P.pys xs)) (PySem.W.keyToksAll (y.py :: P.pys ys)) = (if x.eqv y then P.ltvs xs ys else x.ltv y)
    have hal : PySem.W.alike x.py y.py = true := (alk_py x y h1.1 h2.1).trans h3.1
    rw [PySem.W.dataLt_cons hal, eqv_py x y h1.1 h2.1, ltvs_py xs ys h1.2 h2.2 h3.2, ltv_py x y h1.1 h2.1 h3.1]
end
structure SortOk (xs : List P) : Prop where
  alk : ∀ x ∈ xs, ∀ y ∈ xs, x.alk y = true
  kind : (∀ x ∈ xs, isTupC x = true) ∨ ∀ x ∈ xs, isPlainKey x = true
  flat : ∀ x ∈ xs, x.flat = true
  depth : ∀ x ∈ xs, x.depth ≤ depthMost
  len : xs.length ≤ lenMost
theorem sortOk_of {xs : List P} (h : canSort xs = true) : SortOk xs := by
  unfold canSort at h
  simp only [Bool.and_eq_true, Bool.or_eq_true, List.all_eq_true, decide_eq_true_eq] at h
  (obtain ⟨⟨⟨h1, h2⟩, h3⟩, h4⟩ := h)
  exact ⟨h1, h2, fun x hx => (h3 x hx).1, fun x hx => (h3 x hx).2, h4⟩
theorem SortOk.allAlike {xs : List P} (h : SortOk xs) : PySem.W.AllAlike (xs.map P.py) := by
  intro d hd d' hd'
  obtain ⟨x, hx, rfl⟩ := List.mem_map.mp hd
  obtain ⟨y, hy, rfl⟩ := List.mem_map.mp hd'
  rw [alk_py x y (h.flat x hx) (h.flat y hy)]
  exact h.alk x hx y hy
theorem SortOk.sortable {xs : List P} (h : SortOk xs) : PySem.W.Sortable (xs.map P.py) := by
  rcases h.kind with k | k
  · refine .inl fun d hd => ?_
    obtain ⟨x, hx, rfl⟩ := List.mem_map.mp hd
    have := k x hx
    cases x with
    | tup ys =>
      cases ys with
      | nil => cases this
      | cons y ys => exact ⟨y.py, P.pys ys, rfl⟩
    | _ => cases this
  · refine .inr fun d hd => ?_
    obtain ⟨x, hx, rfl⟩ := List.mem_map.mp hd
    have := k x hx
    cases x with
    | bl _ => exact ⟨fun z => (by cases z), fun _ z => (by cases z)⟩
    | int _ => exact ⟨fun z => (by cases z), fun _ z => (by cases z)⟩
    | str _ => exact ⟨fun z => (by cases z), fun _ z => (by cases z)⟩
    | lst _ => exact ⟨fun z => (by cases z), fun _ z => (by cases z)⟩
    | _ => cases this
theorem SortOk.sort {xs : List P} (h : SortOk xs) : xs.mergeSort (PySem.W.dataLe false P.py) = sortL xs := by
  unfold sortL
  refine PySem.W.sort_congr fun a ha b hb => ?_
  rw [PySem.W.dataLe_eq]
  show (!PySem.W.dataLt b.py a.py) = !(b.ltv a)
  rw [ltv_py b a (h.flat b hb) (h.flat a ha) (h.alk b hb a ha)]
theorem each_of {K : PySem.W.Frag} {F : Hp} : ∀ {vs : List V} {us : List Value} {xs : List P}, Reps K F vs xs → Vals vs us → PySem.W.EachIs (fun u p => ∃ v, RelV v u ∧ Rep K F v p) us xs
  | _, _, _, .nil, .nil => .nil
  | _, _, _, .cons h t, .cons r s => .cons ⟨_, r, h⟩ (each_of t s)
theorem of_each {K : PySem.W.Frag} {F : Hp} : ∀ {us : List Value} {xs : List P}, PySem.W.EachIs (fun u p => ∃ v, RelV v u ∧ Rep K F v p) us xs → ∃ vs, Vals vs us ∧ Reps K F vs xs
  | _, _, .nil => ⟨[], .nil, .nil⟩
  | _, _, .cons ⟨v, r, h⟩ t => let ⟨vs, h1, h2⟩ := of_each t; ⟨v :: vs, .cons r h1, .cons h h2⟩
theorem each_and {α β : Type} {R S : α → β → Prop} : ∀ {as : List α} {bs : List β}, PySem.W.EachIs R as bs → (∀ a b, b ∈ bs → R a b → S a b) → PySem.W.EachIs S as bs
  | _, _, .nil, _ => .nil
  | _, _, .cons h t, f => .cons (f _ _ List.mem_cons_self h) (each_and t fun a b hb => f a b (List.mem_cons_of_mem _ hb))
/-- sorted(xs), xs a list: a new list -/
def rSrt (K : PySem.W.Frag) : List V → Hp → VK → Prop := fun vs H Q => ∃ (F : Hp) (v : V) (xs : List P), vs = [v] ∧ Sub F H ∧ Pk K F H v (.lst xs) ∧ canSort xs = true ∧ GiveL K F H (sortL xs) Q
section
variable {X : Cx}
theorem b_sorted (hu : X.A.units + 64 < cLine) : CallR X (.builtin "sorted") (rSrt X.K) := by
  intro pz s sg H vs us Q I r h
  obtain ⟨F, v, xs, rfl, sf, hp, hc, q⟩ := h
  obtain ⟨a, zs, rfl, ha, ra⟩ := hp.lst_inv sf
  have ok := sortOk_of hc
  obtain ⟨its, rv, hl, hz⟩ := I.list (.of ha)
  rw [Vals.ref1 r]
  have e1 := each_of ra rv
  have e2 : PySem.W.EachIs (fun u p => ∃ as, Reads s.heap u (P.py p) as) its xs := each_and e1 fun u p hm ⟨v, r1, r2⟩ => Dp.reads I p.py v u ((r2.mono sf).dp (ok.flat p hm)) r1
  refine PySem.W.sorted_data hl.isList e1 e2 ok.allAlike ok.sortable (by rw [← ra.length]; exact hz) (fun b hb => ?_) fun out ho eo => ?_
  · rw [depth_py]
    have h1 := ok.depth b hb
    have : depthMost = 60 := rfl
    omega
  · rw [ok.sort] at eo
    obtain ⟨ws, hw1, hw2⟩ := of_each eo
    (obtain ⟨ep, he'⟩ := PyProof.Rows.sortedAll_at s.heap its out.toArray)
    have hlen : ws.length ≤ sizeLine := by
      rw [hw1.length, ho, ← ra.length]
      exact hz
    exact ⟨.ref _, upd H (s.heap.objs.size + 1) (.lst ws), I.laid (t' := s.toks) (fun _ _ => PyProof.Rows.sortedAll_old) (Nat.le_succ _) ⟨hlen, out, ep, hw1, he'⟩, rfl, q _ _ (I.hok.fresh (Nat.le_succ _)) hw2⟩
end

/-! ### built-in functions -/
inductive Pks (K : PySem.W.Frag) (F H : Hp) : List V → List P → Prop
  | nil : Pks K F H [] []
  | cons {v : V} {vs : List V} {p : P} {ps : List P} : Pk K F H v p → Pks K F H vs ps → Pks K F H (v :: vs) (p :: ps)
def rPn (K : PySem.W.Frag) (f : List P → Option P) : List V → Hp → VK → Prop := fun vs H Q => ∃ F ps z, Sub F H ∧ Pks K F H vs ps ∧ f ps = some z ∧ Give K F H z Q
theorem Pks.one {K : PySem.W.Frag} {F H : Hp} {vs : List V} {p : P} (h : Pks K F H vs [p]) : ∃ v, vs = [v] ∧ Pk K F H v p := by
  cases h with
  | cons h t =>
    cases t
    exact ⟨_, rfl, h⟩
theorem Pks.two {K : PySem.W.Frag} {F H : Hp} {vs : List V} {p q : P} (h : Pks K F H vs [p, q]) : ∃ v w, vs = [v, w] ∧ Pk K F H v p ∧ Pk K F H w q := by
  cases h with
  | cons h t =>
    cases t with
    | cons h2 t =>
      cases t
      exact ⟨_, _, rfl, h, h2⟩
theorem bools_of {K : PySem.W.Frag} {F : Hp} : ∀ {vs : List V} {xs : List P} {bs : List Bool}, Reps K F vs xs → boolsP xs = some bs → vs = bs.map V.bl
  | _, _, _, .nil, e => by
    cases e
    rfl
  | _, _, bs, @Reps.cons _ _ v vs d ds h t, e => by
    cases d with
    | bl b =>
      have e' : (boolsP ds).map (b :: ·) = some bs := e
      obtain ⟨cs, e1, rfl⟩ := Option.map_eq_some_iff.mp e'
      rw [h.bl_inv, bools_of t e1]
      rfl
    | _ => cases e
section
variable {X : Cx}
theorem b_len : CallR X (.builtin "len") (rPn X.K (bltP .len)) := by
  intro pz s sg H vs us Q I r h
  obtain ⟨F, ps, z, sf, hp, e, g⟩ := h
  match ps, hp, e with
  | [.str x], hp, e =>
    obtain ⟨v, rfl, hv⟩ := hp.one
    have e : (if x.cps.size ≤ lenMost then some (P.int x.cps.size) else none) = some z := e
    split at e
    · rename_i hl
      cases e
      exact call_len pz s sg H _ us Q I r ⟨v, x.cps.size, rfl, by rw [hv.str_inv]; exact ⟨lenMost_lt hl, rfl⟩, g.here sf (.int _)⟩
    · cases e
  | [.lst xs], hp, e =>
    obtain ⟨v, rfl, hv⟩ := hp.one
    cases e
    obtain ⟨a, zs, rfl, ha, ra⟩ := hv.lst_inv sf
    refine call_len pz s sg H _ us Q I r ⟨_, zs.length, rfl, .inl ⟨zs, .of ha, rfl⟩, ?_⟩
    rw [ra.length]
    exact g.here sf (.int _)
  | [.scr xs], hp, e =>
    obtain ⟨v, rfl, hv⟩ := hp.one
    cases e
    obtain ⟨a, zs, rfl, ha, ra⟩ := hv.scr_inv sf
    refine call_len pz s sg H _ us Q I r ⟨_, zs.length, rfl, .inl ⟨zs, ha, rfl⟩, ?_⟩
    rw [ra.length]
    exact g.here sf (.int _)
  | [.tup xs], hp, e =>
    obtain ⟨v, rfl, hv⟩ := hp.one
    cases e
    obtain ⟨a, zs, rfl, ha, ra⟩ := hv.tup_inv sf
    refine call_len pz s sg H _ us Q I r ⟨_, zs.length, rfl, .inr ⟨zs, ha, rfl⟩, ?_⟩
    rw [ra.length]
    exact g.here sf (.int _)
  | [.dct xs], hp, e =>
    obtain ⟨v, rfl, hv⟩ := hp.one
    cases e
    obtain ⟨a, zs, rfl, ha, ra⟩ := hv.dct_inv sf
    refine call_lenD pz s sg H _ us Q I r ⟨a, zs, rfl, ha, ?_⟩
    rw [ra.length]
    exact g.here sf (.int _)
theorem b_all (hc : X.calm = true) : CallR X (.builtin "all") (rPn X.K (bltP .all)) := by
  intro pz s sg H vs us Q I r h
  obtain ⟨F, ps, z, sf, hp, e, g⟩ := h
  match ps, hp, e with
  | [.lst xs], hp, e =>
    obtain ⟨v, rfl, hv⟩ := hp.one
    have e : (boolsP xs).map (fun bs => P.bl (bs.all id)) = some z := e
    obtain ⟨bs, e1, rfl⟩ := Option.map_eq_some_iff.mp e
    obtain ⟨a, zs, rfl, ha, ra⟩ := hv.lst_inv sf
    refine cr_all hc pz s sg H _ us Q I r ⟨a, bs, rfl, ?_, g.here sf (.bl _)⟩
    rw [← bools_of ra e1]
    exact .of ha
theorem b_any (hc : X.calm = true) : CallR X (.builtin "any") (rPn X.K (bltP .any)) := by
  intro pz s sg H vs us Q I r h
  obtain ⟨F, ps, z, sf, hp, e, g⟩ := h
  match ps, hp, e with
  | [.lst xs], hp, e =>
    obtain ⟨v, rfl, hv⟩ := hp.one
    have e : (boolsP xs).map (fun bs => P.bl (bs.any id)) = some z := e
    obtain ⟨bs, e1, rfl⟩ := Option.map_eq_some_iff.mp e
    obtain ⟨a, zs, rfl, ha, ra⟩ := hv.lst_inv sf
    refine cr_any hc pz s sg H _ us Q I r ⟨a, bs, rfl, ?_, g.here sf (.bl _)⟩
    rw [← bools_of ra e1]
    exact .of ha
theorem b_abs : CallR X (.builtin "abs") (rPn X.K (bltP .abs)) := by
  intro pz s sg H vs us Q I r h
  obtain ⟨F, ps, z, sf, hp, e, g⟩ := h
  match ps, hp, e with
  | [.int i], hp, e =>
    obtain ⟨v, rfl, hv⟩ := hp.one
    cases e
    exact call_abs pz s sg H _ us Q I r ⟨i, by rw [hv.int_inv], g.here sf (.int _)⟩
theorem b_int : CallR X (.type "int") (rPn X.K (bltP .int)) := by
  intro pz s sg H vs us Q I r h
  obtain ⟨F, ps, z, sf, hp, e, g⟩ := h
  match ps, hp, e with
  | [.int i], hp, e =>
    obtain ⟨v, rfl, hv⟩ := hp.one
    cases e
    exact call_int1 pz s sg H _ us Q I r (.inl ⟨i, by rw [hv.int_inv], g.here sf (.int _)⟩)
  | [.bl b], hp, e =>
    obtain ⟨v, rfl, hv⟩ := hp.one
    cases e
    exact call_int1 pz s sg H _ us Q I r (.inr ⟨b, by rw [hv.bl_inv], g.here sf (.int _)⟩)
theorem b_bool : CallR X (.type "bool") (rPn X.K (bltP .bool)) := by
  intro pz s sg H vs us Q I r h
  obtain ⟨F, ps, z, sf, hp, e, g⟩ := h
  match ps, hp, e with
  | [.int i], hp, e =>
    obtain ⟨v, rfl, hv⟩ := hp.one
    cases e
    exact call_bool1 pz s sg H _ us Q I r (.inl ⟨i, by rw [hv.int_inv], g.here sf (.bl _)⟩)
  | [.bl b], hp, e =>
    obtain ⟨v, rfl, hv⟩ := hp.one
    cases e
    exact call_bool1 pz s sg H _ us Q I r (.inr ⟨b, by rw [hv.bl_inv], g.here sf (.bl _)⟩)
theorem b_min2 (hc : X.calm = true) : CallR X (.builtin "min") (rPn X.K (bltP .min2)) := by
  intro pz s sg H vs us Q I r h
  obtain ⟨F, ps, z, sf, hp, e, g⟩ := h
  match ps, hp, e with
  | [.int i, .int j], hp, e =>
    obtain ⟨v, w, rfl, hv, hq⟩ := hp.two
    cases e
    exact call_min2 hc pz s sg H _ us Q I r ⟨i, j, by rw [hv.int_inv, hq.int_inv], g.here sf (.int _)⟩
theorem b_max2 (hc : X.calm = true) : CallR X (.builtin "max") (rPn X.K (bltP .max2)) := by
  intro pz s sg H vs us Q I r h
  obtain ⟨F, ps, z, sf, hp, e, g⟩ := h
  match ps, hp, e with
  | [.int i, .int j], hp, e =>
    obtain ⟨v, w, rfl, hv, hq⟩ := hp.two
    cases e
    exact call_max2 hc pz s sg H _ us Q I r ⟨i, j, by rw [hv.int_inv, hq.int_inv], g.here sf (.int _)⟩
theorem b_str : CallR X (.type "str") (rPn X.K (bltP .str)) := by
  intro pz s sg H vs us Q I r h
  obtain ⟨F, ps, z, sf, hp, e, g⟩ := h
  match ps, hp, e with
  | [.int i], hp, e =>
    obtain ⟨v, rfl, hv⟩ := hp.one
    have e : (if i.natAbs.log2 < 1920 then some (P.str (PySem.Str.ofString (toString i))) else none) = some z := e
    split at e
    · rename_i hl
      cases e
      exact call_str_int pz s sg H _ us Q I r ⟨i, by rw [hv.int_inv], hl, g.here sf (.str _)⟩
    · cases e
  | [.bl b], hp, e =>
    obtain ⟨v, rfl, hv⟩ := hp.one
    have e : some (P.str (PySem.Str.ofString (if b then "True" else "False"))) = some z := e
    cases e
    obtain rfl := hv.bl_inv
    obtain ⟨u, rfl, r1⟩ := vals1 r
    cases r1
    cases b with
    | true => exact PySem.P.str_of_bool ⟨.str _, H, I.tok _, ⟨_, rfl⟩, g.here sf (.str _)⟩
    | false => exact PySem.P.str_of_bool ⟨.str _, H, I.tok _, ⟨_, rfl⟩, g.here sf (.str _)⟩
theorem b_tup : CallR X (.type "tuple") (rPn X.K (bltP .tup)) := by
  intro pz s sg H vs us Q I r h
  obtain ⟨F, ps, z, sf, hp, e, g⟩ := h
  match ps, hp, e with
  | [.lst xs], hp, e =>
    obtain ⟨v, rfl, hv⟩ := hp.one
    cases e
    obtain ⟨a, zs, rfl, ha, ra⟩ := hv.lst_inv sf
    exact call_tuple_of pz s sg H _ us Q I r ⟨a, zs, rfl, .inl ⟨.of ha, fun p n => g.tup sf n ra⟩⟩
  | [.tup xs], hp, e =>
    obtain ⟨v, rfl, hv⟩ := hp.one
    cases e
    have hp' : Rep X.K F v (.tup xs) := hv.other (fun _ z => nomatch z) (fun _ z => nomatch z)
    obtain ⟨a, zs, rfl, ha, ra⟩ := hv.tup_inv sf
    exact call_tuple_of pz s sg H _ us Q I r ⟨a, zs, rfl, .inr ⟨ha, g.here sf hp'⟩⟩
/-- list(x): a new list -/
def rLst (K : PySem.W.Frag) : List V → Hp → VK → Prop := fun vs H Q => ∃ (F : Hp) (v : V) (xs : List P) (p : P), vs = [v] ∧ Sub F H ∧ Pk K F H v p ∧ (p = .lst xs ∨ p = .tup xs) ∧ GiveL K F H xs Q
theorem b_lst : CallR X (.type "list") (rLst X.K) := by
  intro pz s sg H vs us Q I r h
  obtain ⟨F, v, xs, p, rfl, sf, hp, e, g⟩ := h
  rcases e with rfl | rfl
  · obtain ⟨a, zs, rfl, ha, ra⟩ := hp.lst_inv sf
    exact call_list_of pz s sg H _ us Q I r ⟨a, zs, rfl, .inl (.of ha), fun p n => g p _ n ra⟩
  · obtain ⟨a, zs, rfl, ha, ra⟩ := hp.tup_inv sf
    exact call_list_of pz s sg H _ us Q I r ⟨a, zs, rfl, .inr ha, fun p n => g p _ n ra⟩
end

/-! ### methods of built-in types; stores to lists and dicts -/
theorem Reps.zero {K : PySem.W.Frag} {F : Hp} {vs : List V} (h : Reps K F vs []) : vs = [] := by
  cases h
  rfl
theorem Reps.one {K : PySem.W.Frag} {F : Hp} {vs : List V} {p : P} (h : Reps K F vs [p]) : ∃ v, vs = [v] ∧ Rep K F v p := by
  cases h with
  | cons h t =>
    cases t
    exact ⟨_, rfl, h⟩
theorem Reps.two {K : PySem.W.Frag} {F : Hp} {vs : List V} {p q : P} (h : Reps K F vs [p, q]) : ∃ v w, vs = [v, w] ∧ Rep K F v p ∧ Rep K F w q := by
  cases h with
  | cons h t =>
    cases t with
    | cons h2 t =>
      cases t
      exact ⟨_, _, rfl, h, h2⟩
theorem Rep.key {F : Hp} {K : PySem.W.Frag} {v : V} {k : Key} (h : Rep K F v (keyP k)) : v = kV k := by
  cases k with
  | inl i => exact h.int_inv
  | inr x => exact h.str_inv
/-- a method that changes nothing -/
def rMt (K : PySem.W.Frag) (m : Mth) : V → List V → Hp → VK → Prop := fun x vs H Q => ∃ F p ps z, Sub F H ∧ Pk K F H x p ∧ Reps K F vs ps ∧ mthP m p ps = some z ∧ Give K F H z Q
/-- one that changes a cell -/
def rMc (K : PySem.W.Frag) (m : Mth) : V → List V → Hp → VK → Prop := fun x vs H Q => ∃ (F : Hp) (l : Addr) (ho : HO) (c : Cell) (ps : List P) (r : P × Cell), x = .ref l ∧ Sub F H ∧ H l = some ho ∧ CellOk K F ho c ∧ Reps K F vs ps ∧ mthC m c ps = some r ∧
  ∀ v ho', CellOk K F ho' r.2 → Rep K F v r.1 → Q v (upd H l ho')
theorem RepK.any {K : PySem.W.Frag} {F : Hp} {k : Key} : ∀ {vs : List (Key × V)} {ps : List (P × P)}, RepK K F vs ps → (ps.any fun e => e.1.eqv (keyP k)) = vs.any fun kv => decide (kv.1 = k)
  | _, _, .nil => rfl
  | _, _, @RepK.cons _ _ k' v vs d ds h t => by
    show ((keyP k').eqv (keyP k) || ds.any fun e => e.1.eqv (keyP k)) = (decide (k' = k) || vs.any fun kv => decide (kv.1 = k))
    rw [eqv_key, RepK.any t]
theorem RepK.map {K : PySem.W.Frag} {F : Hp} {k : Key} {v : V} {p : P} (hv : Rep K F v p) : ∀ {vs : List (Key × V)} {ps : List (P × P)}, RepK K F vs ps → RepK K F (vs.map fun kv => if kv.1 = k then (kv.1, v) else kv) (ps.map fun e => if e.1.eqv (keyP k) then (e.1, p) else e)
  | _, _, .nil => .nil
  | _, _, @RepK.cons _ _ k' v' vs d ds h t => by
    show RepK K F ((if k' = k then (k', v) else (k', v')) :: _) ((if (keyP k').eqv (keyP k) then (keyP k', p) else (keyP k', d)) :: _)
    rw [eqv_key]
    by_cases e : k' = k
    · rw [if_pos e, if_pos (decide_eq_true e)]
      exact .cons hv (RepK.map hv t)
    · rw [if_neg e, if_neg (by rw [decide_eq_false e]; decide)]
      exact .cons h (RepK.map hv t)
theorem RepK.append {K : PySem.W.Frag} {F : Hp} : ∀ {vs ws : List (Key × V)} {ps qs : List (P × P)}, RepK K F vs ps → RepK K F ws qs → RepK K F (vs ++ ws) (ps ++ qs)
  | _, _, _, _, .nil, r => r
  | _, _, _, _, .cons h t, r => .cons h (RepK.append t r)
theorem RepK.put {K : PySem.W.Frag} {F : Hp} {k : Key} {v : V} {p : P} (hv : Rep K F v p) {vs : List (Key × V)} {ps : List (P × P)} (r : RepK K F vs ps) : RepK K F (putK vs k v) (putKv ps (keyP k) p) := by
  unfold putK putKv
  rw [r.any]
  (by_cases e : (vs.any fun kv => decide (kv.1 = k)) = true)
  · rw [if_pos e, if_pos e]
    exact r.map hv
  · rw [if_neg e, if_neg e]
    exact r.append (.cons hv .nil)
theorem up_eq : upC = up1 := rfl
section
variable {X : Cx}
theorem m_upper : MtR X "str.upper" (rMt X.K .upper) := by
  intro pz s sg H x xs v us Q I rx rs h
  obtain ⟨F, p, ps, z, sf, hp, hs, e, g⟩ := h
  match p, ps, hp, hs, e with
  | .str a, [], hp, hs, e =>
    have e : (if a.cps.size ≤ lenMost ∧ (a.cps.toList.all fun c => decide (c < 128)) = true then some (P.str ⟨a.cps.map upC⟩) else none) = some z := e
    split at e
    · rename_i hl
      cases e
      refine mt_upper pz s sg H x xs v us Q I rx rs ⟨a, hp.str_inv, hs.zero, Nat.le_trans hl.1 (by decide), ?_⟩
      rw [upper_ascii fun c hc => of_decide_eq_true (List.all_eq_true.mp hl.2 c hc)]
      exact g.here sf (.str _)
    · cases e
theorem m_get2 (hu : X.A.units + 64 < cLine) : MtR X "dict.get" (rMt X.K .get2) := by
  intro pz s sg H x xs v us Q I rx rs h
  obtain ⟨F, p, ps, z, sf, hp, hs, e, g⟩ := h
  match p, ps, hp, hs, e with
  | .dct kvs, [k, d], hp, hs, e =>
    obtain ⟨w1, w2, rfl, h1, h2⟩ := hs.two
    have e : (if keyOk k then some ((Fy.look kvs k).getD d) else none) = some z := e
    split at e
    · rename_i hc
      cases e
      obtain ⟨kk, rfl⟩ := keyOk_inv hc
      obtain ⟨a, vs, rfl, ha, ra⟩ := hp.dct_inv sf
      have hx := h1.key
      subst hx
      cases rx
      cases rs with
      | cons r1 rs =>
        cases rs with
        | cons r2 rs =>
          cases rs
          refine d_get2 (by omega) I (DGet.k (k := kk) ha) r1 r2 fun w' s' I' rw' => ⟨_, H, I', rw', ?_⟩
          rcases ra.look (k := kk) with ⟨e1, e2⟩ | ⟨p, v, e1, e2, e3⟩
          · rw [e1] at g
            rw [e2]
            have g : Give X.K F H d Q := g
            show Q w2 H
            exact g.here sf h2
          · rw [e1] at g
            rw [e2]
            exact g.here sf e3
    · cases e
theorem m_append : MtR X "list.append" (rMc X.K .append) := by
  intro pz s sg H x xs v us Q I rx rs h
  obtain ⟨F, l, ho, c, ps, r, rfl, sf, hl, ok, hs, e, g⟩ := h
  match c, ps, ok, hs, e with
  | .lst ys, [p], ok, hs, e =>
    obtain ⟨vs, rfl, ra⟩ := ok
    obtain ⟨w, rfl, hw⟩ := hs.one
    have e : (if ys.length < lenMost then some (P.non, Cell.lst (ys ++ [p])) else none) = some r := e
    split at e
    · rename_i hc
      cases e
      exact mt_append pz s sg H _ _ v us Q I rx rs ⟨l, vs, w, rfl, rfl, hl, by rw [ra.length]; exact lenMost_lt' hc, g _ _ ⟨_, rfl, ra.append (.cons hw .nil)⟩ .non⟩
    · cases e
theorem m_pop1 : MtR X "list.pop" (rMc X.K .pop1) := by
  intro pz s sg H x xs v us Q I rx rs h
  obtain ⟨F, l, ho, c, ps, r, rfl, sf, hl, ok, hs, e, g⟩ := h
  match c, ps, ok, hs, e with
  | .lst ys, [.int i], ok, hs, e =>
    obtain ⟨vs, rfl, ra⟩ := ok
    obtain ⟨w, rfl, hw⟩ := hs.one
    have e : (if 0 ≤ i ∧ i.toNat < ys.length then (ys[i.toNat]?).map fun p => (p, Cell.lst (ys.eraseIdx i.toNat)) else none) = some r := e
    split at e
    · rename_i hc
      obtain ⟨p, e1, rfl⟩ := Option.map_eq_some_iff.mp e
      obtain ⟨u, h1, h2⟩ := ra.get e1
      have hz : vs.length ≤ sizeLine := (I.hok l _ hl).1
      have hsz : sizeLine = 16777216 := by decide
      have hln := ra.length
      refine mt_popAt pz s sg H _ _ v us Q I rx rs ⟨l, vs, i, i.toNat, u, rfl, by rw [hw.int_inv], hl, by omega, by omega, PySem.seqIndex_of hc.1 (by omega), h1, g _ _ ⟨_, rfl, ?_⟩ h2⟩
      rw [List.eraseIdx_eq_take_drop_succ, List.eraseIdx_eq_take_drop_succ]
      exact (ra.take _).append (ra.drop _)
    · cases e
theorem m_insert : MtR X "list.insert" (rMc X.K .insert) := by
  intro pz s sg H x xs v us Q I rx rs h
  obtain ⟨F, l, ho, c, ps, r, rfl, sf, hl, ok, hs, e, g⟩ := h
  match c, ps, ok, hs, e with
  | .lst ys, [.int i, p], ok, hs, e =>
    obtain ⟨vs, rfl, ra⟩ := ok
    obtain ⟨w, w2, rfl, hw, hw2⟩ := hs.two
    have e : (if 0 ≤ i ∧ i.toNat ≤ ys.length ∧ ys.length < lenMost then some (P.non, Cell.lst (ys.take i.toNat ++ p :: ys.drop i.toNat)) else none) = some r := e
    split at e
    · rename_i hc
      cases e
      have hlm : lenMost = 100000 := rfl
      refine mt_insert pz s sg H _ _ v us Q I rx rs ⟨l, vs, i, w2, rfl, by rw [hw.int_inv], hl, by rw [ra.length]; exact lenMost_lt' hc.2.2, hc.1, by omega, g _ _ ⟨_, rfl, ?_⟩ .non⟩
      rw [List.append_assoc]
      exact (ra.take _).append (.cons hw2 (ra.drop _))
    · cases e
/-- o[i] = v -/
def tSetP (K : PySem.W.Frag) : V → V → V → Hp → (Hp → Prop) → Prop := fun o i v H Q => ∃ (F : Hp) (l : Addr) (ho : HO) (c c' : Cell) (q p : P), o = .ref l ∧ Sub F H ∧ H l = some ho ∧ CellOk K F ho c ∧ Rep K F i q ∧ Rep K F v p ∧ setC c q p = some c' ∧
  ∀ ho', CellOk K F ho' c' → Q (upd H l ho')
theorem s_set (hu : X.A.units + 64 < cLine) : PSet X (tSetP X.K) := by
  intro pz s sg H o i v ov iv u Q I ro ri rv h
  obtain ⟨F, l, ho, c, c', q, p, rfl, sf, hl, ok, hq, hp, e, g⟩ := h
  cases c with
  | lst ys =>
    obtain ⟨vs, rfl, ra⟩ := ok
    cases q with
    | int j =>
      have e : (if 0 ≤ j ∧ j.toNat < ys.length then some (Cell.lst (ys.set j.toNat p)) else none) = some c' := e
      split at e
      · rename_i hc
        cases e
        refine set_list pz s sg H _ _ _ ov iv u Q I ro ri rv ⟨l, vs, j, j.toNat, rfl, hq.int_inv, hl, ?_, g _ ⟨_, rfl, ra.set hp _⟩⟩
        unfold ixN
        rw [if_pos hc.1, if_pos (by rw [ra.length]; omega)]
      · cases e
    | _ => cases e
  | dct kvs =>
    have e : (if keyOk q && decide (kvs.length < lenMost) then some (Cell.dct (putKv kvs q p)) else none) = some c' := by
      cases q <;> exact e
    split at e
    · rename_i hc
      (rw [Bool.and_eq_true, decide_eq_true_eq] at hc)
      cases e
      obtain ⟨kk, rfl⟩ := keyOk_inv hc.1
      obtain ⟨vs, rfl, ra⟩ := ok
      have hx := hq.key
      subst hx
      cases ro
      exact d_setItem (by omega) I (DPut.k (k := kk) (v := v) hl (by rw [ra.length]; exact lenMost_lt' hc.2)) ri rv fun s' I' => ⟨_, I', g _ ⟨_, rfl, ra.put hp⟩⟩
    · cases e
  | _ => cases q <;> cases e
end
end Fy

/-! Fy3: what is wanted behind a step of our language, as a reading of the hand layer. -/
namespace Fy
open PySem
open PySem.Spec
open PyProof.Rows
open L2

/-- how an exception of ours stands: the class, its own dict -/
abbrev XR := Exn → Value → Option Addr → Hp → Prop
/-- what is wanted behind a step that ran from (F, ρ, st, H) and came to r -/
def Post {α : Type} (K : PySem.W.Frag) (xr : XR) (E : XK) (F : Hp) (ρ : List Addr) (st : Sto) (H : Hp) (r : R α) (Q : α → Hp → List Addr → Sto → Hp → Prop) : Prop :=
  match r with
  | .ok a st' => ∀ F' ρ' H', Rel K F' ρ' st' H' → Step st.length F ρ st H F' ρ' st' H' → Q a F' ρ' st' H'
  | .exc x st' => ∀ F' ρ' H' c d, Rel K F' ρ' st' H' → Step st.length F ρ st H F' ρ' st' H' → xr x c d H' → E c d H'
  | .bad => False
section
variable {α β : Type} {K : PySem.W.Frag} {xr : XR} {E : XK} {F F' F1 : Hp} {ρ ρ' ρ1 : List Addr} {st st' st1 : Sto} {H H' H1 : Hp} {r : R α} {Q Q' : α → Hp → List Addr → Sto → Hp → Prop}
theorem Post.shift (h : Post K xr E F ρ st H r Q) (s : Step st.length F ρ st H F1 ρ1 st1 H1) : Post K xr E F1 ρ1 st1 H1 r Q := by
  cases r with
  | ok a st' => exact fun F' ρ' H' rl s' => h F' ρ' H' rl (s.trans s' s.len)
  | exc x st' => exact fun F' ρ' H' c d rl s' => h F' ρ' H' c d rl (s.trans s' s.len)
  | bad => exact h
theorem Post.imp (h : Post K xr E F ρ st H r Q) (hq : ∀ a F' ρ' st' H', Rel K F' ρ' st' H' → Step st.length F ρ st H F' ρ' st' H' → Q a F' ρ' st' H' → Q' a F' ρ' st' H') : Post K xr E F ρ st H r Q' := by
  cases r with
  | ok a st' => exact fun F' ρ' H' rl s' => hq _ _ _ _ _ rl s' (h F' ρ' H' rl s')
  | exc x st' => exact h
  | bad => exact h
theorem Post.bnd {m : M α} {f : α → M β} {Q : β → Hp → List Addr → Sto → Hp → Prop} (h : Post K xr E F ρ st H (bnd m f st) Q) :
    Post K xr E F ρ st H (m st) fun a F1 ρ1 st1 H1 => Post K xr E F1 ρ1 st1 H1 (f a st1) Q := by
  unfold Fy.bnd at h
  cases e : m st with
  | ok a st1 =>
    rw [e] at h
    exact fun F' ρ' H' rl s => Post.shift h s
  | exc x st1 =>
    rw [e] at h
    exact h
  | bad =>
    rw [e] at h
    exact h
/-- the step is over: nothing more happened -/
theorem Post.ret {a : α} (h : Post K xr E F ρ st H (ret a st) Q) (rl : Rel K F ρ st H) : Q a F ρ st H := h F ρ H rl (.refl (Nat.le_refl _))
theorem Post.lift {o : Option α} (h : Post K xr E F ρ st H (lift o st1) Q) : ∃ a, o = some a ∧ Post K xr E F ρ st H (.ok a st1) Q := by
  unfold Fy.lift at h
  cases o with
  | none => exact h.elim
  | some a => exact ⟨a, rfl, h⟩
theorem Post.okHere {a : α} (h : Post K xr E F ρ st H (.ok a st) Q) (rl : Rel K F ρ st H) : Q a F ρ st H := h F ρ H rl (.refl (Nat.le_refl _))
theorem Post.bndLift {o : Option α} {f : α → M β} {Q : β → Hp → List Addr → Sto → Hp → Prop} (h : Post K xr E F ρ st H (Fy.bnd (Fy.lift o) f st1) Q) : ∃ a, o = some a ∧ Post K xr E F ρ st H (f a st1) Q := by
  unfold Fy.bnd Fy.lift at h
  cases o with
  | none => exact h.elim
  | some a => exact ⟨a, rfl, h⟩
theorem Post.peek {v : V} {x : Sl} {f : P → M β} {Q : β → Hp → List Addr → Sto → Hp → Prop} (h : Post K xr E F ρ st H (Fy.bnd (peek x) f st1) Q) (rl : Rel K F1 ρ1 st1 H1) (rv : RepS K F1 ρ1 st1.length v x) :
    ∃ p, Pk K F1 H1 v p ∧ Post K xr E F ρ st H (f p st1) Q := by
  unfold Fy.bnd at h
  cases e : Fy.peek x st1 with
  | ok p st2 =>
    rw [e] at h
    obtain ⟨rfl, hp⟩ := pk_of rl rv e
    exact ⟨p, hp, h⟩
  | exc y st1 =>
    cases x with
    | val q => cases e
    | ref n =>
      unfold Fy.peek at e
      simp only at e
      split at e <;> cases e
  | bad =>
    rw [e] at h
    exact h.elim
theorem Post.asP {x : Sl} {f : P → M β} {Q : β → Hp → List Addr → Sto → Hp → Prop} (h : Post K xr E F ρ st H (Fy.bnd (asP x) f st1) Q) : ∃ p, x = .val p ∧ Post K xr E F ρ st H (f p st1) Q := by
  cases x with
  | val p => exact ⟨p, rfl, h⟩
  | ref n => exact h.elim
/-- new things on the side -/
theorem Rel.new (rl : Rel K F ρ st H) (n : New F H F' H') : Rel K F' ρ st H' := by
  refine ⟨rl.len, n.fh, fun k c e hl => ?_, rl.inj⟩
  obtain ⟨a, ho, h1, h2, h3, h4⟩ := rl.cell k c e hl
  refine ⟨a, ho, h1, ?_, n.h _ _ h3, h4.mono n.f⟩
  cases q : F' a with
  | none => rfl
  | some o =>
    rcases n.own a (by rw [q]; exact fun z => nomatch z) with z | z
    · exact absurd h2 z
    · rw [h3] at z
      cases z
theorem Step.new (n : New F H F' H') : Step st.length F ρ st H F' ρ st H' := by
  refine ⟨n.f, fun _ _ _ h => h, Nat.le_refl _, fun a o h _ => n.h a o h, fun a h o => ?_, fun a h z => ?_⟩
  · rcases o with o | o
    · rcases n.own a o with z | z
      · exact .inl z
      · exact absurd z h
    · exact .inr o
  · cases q : H a with
    | none => exact h q
    | some o =>
      rw [n.h a o q] at z
      cases z
/-- what is wanted of a value -/
def QV (K : PySem.W.Frag) (Q : VK) : Sl → Hp → List Addr → Sto → Hp → Prop := fun s F ρ st H => ∀ v, RepS K F ρ st.length v s → Q v H
theorem Post.give {p : P} {Q : VK} (h : Post K xr E F ρ st H (.ok (.val p) st) (QV K Q)) (rl : Rel K F ρ st H) : Give K F H p Q := fun v F' H' n r =>
  h F' ρ H' (rl.new n) (.new n) v r
theorem Post.val {p : P} {v : V} {Q : VK} (h : Post K xr E F ρ st H (.ok (.val p) st) (QV K Q)) (rl : Rel K F ρ st H) (r : Rep K F v p) : Q v H := h.okHere rl v r
/-- data that are seen are data where they are known -/
theorem peeks_post {f : List P → M β} {Q : β → Hp → List Addr → Sto → Hp → Prop} (rl : Rel K F ρ st H) : ∀ {ss : List Sl} {vs : List V}, RepSs K F ρ st.length vs ss → ∀ {f : List P → M β}, Post K xr E F ρ st H (Fy.bnd (peeks ss) f st) Q →
    ∃ ps, Pks K F H vs ps ∧ Post K xr E F ρ st H (f ps st) Q
  | _, _, .nil, f, h => ⟨[], .nil, h⟩
  | _, _, @RepSs.cons _ _ _ _ v vs s ss hv hr, f, h => by
    have key : Fy.bnd (peeks (s :: ss)) f st = Fy.bnd (Fy.peek s) (fun p => Fy.bnd (peeks ss) fun ps => f (p :: ps)) st := by
      show Fy.bnd (Fy.bnd (Fy.peek s) fun p => Fy.bnd (peeks ss) fun ps => Fy.ret (p :: ps)) f st = _
      unfold Fy.bnd Fy.ret
      cases Fy.peek s st with
      | ok p t =>
        dsimp only
        cases peeks ss t <;> rfl
      | exc _ _ => rfl
      | bad => rfl
    rw [key] at h
    obtain ⟨p, hp, h⟩ := h.peek rl hv
    obtain ⟨ps, hps, h⟩ := peeks_post rl hr (f := fun ps => f (p :: ps)) h
    exact ⟨p :: ps, .cons hp hps, h⟩
theorem vals_reps : ∀ {ss : List Sl} {vs : List V} {b : Nat} {ps : List P}, RepSs K F ρ b vs ss → vals ss = some ps → Reps K F vs ps
  | _, _, _, _, .nil, e => by
    cases e
    exact .nil
  | _, _, _, ps, @RepSs.cons _ _ _ _ v vs s ss hv hr, e => by
    cases s with
    | val p =>
      have e : (vals ss).map (p :: ·) = some ps := e
      obtain ⟨qs, e1, rfl⟩ := Option.map_eq_some_iff.mp e
      exact .cons hv (vals_reps hr e1)
    | ref n => cases e
end

/-! ### the readings that our language gives -/
section
variable (X : Cx) (xr : XR) (E : L2.St → XK) (C : Ev)
def tE (x : Ex) : TE := fun sg H Q => ∃ env F ρ st, Rel X.K F ρ st H ∧ EnvOk X.K F ρ st.length env sg ∧ Post X.K xr (E sg) F ρ st H (evE C x env st) (QV X.K Q)
def tT (x : Ex) : TT := fun sg H Q => ∃ env F ρ st, Rel X.K F ρ st H ∧ EnvOk X.K F ρ st.length env sg ∧ Post X.K xr (E sg) F ρ st H (bnd (evE C x env) tru st) fun k _ _ _ H' => Q k H'
def tEs (xs : Exs) : TA := fun sg H Q => ∃ env F ρ st, Rel X.K F ρ st H ∧ EnvOk X.K F ρ st.length env sg ∧ Post X.K xr (E sg) F ρ st H (evEs C xs env st) fun ss F' ρ' st' H' => ∀ vs, RepSs X.K F' ρ' st'.length vs ss → Q vs H'
def tOx (x : Ox) : TO := fun sg H Q => ∃ env F ρ st, Rel X.K F ρ st H ∧ EnvOk X.K F ρ st.length env sg ∧ Post X.K xr (E sg) F ρ st H (evO C x env st) fun o _ _ _ H' => Q o H'
def tTs (xs : Exs) : TT := fun sg H Q => ∃ env F ρ st, Rel X.K F ρ st H ∧ EnvOk X.K F ρ st.length env sg ∧ Post X.K xr (E sg) F ρ st H (evTs C xs env st) fun k _ _ _ H' => Q k H'
end
end Fy

/-! Fy4: when an expression of the text is one of our language; small lemmas on the readings. -/
namespace Fy
open PySem
open PySem.Spec
open PyProof.Rows
open L2

/-! ### the text's side -/
/-- what is known where a piece of text stands: its names by slot, the scope, the names whose cells are its own, the defs by number, the constants by number, the built-in names that nobody has stored -/
structure Agr where
  N : List Str
  sc : Scope
  fnl : Str → Bool
  fns : List Str
  gls : List Str
  blts : List Str
def visC (sc : Scope) (x : Str) : Bool :=
  match sc.names.lookup x with
  | some .local => true
  | some .cell => true
  | some .free => true
  | _ => false
def glC (sc : Scope) (x : Str) : Bool :=
  match sc.names.lookup x with
  | some .globalImplicit => true
  | _ => false
/-- a name that may be stored -/
def locC (A : Agr) (x : Str) : Bool :=
  match A.sc.names.lookup x with
  | some .local => true
  | some .cell => A.fnl x
  | _ => false
def okN (x : Str) : Bool := !(x == ("__debug__" : Str)) && !(x == ("__classdict__" : Str)) && !(x == ("__name__" : Str))
def bltC (A : Agr) (x : Str) : Bool := glC A.sc x && okN x && A.blts.contains x
/-- no star, no set display, no slice, no bare super() -/
def plainC : Expr → Bool
  | .Starred .. => false
  | .Set .. => false
  | .Slice .. => false
  | .Call (.Name x _) [] [] _ => !(x == ("super" : Str))
  | _ => true
def cstC : P → Const → Bool
  | .non, .none => true
  | .bl a, .bool b => a == b
  | .int i, .int j => i == j
  | .str x, .str y => decide (x = y)
  | _, _ => false
def opB : Bop → Operator
  | .add => .Add
  | .sub => .Sub
  | .mul => .Mult
  | .fdiv => .FloorDiv
  | .mod => .Mod
  | .pow => .Pow
  | .band => .BitAnd
  | .bor => .BitOr
  | .shl => .LShift
def Bop.known : Bop → Bool
  | .band => false
  | .bor => false
  | .shl => false
  | _ => true
def opC : Cop → CmpOp
  | .eq => .Eq
  | .ne => .NotEq
  | .lt => .Lt
  | .le => .LtE
  | .gt => .Gt
  | .ge => .GtE
  | .is => .Is
  | .isn => .IsNot
  | .mem => .In
  | .nmem => .NotIn
def bltN : Blt → Str
  | .len => "len"
  | .all => "all"
  | .any => "any"
  | .abs => "abs"
  | .int => "int"
  | .min2 => "min"
  | .max2 => "max"
  | .str => "str"
  | .tup => "tuple"
  | .lst => "list"
  | .sorted => "sorted"
  | .sum => "sum"
  | .bool => "bool"
def Blt.known : Blt → Bool
  | .sum => false
  | _ => true
def mthN : Mth → Str
  | .upper => "upper"
  | .get2 => "get"
  | .append => "append"
  | .pop1 => "pop"
  | .insert => "insert"
  | .extend => "extend"
  | .setdefault => "setdefault"
  | .join => "join"
  | .split => "split"
  | .startswith => "startswith"
  | .index => "index"
def Mth.known : Mth → Bool
  | .upper => true
  | .get2 => true
  | .append => true
  | .pop1 => true
  | .insert => true
  | _ => false
def tyC (A : Agr) : List Ty → List Expr → Bool
  | [], es => match es with | [] => true | _ => false
  | t :: ts, es => match es with
    | .Name x _ :: r => decide (x = PySem.Str.ofString (tyN t)) && bltC A x && tyC A ts r
    | _ => false
mutual
def agP (A : Agr) : Pt → Expr → Bool
  | .nm i, e => match e with | .Name x _ => decide (A.N[i]? = some x) && locC A x | _ => false
  | .tp ps, e => match e with | .Tuple es _ _ => agPs A ps es | _ => false
def agPs (A : Agr) : List Pt → List Expr → Bool
  | [], es => match es with | [] => true | _ => false
  | p :: ps, es => match es with | e :: es => agP A p e && agPs A ps es | [] => false
end
def ownS (N : List Str) : List Nat → List (Str × Nat)
  | [] => []
  | i :: is => ((N[i]?).getD Str.empty, i) :: ownS N is
/-- where a comprehension's block stands -/
def Agr.blk (A : Agr) (scope : Scope) : Agr := { A with sc := relS scope A.sc, fnl := fun x => scope.names.lookup x == some .cell }
def isTupE : Expr → Bool
  | .Tuple .. => true
  | _ => false
mutual
def agE (A : Agr) : Ex → Expr → Bool
  | .var i, e => match e with | .Name x _ => decide (A.N[i]? = some x) && visC A.sc x && okN x | _ => false
  | .cst p, e => match e with | .Constant c _ _ => cstC p c | _ => false
  | .glo g, e => match e with | .Name x _ => decide (A.gls[g]? = some x) && glC A.sc x && okN x | _ => false
  | .tup es, e => match e with | .Tuple xs _ _ => agEs A es xs && decide (xs.length ≤ 1000) | _ => false
  | .lst es, e => match e with | .List xs _ => agEs A es xs && decide (xs.length ≤ 1000) | _ => false
  | .bin o a b, e => match e with | .BinOp x op y _ => decide (op = opB o) && o.known && agE A a x && agE A b y | _ => false
  | .neg a, e => match e with | .UnaryOp .USub x _ => agE A a x | _ => false
  | .cmp o a b, e => match e with | .Compare x [op] [y] _ => decide (op = opC o) && agE A a x && agE A b y | _ => false
  | .cmp2 o1 o2 a b c, e => match e with | .Compare x [op1, op2] [y, z] _ => decide (op1 = opC o1) && decide (op2 = opC o2) && agE A a x && agE A b y && agE A c z | _ => false
  | .and a es, e => match e with | .BoolOp .And (x :: xs) _ => agE A a x && agEs A es xs | _ => false
  | .or a es, e => match e with | .BoolOp .Or (x :: xs) _ => agE A a x && agEs A es xs | _ => false
  | .not a, e => match e with | .UnaryOp .Not x _ => agE A a x | _ => false
  | .ife c a b, e => match e with | .IfExp z x y _ => agE A c z && agE A a x && agE A b y | _ => false
  | .idx a i, e => match e with | .Subscript x y _ => agE A a x && agE A i y | _ => false
  | .slc a lo hi, e => match e with | .Subscript x (.Slice l h none _) _ => agE A a x && agO A lo l && agO A hi h | _ => false
  | .rev a, e => match e with | .Subscript x (.Slice none none (some (.UnaryOp .USub (.Constant (.int 1) _ _) _)) _) _ => agE A a x | _ => false
  | .isi a ts many, e => match e with
    | .Call (.Name f _) [x, t] [] _ => decide (f = PySem.Str.ofString "isinstance") && bltC A f && agE A a x && (if many then (match t with | .Tuple es _ _ => tyC A ts es && decide (es.length ≤ 1000) | _ => false) else tyC A ts [t])
    | _ => false
  | .blt b es, e => match e with | .Call (.Name f _) (x :: xs) [] _ => decide (f = bltN b) && b.known && bltC A f && agEs A es (x :: xs) | _ => false
  | .mth m o es, e => match e with
    | .Call (.Attribute x f p1) xs [] p2 => decide (f = mthN m) && m.known && (p1.endLine == p2.line) && agE A o x && agEs A es xs && decide (xs.length ≤ 2)
    | _ => false
  | .cal f es, e => match e with | .Call (.Name x _) xs [] _ => decide (A.fns[f]? = some x) && glC A.sc x && okN x && !(x == ("super" : Str)) && agEs A es xs | _ => false
  | .lcm e own g, ex => match ex with
    | .ListComp x gs scope _ => blkC A.N A.sc scope (ownS A.N own) && agE (A.blk scope) e x && agG A (A.blk scope) g gs && !gs.isEmpty
    | _ => false
  | .dcm k v own g, ex => match ex with
    | .DictComp x y gs scope _ => blkC A.N A.sc scope (ownS A.N own) && agE (A.blk scope) k x && agE (A.blk scope) v y && agG A (A.blk scope) g gs && !gs.isEmpty
    | _ => false
  | .scm e own g, ex => match ex with
    | .Call (.Name f _) [.SetComp x gs scope _] [] _ => decide (f = PySem.Str.ofString "sorted") && bltC A f && blkC A.N A.sc scope (ownS A.N own) && agE (A.blk scope) e x && agG A (A.blk scope) g gs && !gs.isEmpty
    | _ => false
  | .sst a, e => match e with | .Call (.Name f _) [.Call (.Name g _) [x] [] _] [] _ => decide (f = PySem.Str.ofString "sorted") && bltC A f && decide (g = PySem.Str.ofString "set") && bltC A g && agE A a x | _ => false
  | .lsn a, e => match e with | .Call (.Name f _) [.Call (.Name g _) [x] [] _] [] _ => decide (f = PySem.Str.ofString "len") && bltC A f && decide (g = PySem.Str.ofString "set") && bltC A g && agE A a x | _ => false
  | .emp, e => match e with | .Dict [] [] _ => true | _ => false
  | .new e, ex => e.fresh && agE A e ex
def agEs (A : Agr) : Exs → List Expr → Bool
  | .nil, es => match es with | [] => true | _ => false
  | .cons x xs, es => match es with | e :: es => agE A x e && agEs A xs es | [] => false
def agO (A : Agr) : Ox → Option Expr → Bool
  | .no, e => match e with | none => true | _ => false
  | .yes x, e => match e with | some e => agE A x e | none => false
/-- an iterable, for the target t -/
def agI (A : Agr) : It → Expr → Expr → Bool
  | .val a, e, _ => agE A a e
  | .rng1 a, e, _ => match e with | .Call (.Name f _) [x] [] _ => decide (f = PySem.Str.ofString "range") && bltC A f && agE A a x | _ => false
  | .rng2 a b, e, _ => match e with | .Call (.Name f _) [x, y] [] _ => decide (f = PySem.Str.ofString "range") && bltC A f && agE A a x && agE A b y | _ => false
  | .zip a b, e, t => match e with | .Call (.Name f _) [x, y] [] _ => decide (f = PySem.Str.ofString "zip") && bltC A f && agE A a x && agE A b y && isTupE t | _ => false
  | .enm a, e, t => match e with | .Call (.Name f _) [x] [] _ => decide (f = PySem.Str.ofString "enumerate") && bltC A f && agE A a x && isTupE t | _ => false
  | .itm _, _, _ => false
/-- the clauses: the first source stands in A, all else in B -/
def agG (A B : Agr) : Gen → List Comprehension → Bool
  | .nil, cs => match cs with | [] => true | _ => false
  | .cons p i ifs g, cs => match cs with
    | c :: cs => agP B p c.target && agI A i c.iter c.target && agEs B ifs c.ifs && (c.is_async == 0) && agG B B g cs
    | [] => false
end

/-! ### what a plain expression is -/
structure PlainE (e : Expr) : Prop where
  star : ∀ es env, starEach (e :: es) env = (false, eval e env) :: starEach es env
  base : ∀ (m : Str) env, attributeBase e m env (eval e env) = eval e env
  fold : ∀ env x, foldedSetIterable e env x = pure x
  ix : PlainIx e
  mark : ∀ op, behindInMarks op e = false
theorem plain_of {e : Expr} (h : plainC e = true) : PlainE e := by
  cases e with
  | Starred v p => cases h
  | Set es k p => cases h
  | Slice l u s p => cases h
  | Call f as ks p =>
    refine ⟨fun _ _ => rfl, fun m env => ?_, fun _ _ => rfl, fun _ _ => rfl, fun _ => rfl⟩
    cases f with
    | Name x px =>
      cases as with
      | nil =>
        cases ks with
        | nil =>
          have hx : (x == ("super" : Str)) = false := by simpa [plainC] using h
          unfold attributeBase
          simp only [hx, bne, Bool.not_false, Bool.true_or, if_true]
        | cons _ _ => rfl
      | cons _ _ => rfl
    | _ => rfl
  | _ => exact ⟨fun _ _ => rfl, fun _ _ => rfl, fun _ _ => rfl, fun _ _ => rfl, fun _ => rfl⟩
theorem agE_plain (A : Agr) : ∀ (x : Ex) (e : Expr), agE A x e = true → plainC e = true := fun x e h => by
  cases x with
  | new y =>
    have h : (y.fresh && agE A y e) = true := h
    rw [Bool.and_eq_true] at h
    exact agE_plain A y e h.2
  | cal f es =>
    cases e with
    | Call g as ks p =>
      cases g with
      | Name n q =>
        cases as with
        | nil =>
          cases ks with
          | nil =>
            have h : (decide (A.fns[f]? = some n) && glC A.sc n && okN n && !(n == ("super" : Str)) && agEs A es []) = true := h
            (simp only [Bool.and_eq_true] at h)
            exact h.1.2
          | cons _ _ => rfl
        | cons _ _ => rfl
      | _ => rfl
    | Starred _ _ => cases h
    | Set _ _ _ => cases h
    | Slice _ _ _ _ => cases h
    | _ => rfl
  | _ =>
    cases e with
    | Call g as ks p =>
      cases g with
      | Name n q =>
        cases as with
        | nil =>
          cases ks with
          | nil => cases h
          | cons _ _ => rfl
        | cons _ _ => rfl
      | _ => rfl
    | Starred _ _ => cases h
    | Set _ _ _ => cases h
    | Slice _ _ _ _ => cases h
    | _ => rfl
end Fy

/-! Fy5: one construct after another: the text's step does what our language says. -/
namespace Fy
open PySem
open PySem.Spec
open PyProof.Rows
open L2

/-- what a def promises: what our language's run gives -/
def spec (K : PySem.W.Frag) (xr : XR) (T : Tab) (k i : Nat) : Sp := fun vs H Q E =>
  vs.length = ((T.fns[i]?).map (·.np)).getD 0 ∧ ∃ F ρ st ss, Rel K F ρ st H ∧ RepSs K F ρ st.length vs ss ∧ Post K xr E F ρ st H (run T k i ss st) (QV K Q)

/-- the place in the text and the context fit -/
structure XOk (xr : XR) (T : Tab) (fa : Nat → Addr) (fd : Nat → FuncData) (ps : Nat → List Str) (k : Nat) (A : Agr) (E : L2.St → XK) (X : Cx) : Prop where
  N : X.N = A.N
  nd : A.N.Nodup
  sc : X.env.scope = A.sc
  fn : ∀ x, A.fnl x = true → X.fn x = true
  calm : X.calm = true
  room : Room k X.A
  tk : Takes X (fun c d sg H => E sg c d H)
  blt : ∀ x ∈ A.blts, X.mg x = none
  fns : ∀ (i : Nat) (x : Str), A.fns[i]? = some x → X.mg x = some (.ref (fa i)) ∧ PySem.W.keepIn X.K (.ref (fa i)) = true ∧ Binds X.K (fd i) (ps i) [] ∧ FnOk X.prog X.w X.K X.mg X.base (L2.CX X.prog X.w) k (fa i) (fd i) (ps i) (spec X.K xr T k i)
  gls : ∀ (i : Nat) (x : Str) (p : P), A.gls[i]? = some x → T.glo[i]? = some p → ∃ u v, X.mg x = some u ∧ RelV v u ∧ ∀ F, Rep X.K F v p

theorem bnd_inv {α β : Type} {m : M α} {f : α → M β} {st t : Sto} {b : β} (e : bnd m f st = .ok b t) : ∃ a st1, m st = .ok a st1 ∧ f a st1 = .ok b t := by
  unfold bnd at e
  split at e
  · exact ⟨_, _, by assumption, e⟩
  · cases e
  · cases e
theorem lift_inv {α : Type} {o : Option α} {st t : Sto} {a : α} (e : lift o st = .ok a t) : o = some a ∧ t = st := by
  unfold lift at e
  split at e
  · cases e
    exact ⟨rfl, rfl⟩
  · cases e
theorem PE.imp {X : Cx} {e : Expr} {t t' : TE} (h : PE X e t) (hi : ∀ sg H Q, t' sg H Q → t sg H Q) : PE X e t' := ⟨fun pz s sg H Q I q => h.run pz s sg H Q I (hi sg H Q q)⟩
theorem PT.imp {X : Cx} {e : Expr} {t t' : TT} (h : PT X e t) (hi : ∀ sg H Q, t' sg H Q → t sg H Q) : PT X e t' := ⟨fun pz s sg H Q I q => h.run pz s sg H Q I (hi sg H Q q)⟩
theorem PA.imp {X : Cx} {e : List Expr} {t t' : TA} (h : PA X e t) (hi : ∀ sg H Q, t' sg H Q → t sg H Q) : PA X e t' := ⟨fun pos pz s sg H Q I q => h.run pos pz s sg H Q I (hi sg H Q q)⟩
theorem PW.imp {X : Cx} {e : Expr} {t t' : TT} (h : PW X e t) (hi : ∀ sg H Q, t' sg H Q → t sg H Q) : PW X e t' := ⟨fun wh pz s sg H Q I q => h.run wh pz s sg H Q I (hi sg H Q q)⟩

section
variable {xr : XR} {T : Tab} {fa : Nat → Addr} {fd : Nat → FuncData} {ps : Nat → List Str} {k : Nat} {A : Agr} {E : L2.St → XK} {X : Cx} {C : Ev}
theorem XOk.hu (o : XOk xr T fa fd ps k A E X) : X.A.units + 64 < cLine := o.room.units
theorem vis_of {sc : Scope} {x : Str} (h : visC sc x = true) : Vis sc x := by
  unfold visC at h
  split at h
  · exact .inl (by assumption)
  · exact .inr (.inl (by assumption))
  · exact .inr (.inr (by assumption))
  · cases h
theorem XOk.gl (o : XOk xr T fa fd ps k A E X) {x : Str} (h : glC A.sc x = true) : Gl X x := by
  unfold glC at h
  split at h
  · rename_i hl
    show X.env.scope.names.lookup x = some .globalImplicit
    rw [o.sc]
    exact hl
  · cases h
theorem okN_dbg {x : Str} (h : okN x = true) : (x == ("__debug__" : Str)) = false ∧ (x == ("__classdict__" : Str)) = false ∧ x ≠ "__name__" := by
  unfold okN at h
  simp only [Bool.not_eq_true', Bool.and_eq_true] at h
  exact ⟨h.1.1, h.1.2, fun e => by
    have := h.2
    rw [e] at this
    simp at this⟩
theorem XOk.blt' (o : XOk xr T fa fd ps k A E X) {x : Str} (h : bltC A x = true) : Gl X x ∧ X.mg x = none ∧ (x == ("__debug__" : Str)) = false ∧ x ≠ "__name__" := by
  unfold bltC at h
  (simp only [Bool.and_eq_true] at h)
  obtain ⟨⟨h1, h2⟩, h3⟩ := h
  exact ⟨o.gl h1, o.blt x (by simpa using h3), (okN_dbg h2).1, (okN_dbg h2).2.2⟩

/-- a test that is its value's truth -/
theorem pt_plain {x : Ex} {e : Expr} (h : PE X e (tE X xr E C x)) (he : ∀ whole, isTrue e X.env whole = (do let v ← whole; standAt e.pos; holding [v] (truthy v))) : PT X e (tT X xr E C x) := by
  refine PT.imp (pt_truth h he) fun sg H Q ⟨env, F, ρ, st, rl, eo, q⟩ => ⟨env, F, ρ, st, rl, eo, ?_⟩
  refine q.bnd.imp fun s F1 ρ1 st1 H1 rl1 _ q v rv => ?_
  obtain ⟨p, hp, q⟩ := q.peek rl1 rv
  obtain ⟨k, e, q⟩ := q.lift
  exact ⟨k, tru_of rl1.sub hp e, q.okHere rl1⟩

theorem snd_var (o : XOk xr T fa fd ps k A E X) {i : Nat} {x : Str} {pos : Pos} (h : agE A (.var i) (.Name x pos) = true) : PE X (.Name x pos) (tE X xr E C (.var i)) := by
  have h : (decide (A.N[i]? = some x) && visC A.sc x && okN x) = true := h
  simp only [decide_eq_true_eq, Bool.and_eq_true] at h
  obtain ⟨⟨h1, h2⟩, h3⟩ := h
  refine PE.imp (pe_var (i := i) (by rw [o.N]; exact h1) (by rw [o.sc]; exact vis_of h2) (okN_dbg h3).1 (okN_dbg h3).2.1) fun sg H Q ⟨env, F, ρ, st, rl, eo, q⟩ => ?_
  have e : evE C (.var i) env = match env[i]? with | some (some v) => ret v | _ => stuck := rfl
  rw [e] at q
  split at q
  · rename_i s hs
    obtain ⟨v, h1, h2⟩ := eo.2 i s hs
    exact ⟨v, h1, q.ret rl v h2⟩
  · exact q.elim
theorem snd_cst {p : P} {c : Const} {kk : Nat} {pos : Pos} (h : agE A (.cst p) (.Constant c kk pos) = true) : PE X (.Constant c kk pos) (tE X xr E C (.cst p)) := by
  have h : cstC p c = true := h
  have key : ∀ {v : V}, PE X (.Constant c kk pos) (tC v) → (∀ F, Rep X.K F v p) → PE X (.Constant c kk pos) (tE X xr E C (.cst p)) := fun hv hr =>
    PE.imp hv fun sg H Q ⟨env, F, ρ, st, rl, eo, q⟩ => q.ret rl _ (hr F)
  cases p with
  | non =>
    cases c with
    | none => exact key pe_non fun _ => .non
    | _ => cases h
  | bl a =>
    cases c with
    | bool b =>
      have e : a = b := beq_iff_eq.mp h
      subst e
      exact key pe_bl fun _ => .bl _
    | _ => cases h
  | int i =>
    cases c with
    | int j =>
      have e : i = j := beq_iff_eq.mp h
      subst e
      exact key pe_int fun _ => .int _
    | _ => cases h
  | str x =>
    cases c with
    | str y =>
      (have e : x = y := of_decide_eq_true h)
      subst e
      exact key pe_str fun _ => .str _
    | _ => cases h
  | _ => cases h
theorem snd_glo (o : XOk xr T fa fd ps k A E X) (hg : C.glo = T.glo) {g : Nat} {x : Str} {pos : Pos} (h : agE A (.glo g) (.Name x pos) = true) : PE X (.Name x pos) (tE X xr E C (.glo g)) := by
  have h : (decide (A.gls[g]? = some x) && glC A.sc x && okN x) = true := h
  simp only [decide_eq_true_eq, Bool.and_eq_true] at h
  obtain ⟨⟨h1, h2⟩, h3⟩ := h
  cases e : T.glo[g]? with
  | none =>
    refine ⟨fun pz s sg H Q I ⟨env, F, ρ, st, rl, eo, q⟩ => ?_⟩
    have q : Post X.K xr (E sg) F ρ st H (lift (C.glo[g]?.map Sl.val) st) (QV X.K Q) := q
    rw [hg, e] at q
    exact q.elim
  | some p =>
    obtain ⟨u, v, e1, e2, e3⟩ := o.gls g x p h1 e
    refine PE.imp (pe_glob (o.gl h2) e1 e2 (okN_dbg h3).1) fun sg H Q ⟨env, F, ρ, st, rl, eo, q⟩ => ?_
    have q : Post X.K xr (E sg) F ρ st H (lift (C.glo[g]?.map Sl.val) st) (QV X.K Q) := q
    rw [hg, e] at q
    exact q.okHere rl v (e3 F)

/-! ### arguments, displays -/
theorem sn_nil : PA X [] (tEs X xr E C .nil) := PA.imp pa_nil fun sg H Q ⟨env, F, ρ, st, rl, eo, q⟩ => q.ret rl [] .nil
theorem sn_cons {x : Ex} {xs : Exs} {e : Expr} {es : List Expr} (pl : PlainE e) (h : PE X e (tE X xr E C x)) (hs : PA X es (tEs X xr E C xs)) : PA X (e :: es) (tEs X xr E C (.cons x xs)) := by
  refine PA.imp (pa_cons h hs (pl.star _ _)) fun sg H Q ⟨env, F, ρ, st, rl, eo, q⟩ => ⟨env, F, ρ, st, rl, eo, ?_⟩
  refine (Post.bnd (f := fun x => bnd (evEs C xs env) fun xs => ret (x :: xs)) q).imp fun s F1 ρ1 st1 H1 rl1 sp1 q v rv => ⟨env, F1, ρ1, st1, rl1, eo.step sp1, ?_⟩
  exact q.bnd.imp fun ss F2 ρ2 st2 H2 rl2 sp2 q vs rvs => q.ret rl2 (v :: vs) (.cons (rv.step sp2) rvs)
theorem vals_len : ∀ {ss : List Sl} {ps : List P}, vals ss = some ps → ps.length = ss.length
  | [], _, e => by
    cases e
    rfl
  | .val p :: ss, qs, e => by
    have e : (vals ss).map (p :: ·) = some qs := e
    obtain ⟨rs, e1, rfl⟩ := Option.map_eq_some_iff.mp e
    exact congrArg (· + 1) (vals_len e1)
  | .ref _ :: _, _, e => by cases e
theorem evEs_len : ∀ {xs : Exs} {es : List Expr} {env : Env} {st st' : Sto} {ss : List Sl}, agEs A xs es = true → evEs C xs env st = .ok ss st' → ss.length = es.length
  | .nil, es, _, _, _, _, h, e => by
    cases es with
    | nil =>
      cases e
      rfl
    | cons _ _ => cases h
  | .cons x xs, es, env, st, st', ss, h, e => by
    cases es with
    | nil => cases h
    | cons y ys =>
      have h : (agE A x y && agEs A xs ys) = true := h
      rw [Bool.and_eq_true] at h
      have e : bnd (evE C x env) (fun x => bnd (evEs C xs env) fun xs => ret (x :: xs)) st = .ok ss st' := e
      obtain ⟨v, st1, _, e⟩ := bnd_inv e
      obtain ⟨vs, st2, h2, e⟩ := bnd_inv e
      cases e
      exact congrArg (· + 1) (evEs_len h.2 h2)
theorem snd_tup {xs : Exs} {es : List Expr} {kk : Nat} {pos : Pos} (h : agE A (.tup xs) (.Tuple es kk pos) = true) (hs : PA X es (tEs X xr E C xs)) : PE X (.Tuple es kk pos) (tE X xr E C (.tup xs)) := by
  have h : (agEs A xs es && decide (es.length ≤ 1000)) = true := h
  (rw [Bool.and_eq_true, decide_eq_true_eq] at h)
  refine PE.imp (pe_tup hs) fun sg H Q ⟨env, F, ρ, st, rl, eo, q⟩ => ⟨env, F, ρ, st, rl, eo, ?_⟩
  have q : Post X.K xr (E sg) F ρ st H (bnd (evEs C xs env) (fun vs => lift ((vals vs).map fun ps => Sl.val (.tup ps))) st) (QV X.K Q) := q
  unfold bnd at q
  cases e : evEs C xs env st with
  | bad =>
    rw [e] at q
    exact q.elim
  | exc x st1 =>
    rw [e] at q
    exact q
  | ok ss st1 =>
    rw [e] at q
    intro F1 ρ1 H1 rl1 sp1 vs rvs
    have q := Post.shift q sp1
    obtain ⟨s, e1, q⟩ := q.lift
    obtain ⟨ps, e2, rfl⟩ := Option.map_eq_some_iff.mp e1
    refine ⟨?_, fun p n => (q.give rl1).tup rl1.sub n (vals_reps rvs e2)⟩
    rw [rvs.length, evEs_len h.1 e]
    exact Nat.le_trans h.2 (by decide)
/-- what a new object gives: the store and all else beside it -/
def QL (K : PySem.W.Frag) (Q : VK) (r : Sl) (F : Hp) (ρ : List Addr) (st : Sto) (H : Hp) : Prop := ∃ xs, r = .val (.lst xs) ∧ GiveL K F H xs Q
theorem snd_lst {xs : Exs} {es : List Expr} {pos : Pos} (h : agE A (.lst xs) (.List es pos) = true) (hs : PA X es (tEs X xr E C xs)) : PE X (.List es pos) (tE X xr E C (.lst xs)) := by
  have h : (agEs A xs es && decide (es.length ≤ 1000)) = true := h
  (rw [Bool.and_eq_true, decide_eq_true_eq] at h)
  refine PE.imp (pe_lst hs) fun sg H Q ⟨env, F, ρ, st, rl, eo, q⟩ => ⟨env, F, ρ, st, rl, eo, ?_⟩
  have q : Post X.K xr (E sg) F ρ st H (bnd (evEs C xs env) (fun vs => lift ((vals vs).map fun ps => Sl.val (.lst ps))) st) (QV X.K Q) := q
  unfold bnd at q
  cases e : evEs C xs env st with
  | bad =>
    rw [e] at q
    exact q.elim
  | exc x st1 =>
    rw [e] at q
    exact q
  | ok ss st1 =>
    rw [e] at q
    intro F1 ρ1 H1 rl1 sp1 vs rvs
    have q := Post.shift q sp1
    obtain ⟨s, e1, q⟩ := q.lift
    obtain ⟨ps, e2, rfl⟩ := Option.map_eq_some_iff.mp e1
    refine ⟨?_, fun p n => (q.give rl1).lst rl1.sub p _ n (vals_reps rvs e2)⟩
    rw [rvs.length, evEs_len h.1 e]
    exact Nat.le_trans h.2 (by decide)

/-! ### operators -/
theorem op_bin {o : Bop} (hk : o.known = true) : OpR X (binaryOp (opB o)) (rP2 X.K (binP o)) := by
  cases o with
  | add => exact o_add
  | sub => exact o_sub
  | mul => exact o_mul
  | fdiv => exact o_fdiv
  | mod => exact o_mod
  | pow => exact o_pow
  | _ => cases hk
theorem snd_bin {o : Bop} {a b : Ex} {x y : Expr} {pos : Pos} (hk : o.known = true) (ha : PE X x (tE X xr E C a)) (hb : PE X y (tE X xr E C b)) : PE X (.BinOp x (opB o) y pos) (tE X xr E C (.bin o a b)) := by
  refine PE.imp (pe_op (op_bin hk) ha hb) fun sg H Q ⟨env, F, ρ, st, rl, eo, q⟩ => ⟨env, F, ρ, st, rl, eo, ?_⟩
  refine (Post.bnd (m := evE C a env) q).imp fun s F1 ρ1 st1 H1 rl1 sp1 q v rv => ⟨env, F1, ρ1, st1, rl1, eo.step sp1, ?_⟩
  refine q.bnd.imp fun s2 F2 ρ2 st2 H2 rl2 sp2 q w rw' => ?_
  obtain ⟨p, hp, q⟩ := q.peek rl2 (rv.step sp2)
  obtain ⟨p2, hp2, q⟩ := q.peek rl2 rw'
  obtain ⟨s, e1, q⟩ := q.lift
  obtain ⟨z, e2, rfl⟩ := Option.map_eq_some_iff.mp e1
  exact ⟨F2, p, p2, z, rl2.sub, hp, hp2, e2, q.give rl2⟩
theorem snd_neg {a : Ex} {x : Expr} {pos : Pos} (ha : PE X x (tE X xr E C a)) : PE X (.UnaryOp .USub x pos) (tE X xr E C (.neg a)) := by
  refine PE.imp (pe_un un_neg ha) fun sg H Q ⟨env, F, ρ, st, rl, eo, q⟩ => ⟨env, F, ρ, st, rl, eo, ?_⟩
  refine (Post.bnd (m := evE C a env) q).imp fun s F1 ρ1 st1 H1 rl1 sp1 q v rv => ?_
  split at q
  · rename_i i
    exact ⟨i, Rep.int_inv rv, q.ret rl1 _ (.int _)⟩
  · exact q.elim
theorem op_cmp (o : XOk xr T fa fd ps k A E X) (c : Cop) : OpR X (compareOp (opC c)) (rCmp X.K c) := by
  have hu := o.hu
  cases c with
  | eq => exact c_eq hu
  | ne => exact c_ne hu
  | lt => exact c_lt
  | le => exact c_le
  | gt => exact c_gt
  | ge => exact c_ge
  | is => exact c_is
  | isn => exact c_isn
  | mem => exact c_mem hu
  | nmem => exact c_nmem hu
theorem cmp_in {c : Cop} {a b : Ex} {sg : L2.St} {H : Hp} {Q : VK} (h : tE X xr E C (.cmp c a b) sg H Q) : tOp (rCmp X.K c) (tE X xr E C a) (tE X xr E C b) sg H Q := by
  obtain ⟨env, F, ρ, st, rl, eo, q⟩ := h
  refine ⟨env, F, ρ, st, rl, eo, ?_⟩
  refine (Post.bnd (m := evE C a env) q).imp fun s F1 ρ1 st1 H1 rl1 sp1 q v rv => ⟨env, F1, ρ1, st1, rl1, eo.step sp1, ?_⟩
  refine q.bnd.imp fun s2 F2 ρ2 st2 H2 rl2 sp2 q w rw' => ?_
  obtain ⟨p, hp, q⟩ := q.peek rl2 (rv.step sp2)
  obtain ⟨p2, hp2, q⟩ := q.peek rl2 rw'
  obtain ⟨s, e1, q⟩ := q.lift
  obtain ⟨z, e2, rfl⟩ := Option.map_eq_some_iff.mp e1
  exact ⟨F2, p, p2, z, rl2.sub, hp, hp2, e2, q.val rl2 (.bl _)⟩
/-- what is a truth value is its own truth -/
theorem test_bool {x : Ex} {sg : L2.St} {H : Hp} {Q : Bool → Hp → Prop} (h : tT X xr E C x sg H Q) (hb : ∀ env st s st', evE C x env st = .ok s st' → ∃ b, s = .val (.bl b)) : tE X xr E C x sg H fun v H' => ∃ k, v = .bl k ∧ Q k H' := by
  obtain ⟨env, F, ρ, st, rl, eo, q⟩ := h
  refine ⟨env, F, ρ, st, rl, eo, ?_⟩
  unfold bnd at q
  cases e : evE C x env st with
  | bad =>
    rw [e] at q
    exact q.elim
  | exc y st1 =>
    rw [e] at q
    exact q
  | ok s st1 =>
    rw [e] at q
    obtain ⟨b, rfl⟩ := hb env st s st1 e
    exact fun F1 ρ1 H1 rl1 sp1 v rv => ⟨b, Rep.bl_inv rv, (Post.shift q sp1).okHere rl1⟩
theorem bool_cmp {c : Cop} {a b : Ex} (env : Env) (st : Sto) (s : Sl) (st' : Sto) (e : evE C (.cmp c a b) env st = .ok s st') : ∃ b, s = .val (.bl b) := by
  have e : bnd (evE C a env) (fun x => bnd (evE C b env) fun y => bnd (peek x) fun p => bnd (peek y) fun q => lift ((cmpP c p q).map fun k => Sl.val (.bl k))) st = .ok s st' := e
  obtain ⟨_, _, _, e⟩ := bnd_inv e
  obtain ⟨_, _, _, e⟩ := bnd_inv e
  obtain ⟨_, _, _, e⟩ := bnd_inv e
  obtain ⟨_, _, _, e⟩ := bnd_inv e
  obtain ⟨k, _, rfl⟩ := Option.map_eq_some_iff.mp (lift_inv e).1
  exact ⟨k, rfl⟩
theorem snd_cmp (o : XOk xr T fa fd ps k A E X) {c : Cop} {a b : Ex} {x y : Expr} {pos : Pos} (pl : PlainE y) (ha : PE X x (tE X xr E C a)) (hb : PE X y (tE X xr E C b)) :
    PE X (.Compare x [opC c] [y] pos) (tE X xr E C (.cmp c a b)) ∧ PT X (.Compare x [opC c] [y] pos) (tT X xr E C (.cmp c a b)) :=
  ⟨PE.imp (pe_cmpR (op_cmp o c) ha hb (pl.mark _)) fun sg H Q h => cmp_in h, PT.imp (pt_cmpR (op_cmp o c) ha hb (pl.mark _)) fun sg H Q h => cmp_in (test_bool h bool_cmp)⟩
theorem cmp2_in {c d : Cop} {a b z : Ex} {sg : L2.St} {H : Hp} {Q : VK} (h : tE X xr E C (.cmp2 c d a b z) sg H Q) : tChain (rCmp X.K c) (rCmp X.K d) (tE X xr E C a) (tE X xr E C b) (tE X xr E C z) sg H Q := by
  obtain ⟨env, F, ρ, st, rl, eo, q⟩ := h
  refine ⟨env, F, ρ, st, rl, eo, ?_⟩
  refine (Post.bnd (m := evE C a env) q).imp fun s F1 ρ1 st1 H1 rl1 sp1 q v rv => ⟨env, F1, ρ1, st1, rl1, eo.step sp1, ?_⟩
  refine q.bnd.imp fun s2 F2 ρ2 st2 H2 rl2 sp2 q w rw' => ?_
  obtain ⟨p, hp, q⟩ := q.peek rl2 (rv.step sp2)
  obtain ⟨p2, hp2, q⟩ := q.peek rl2 rw'
  obtain ⟨kk, e1, q⟩ := q.bndLift
  refine ⟨F2, p, p2, kk, rl2.sub, hp, hp2, e1, kk, rfl, ?_⟩
  cases kk with
  | false => exact q.ret rl2 _ (.bl _)
  | true =>
    refine ⟨env, F2, ρ2, st2, rl2, (eo.step sp1).step sp2, ?_⟩
    refine (Post.bnd (m := evE C z env) q).imp fun s3 F3 ρ3 st3 H3 rl3 sp3 q u ru => ?_
    obtain ⟨p, hp, q⟩ := q.peek rl3 (rw'.step sp3)
    obtain ⟨p2, hp2, q⟩ := q.peek rl3 ru
    obtain ⟨s, e1, q⟩ := q.lift
    obtain ⟨z, e2, rfl⟩ := Option.map_eq_some_iff.mp e1
    exact ⟨F3, p, p2, z, rl3.sub, hp, hp2, e2, q.val rl3 (.bl _)⟩
theorem bool_cmp2 {c d : Cop} {a b z : Ex} (env : Env) (st : Sto) (s : Sl) (st' : Sto) (e : evE C (.cmp2 c d a b z) env st = .ok s st') : ∃ b, s = .val (.bl b) := by
  have e : bnd (evE C a env) (fun x => bnd (evE C b env) fun y => bnd (peek x) fun p => bnd (peek y) fun q => bnd (lift (cmpP c p q)) fun k =>
      if k then bnd (evE C z env) fun z => bnd (peek y) fun q => bnd (peek z) fun r => lift ((cmpP d q r).map fun k => Sl.val (.bl k)) else ret (.val (.bl false))) st = .ok s st' := e
  obtain ⟨_, _, _, e⟩ := bnd_inv e
  obtain ⟨_, _, _, e⟩ := bnd_inv e
  obtain ⟨_, _, _, e⟩ := bnd_inv e
  obtain ⟨_, _, _, e⟩ := bnd_inv e
  obtain ⟨k, _, _, e⟩ := bnd_inv e
  cases k with
  | false =>
    cases e
    exact ⟨_, rfl⟩
  | true =>
    obtain ⟨_, _, _, e⟩ := bnd_inv e
    obtain ⟨_, _, _, e⟩ := bnd_inv e
    obtain ⟨_, _, _, e⟩ := bnd_inv e
    obtain ⟨k, _, rfl⟩ := Option.map_eq_some_iff.mp (lift_inv e).1
    exact ⟨k, rfl⟩
theorem snd_cmp2 (o : XOk xr T fa fd ps k A E X) {c d : Cop} {a b z : Ex} {x y w : Expr} {pos : Pos} (pl : PlainE w) (ha : PE X x (tE X xr E C a)) (hb : PE X y (tE X xr E C b)) (hz : PE X w (tE X xr E C z)) :
    PE X (.Compare x [opC c, opC d] [y, w] pos) (tE X xr E C (.cmp2 c d a b z)) ∧ PT X (.Compare x [opC c, opC d] [y, w] pos) (tT X xr E C (.cmp2 c d a b z)) :=
  ⟨PE.imp (pe_chain (op_cmp o c) (op_cmp o d) ha hb hz (pl.mark _)) fun sg H Q h => cmp2_in h, PT.imp (pt_chain (op_cmp o c) (op_cmp o d) ha hb hz (pl.mark _)) fun sg H Q h => cmp2_in (test_bool h bool_cmp2)⟩
end
end Fy

/-! Fy6: and, or, not, subscripts, slices, calls. -/
namespace Fy
open PySem
open PySem.Spec
open PyProof.Rows
open L2
section
variable {xr : XR} {T : Tab} {fa : Nat → Addr} {fd : Nat → FuncData} {ps : Nat → List Str} {k : Nat} {A : Agr} {E : L2.St → XK} {X : Cx} {C : Ev}

/-! ### truth of a value that stands already -/
theorem peek_same {x : Sl} {st st' : Sto} {p : P} (e : peek x st = .ok p st') : st' = st := by
  cases x with
  | val q =>
    cases e
    rfl
  | ref n =>
    unfold peek at e
    simp only at e
    split at e <;> cases e <;> rfl
theorem tru_same {x : Sl} {st st' : Sto} {b : Bool} (e : tru x st = .ok b st') : st' = st := by
  obtain ⟨p, st1, h1, e⟩ := bnd_inv e
  rw [(lift_inv e).2, peek_same h1]
theorem peek_noexc {x : Sl} {st st' : Sto} {y : Exn} (e : peek x st = .exc y st') : False := by
  cases x with
  | val q => cases e
  | ref n =>
    unfold peek at e
    simp only at e
    split at e <;> cases e
theorem lift_noexc {α : Type} {o : Option α} {st st' : Sto} {y : Exn} (e : lift o st = .exc y st') : False := by
  unfold lift at e
  split at e <;> cases e
theorem tru_noexc {x : Sl} {st st' : Sto} {y : Exn} (e : tru x st = .exc y st') : False := by
  unfold tru bnd at e
  split at e
  · exact lift_noexc e
  · rename_i h
    exact peek_noexc h
  · cases e
/-- the truth of x is known: k -/
theorem Post.tru {α : Type} {F : Hp} {ρ : List Addr} {st : Sto} {H : Hp} {v : V} {x : Sl} {f : Bool → M α} {Q : α → Hp → List Addr → Sto → Hp → Prop} {EX : XK} (h : Post X.K xr EX F ρ st H (Fy.bnd (Fy.tru x) f st) Q) (rl : Rel X.K F ρ st H) (rv : RepS X.K F ρ st.length v x) :
    ∃ k, Fy.tru x st = .ok k st ∧ TruV X.K v H k ∧ Post X.K xr EX F ρ st H (f k st) Q := by
  cases e : Fy.peek x st with
  | ok p st1 =>
    obtain ⟨rfl, hp⟩ := pk_of rl rv e
    have e1 : Fy.tru x st1 = Fy.lift (truP p) st1 := by
      unfold Fy.tru Fy.bnd
      rw [e]
    cases e2 : truP p with
    | none =>
      unfold Fy.bnd at h
      rw [e1, e2] at h
      exact h.elim
    | some k =>
      rw [e2] at e1
      unfold Fy.bnd at h
      rw [e1] at h
      exact ⟨k, e1, tru_of rl.sub hp e2, h⟩
  | exc y st1 => exact (peek_noexc e).elim
  | bad =>
    unfold Fy.tru Fy.bnd at h
    rw [e] at h
    exact h.elim

/-! ### lists of expressions, each with its laws -/
def AllE (X : Cx) (xr : XR) (E : L2.St → XK) (C : Ev) : Exs → List Expr → Prop
  | .nil, es => match es with | [] => True | _ :: _ => False
  | .cons x xs, es => match es with
    | e :: es => PlainE e ∧ PE X e (tE X xr E C x) ∧ PT X e (tT X xr E C x) ∧ AllE X xr E C xs es
    | [] => False
theorem AllE.pa : ∀ {xs : Exs} {es : List Expr}, AllE X xr E C xs es → PA X es (tEs X xr E C xs)
  | .nil, [], _ => sn_nil
  | .nil, _ :: _, h => h.elim
  | .cons x xs, [], h => h.elim
  | .cons x xs, e :: es, ⟨pl, h1, _, h2⟩ => sn_cons pl h1 (AllE.pa h2)
theorem AllE.star : ∀ {xs : Exs} {es : List Expr}, AllE X xr E C xs es → ∀ env, starEach es env = es.map fun e => (false, eval e env)
  | .nil, [], _, _ => rfl
  | .nil, _ :: _, h, _ => h.elim
  | .cons x xs, [], h, _ => h.elim
  | .cons x xs, e :: es, ⟨pl, _, _, h2⟩, env => by
    rw [pl.star, AllE.star h2 env]
    rfl
theorem AllE.head {x : Exs} {e : Expr} {es : List Expr} (h : AllE X xr E C x (e :: es)) : starEach (e :: es) X.env = (false, eval e X.env) :: starEach es X.env := by
  cases x with
  | nil => exact h.elim
  | cons x xs => exact h.1.star _ _
theorem back_plain (pos : Pos) : ∀ {l : List (Bool × Sem Value)}, (∀ p ∈ l, p.1 = false) → (backTo pos l).any (·.1) = false
  | [], _ => rfl
  | (b, t) :: r, h => by
    show (b || (backTo pos r).any (·.1)) = false
    rw [back_plain pos fun p hp => h p (List.mem_cons_of_mem _ hp), Bool.or_false]
    exact h (b, t) (List.mem_cons_self ..)
theorem back_all (pos : Pos) : ∀ {l : List (Bool × Sem Value)}, (∀ p ∈ l, p.1 = false) → (backTo pos l).all (fun x => !x.1) = true
  | [], _ => rfl
  | (b, t) :: r, h => by
    show (!b && (backTo pos r).all (fun x => !x.1)) = true
    rw [back_all pos fun p hp => h p (List.mem_cons_of_mem _ hp), Bool.and_true, show b = false from h (b, t) (List.mem_cons_self ..)]
    rfl
theorem AllE.plain {x : Exs} {es : List Expr} (h : AllE X xr E C x es) : ∀ p ∈ starEach es X.env, p.1 = false := by
  rw [h.star]
  intro p hp
  obtain ⟨e, _, rfl⟩ := List.mem_map.mp hp
  rfl
theorem AllE.tail {x : Exs} {e : Expr} {es : List Expr} (h : AllE X xr E C x (e :: es)) : ∀ p ∈ starEach es X.env, p.1 = false := by
  cases x with
  | nil => exact h.elim
  | cons x xs => exact AllE.plain h.2.2.2

/-! ### and, or -/
def tAs (X : Cx) (xr : XR) (E : L2.St → XK) (C : Ev) (x : Ex) (xs : Exs) : TE := fun sg H Q => ∃ env F ρ st, Rel X.K F ρ st H ∧ EnvOk X.K F ρ st.length env sg ∧ Post X.K xr (E sg) F ρ st H (bnd (evE C x env) (fun v => evA C xs env v) st) (QV X.K Q)
def tRs (X : Cx) (xr : XR) (E : L2.St → XK) (C : Ev) (x : Ex) (xs : Exs) : TE := fun sg H Q => ∃ env F ρ st, Rel X.K F ρ st H ∧ EnvOk X.K F ρ st.length env sg ∧ Post X.K xr (E sg) F ρ st H (bnd (evE C x env) (fun v => evR C xs env v) st) (QV X.K Q)
theorem bnd_ret {α : Type} (m : M α) (st : Sto) : bnd m (fun v => ret v) st = m st := by
  unfold bnd ret
  cases m st <;> rfl
theorem pe_ands : ∀ (xs : Exs) (es : List Expr) (x : Ex) (e : Expr) (pos : Pos), PE X e (tE X xr E C x) → AllE X xr E C xs es → PE X (.BoolOp .And (e :: es) pos) (tAs X xr E C x xs)
  | .nil, [], x, e, pos, he, _ => PE.imp (pe_one he) fun sg H Q ⟨env, F, ρ, st, rl, eo, q⟩ => ⟨env, F, ρ, st, rl, eo, by rw [show (fun v => evA C .nil env v) = fun v => ret v from rfl, bnd_ret] at q; exact q⟩
  | .nil, _ :: _, _, _, _, _, h => h.elim
  | .cons _ _, [], _, _, _, _, h => h.elim
  | .cons y ys, e2 :: es, x, e, pos, he, ⟨_, h1, _, h2⟩ => by
    refine PE.imp (pe_andT he (pe_ands ys es y e2 pos h1 h2)) fun sg H Q ⟨env, F, ρ, st, rl, eo, q⟩ => ⟨env, F, ρ, st, rl, eo, ?_⟩
    refine q.bnd.imp fun s F1 ρ1 st1 H1 rl1 sp1 q v rv => ?_
    have q : Post X.K xr (E sg) F1 ρ1 st1 H1 (bnd (tru s) (fun k => if k then bnd (evE C y env) fun z => evA C ys env z else ret s) st1) (QV X.K Q) := q
    obtain ⟨k, _, hk, q⟩ := q.tru rl1 rv
    refine ⟨k, hk, ?_⟩
    cases k with
    | true => exact ⟨env, F1, ρ1, st1, rl1, eo.step sp1, q⟩
    | false => exact q.ret rl1 v rv
theorem pe_ors : ∀ (xs : Exs) (es : List Expr) (x : Ex) (e : Expr) (pos : Pos), PE X e (tE X xr E C x) → AllE X xr E C xs es → PE X (.BoolOp .Or (e :: es) pos) (tRs X xr E C x xs)
  | .nil, [], x, e, pos, he, _ => PE.imp (pe_one he) fun sg H Q ⟨env, F, ρ, st, rl, eo, q⟩ => ⟨env, F, ρ, st, rl, eo, by rw [show (fun v => evR C .nil env v) = fun v => ret v from rfl, bnd_ret] at q; exact q⟩
  | .nil, _ :: _, _, _, _, _, h => h.elim
  | .cons _ _, [], _, _, _, _, h => h.elim
  | .cons y ys, e2 :: es, x, e, pos, he, ⟨_, h1, _, h2⟩ => by
    refine PE.imp (pe_orT he (pe_ors ys es y e2 pos h1 h2)) fun sg H Q ⟨env, F, ρ, st, rl, eo, q⟩ => ⟨env, F, ρ, st, rl, eo, ?_⟩
    refine q.bnd.imp fun s F1 ρ1 st1 H1 rl1 sp1 q v rv => ?_
    have q : Post X.K xr (E sg) F1 ρ1 st1 H1 (bnd (tru s) (fun k => if k then ret s else bnd (evE C y env) fun z => evR C ys env z) st1) (QV X.K Q) := q
    obtain ⟨k, _, hk, q⟩ := q.tru rl1 rv
    refine ⟨k, hk, ?_⟩
    cases k with
    | true => exact q.ret rl1 v rv
    | false => exact ⟨env, F1, ρ1, st1, rl1, eo.step sp1, q⟩
def tAT (X : Cx) (xr : XR) (E : L2.St → XK) (C : Ev) (x : Ex) (xs : Exs) : TT := fun sg H Q => ∃ env F ρ st, Rel X.K F ρ st H ∧ EnvOk X.K F ρ st.length env sg ∧ Post X.K xr (E sg) F ρ st H (bnd (bnd (evE C x env) (fun v => evA C xs env v)) tru st) fun k _ _ _ H' => Q k H'
def tRT (X : Cx) (xr : XR) (E : L2.St → XK) (C : Ev) (x : Ex) (xs : Exs) : TT := fun sg H Q => ∃ env F ρ st, Rel X.K F ρ st H ∧ EnvOk X.K F ρ st.length env sg ∧ Post X.K xr (E sg) F ρ st H (bnd (bnd (evE C x env) (fun v => evR C xs env v)) tru st) fun k _ _ _ H' => Q k H'
theorem bnd_assoc {α β γ : Type} (m : M α) (f : α → M β) (g : β → M γ) (st : Sto) : bnd (bnd m f) g st = bnd m (fun a => bnd (f a) g) st := by
  unfold bnd
  cases m st <;> rfl
/-- the truth asked for twice is the truth -/
theorem tru_twice {s : Sl} {k : Bool} {st : Sto} {γ : Type} {F : Bool → M γ} (e : tru s st = .ok k st) : bnd (ret s) tru st = .ok k st := e
theorem pw_ands : ∀ (xs : Exs) (es : List Expr) (x : Ex) (e : Expr) (pos : Pos), PT X e (tT X xr E C x) → AllE X xr E C xs es → PW X (.BoolOp .And (e :: es) pos) (tAT X xr E C x xs)
  | .nil, [], x, e, pos, he, _ => PW.imp (pw_and1 he) fun sg H Q ⟨env, F, ρ, st, rl, eo, q⟩ => ⟨env, F, ρ, st, rl, eo, by rw [bnd_assoc] at q; exact q⟩
  | .nil, _ :: _, _, _, _, _, h => h.elim
  | .cons _ _, [], _, _, _, _, h => h.elim
  | .cons y ys, e2 :: es, x, e, pos, he, ⟨_, _, h1, h2⟩ => by
    refine PW.imp (pw_and he (pw_ands ys es y e2 pos h1 h2)) fun sg H Q ⟨env, F, ρ, st, rl, eo, q⟩ => ⟨env, F, ρ, st, rl, eo, ?_⟩
    have q : Post X.K xr (E sg) F ρ st H (bnd (bnd (evE C x env) (fun s => bnd (tru s) (fun k => if k then bnd (evE C y env) fun z => evA C ys env z else ret s))) tru st) fun k _ _ _ H' => Q k H' := q
    unfold bnd at q ⊢
    cases e1 : evE C x env st with
    | bad =>
      rw [e1] at q
      exact q.elim
    | exc y st1 =>
      rw [e1] at q
      exact q
    | ok s st1 =>
      rw [e1] at q
      dsimp only at q ⊢
      cases e2 : tru s st1 with
      | bad =>
        rw [e2] at q
        exact q.elim
      | exc y st2 => exact (tru_noexc e2).elim
      | ok k st2 =>
        have es := tru_same e2
        subst es
        rw [e2] at q
        dsimp only at q
        intro F1 ρ1 H1 rl1 sp1
        cases k with
        | true =>
          have q := Post.shift (r := bnd (bnd (evE C y env) fun z => evA C ys env z) tru st2) q sp1
          exact ⟨env, F1, ρ1, st2, rl1, eo.step sp1, q⟩
        | false =>
          have q : Post X.K xr (E sg) F ρ st H (tru s st2) (fun k _ _ _ H' => Q k H') := q
          rw [e2] at q
          exact q F1 ρ1 H1 rl1 sp1
theorem pw_ors : ∀ (xs : Exs) (es : List Expr) (x : Ex) (e : Expr) (pos : Pos), PT X e (tT X xr E C x) → AllE X xr E C xs es → PW X (.BoolOp .Or (e :: es) pos) (tRT X xr E C x xs)
  | .nil, [], x, e, pos, he, _ => PW.imp (pw_or1 he) fun sg H Q ⟨env, F, ρ, st, rl, eo, q⟩ => ⟨env, F, ρ, st, rl, eo, by rw [bnd_assoc] at q; exact q⟩
  | .nil, _ :: _, _, _, _, _, h => h.elim
  | .cons _ _, [], _, _, _, _, h => h.elim
  | .cons y ys, e2 :: es, x, e, pos, he, ⟨_, _, h1, h2⟩ => by
    refine PW.imp (pw_or he (pw_ors ys es y e2 pos h1 h2)) fun sg H Q ⟨env, F, ρ, st, rl, eo, q⟩ => ⟨env, F, ρ, st, rl, eo, ?_⟩
    have q : Post X.K xr (E sg) F ρ st H (bnd (bnd (evE C x env) (fun s => bnd (tru s) (fun k => if k then ret s else bnd (evE C y env) fun z => evR C ys env z))) tru st) fun k _ _ _ H' => Q k H' := q
    unfold bnd at q ⊢
    cases e1 : evE C x env st with
    | bad =>
      rw [e1] at q
      exact q.elim
    | exc y st1 =>
      rw [e1] at q
      exact q
    | ok s st1 =>
      rw [e1] at q
      dsimp only at q ⊢
      cases e2 : tru s st1 with
      | bad =>
        rw [e2] at q
        exact q.elim
      | exc y st2 => exact (tru_noexc e2).elim
      | ok k st2 =>
        have es := tru_same e2
        subst es
        rw [e2] at q
        dsimp only at q
        intro F1 ρ1 H1 rl1 sp1
        cases k with
        | false =>
          have q := Post.shift (r := bnd (bnd (evE C y env) fun z => evR C ys env z) tru st2) q sp1
          exact ⟨env, F1, ρ1, st2, rl1, eo.step sp1, q⟩
        | true =>
          have q : Post X.K xr (E sg) F ρ st H (tru s st2) (fun k _ _ _ H' => Q k H') := q
          rw [e2] at q
          exact q F1 ρ1 H1 rl1 sp1
theorem snd_and {a : Ex} {xs : Exs} {e : Expr} {es : List Expr} {pos : Pos} (h1 : PE X e (tE X xr E C a)) (h2 : PT X e (tT X xr E C a)) (hs : AllE X xr E C xs es) :
    PE X (.BoolOp .And (e :: es) pos) (tE X xr E C (.and a xs)) ∧ PT X (.BoolOp .And (e :: es) pos) (tT X xr E C (.and a xs)) :=
  ⟨pe_ands xs es a e pos h1 hs, (pw_ands xs es a e pos h2 hs).pt⟩
theorem snd_or {a : Ex} {xs : Exs} {e : Expr} {es : List Expr} {pos : Pos} (h1 : PE X e (tE X xr E C a)) (h2 : PT X e (tT X xr E C a)) (hs : AllE X xr E C xs es) :
    PE X (.BoolOp .Or (e :: es) pos) (tE X xr E C (.or a xs)) ∧ PT X (.BoolOp .Or (e :: es) pos) (tT X xr E C (.or a xs)) :=
  ⟨pe_ors xs es a e pos h1 hs, (pw_ors xs es a e pos h2 hs).pt⟩

/-! ### not, a if c else b -/
theorem snd_not {a : Ex} {e : Expr} {pos : Pos} (h1 : PE X e (tE X xr E C a)) (h2 : PT X e (tT X xr E C a)) : PE X (.UnaryOp .Not e pos) (tE X xr E C (.not a)) ∧ PT X (.UnaryOp .Not e pos) (tT X xr E C (.not a)) := by
  refine ⟨PE.imp (pe_notT h1) fun sg H Q ⟨env, F, ρ, st, rl, eo, q⟩ => ⟨env, F, ρ, st, rl, eo, ?_⟩, PT.imp (L2.pt_not h2) fun sg H Q ⟨env, F, ρ, st, rl, eo, q⟩ => ⟨env, F, ρ, st, rl, eo, ?_⟩⟩
  · refine (Post.bnd (m := evE C a env) q).imp fun s F1 ρ1 st1 H1 rl1 sp1 q v rv => ?_
    obtain ⟨k, _, hk, q⟩ := q.tru rl1 rv
    exact ⟨k, hk, q.ret rl1 _ (.bl _)⟩
  · have q : Post X.K xr (E sg) F ρ st H (bnd (bnd (evE C a env) fun x => bnd (tru x) fun k => ret (.val (.bl (!k)))) tru st) fun k _ _ _ H' => Q k H' := q
    rw [bnd_assoc] at q
    have e1 : bnd (evE C a env) (fun x => bnd (bnd (tru x) fun k => ret (Sl.val (.bl (!k)))) tru) st = bnd (bnd (evE C a env) tru) (fun k => ret (!k)) st := by
      unfold bnd
      cases evE C a env st with
      | ok s st1 =>
        dsimp only
        cases tru s st1 <;> rfl
      | _ => rfl
    rw [e1] at q
    exact q.bnd.imp fun k F1 ρ1 st1 H1 rl1 sp1 q => q.ret rl1
theorem pt_ifExp {c a b : Expr} {tc ta tb : TT} {pos : Pos} (hc : PT X c tc) (ha : PT X a ta) (hb : PT X b tb) : PT X (.IfExp c a b pos) (fun sg H Q => tc sg H fun k H1 => if k = true then ta sg H1 Q else tb sg H1 Q) := by
  refine ⟨fun pz s sg H Q I h => ?_⟩
  refine isTrue_IfExp (thn (hc.run pz s sg H _ I h) fun d s1 ⟨H1, I1, q1⟩ => ?_)
  cases d with
  | true => exact ha.run pz s1 sg H1 Q I1 q1
  | false => exact hb.run pz s1 sg H1 Q I1 q1
theorem snd_ife {c a b : Ex} {z x y : Expr} {pos : Pos} (hc : PT X z (tT X xr E C c)) (h1 : PE X x (tE X xr E C a)) (h2 : PT X x (tT X xr E C a)) (g1 : PE X y (tE X xr E C b)) (g2 : PT X y (tT X xr E C b)) :
    PE X (.IfExp z x y pos) (tE X xr E C (.ife c a b)) ∧ PT X (.IfExp z x y pos) (tT X xr E C (.ife c a b)) := by
  refine ⟨PE.imp (pe_ifExp hc h1 g1) fun sg H Q ⟨env, F, ρ, st, rl, eo, q⟩ => ⟨env, F, ρ, st, rl, eo, ?_⟩, PT.imp (pt_ifExp hc h2 g2) fun sg H Q ⟨env, F, ρ, st, rl, eo, q⟩ => ⟨env, F, ρ, st, rl, eo, ?_⟩⟩
  · have q : Post X.K xr (E sg) F ρ st H (bnd (evE C c env) (fun x => bnd (tru x) fun k => if k then evE C a env else evE C b env) st) (QV X.K Q) := q
    rw [← bnd_assoc] at q
    refine q.bnd.imp fun k F1 ρ1 st1 H1 rl1 sp1 q => ?_
    cases k with
    | true => exact ⟨env, F1, ρ1, st1, rl1, eo.step sp1, q⟩
    | false => exact ⟨env, F1, ρ1, st1, rl1, eo.step sp1, q⟩
  · have q : Post X.K xr (E sg) F ρ st H (bnd (bnd (evE C c env) (fun x => bnd (tru x) fun k => if k then evE C a env else evE C b env)) tru st) (fun k _ _ _ H' => Q k H') := q
    rw [bnd_assoc] at q
    have e1 : bnd (evE C c env) (fun x => bnd (bnd (tru x) fun k => if k then evE C a env else evE C b env) tru) st = bnd (bnd (evE C c env) tru) (fun k => if k then bnd (evE C a env) tru else bnd (evE C b env) tru) st := by
      unfold bnd
      cases evE C c env st with
      | ok s st1 =>
        dsimp only
        cases tru s st1 with
        | ok k st2 => cases k <;> rfl
        | _ => rfl
      | _ => rfl
    rw [e1] at q
    refine q.bnd.imp fun k F1 ρ1 st1 H1 rl1 sp1 q => ?_
    cases k with
    | true => exact ⟨env, F1, ρ1, st1, rl1, eo.step sp1, q⟩
    | false => exact ⟨env, F1, ρ1, st1, rl1, eo.step sp1, q⟩

/-! ### subscripts, slices -/
theorem snd_idx (o : XOk xr T fa fd ps k A E X) {a b : Ex} {x y : Expr} {pos : Pos} (pl : PlainE y) (ha : PE X x (tE X xr E C a)) (hb : PE X y (tE X xr E C b)) : PE X (.Subscript x y pos) (tE X xr E C (.idx a b)) := by
  refine PE.imp (pe_ix (i_ix o.hu) ha hb pl.ix) fun sg H Q ⟨env, F, ρ, st, rl, eo, q⟩ => ⟨env, F, ρ, st, rl, eo, ?_⟩
  refine (Post.bnd (m := evE C a env) q).imp fun s F1 ρ1 st1 H1 rl1 sp1 q v rv => ⟨env, F1, ρ1, st1, rl1, eo.step sp1, ?_⟩
  refine q.bnd.imp fun s2 F2 ρ2 st2 H2 rl2 sp2 q w rw' => ?_
  obtain ⟨p, hp, q⟩ := q.peek rl2 (rv.step sp2)
  obtain ⟨p2, hp2, q⟩ := q.peek rl2 rw'
  obtain ⟨s, e1, q⟩ := q.lift
  obtain ⟨z, e2, rfl⟩ := Option.map_eq_some_iff.mp e1
  exact ⟨F2, p, p2, z, rl2.sub, hp, hp2, e2, q.give rl2⟩
theorem PO.imp {X : Cx} {e : Option Expr} {t t' : TO} (h : PO X e t) (hi : ∀ sg H Q, t' sg H Q → t sg H Q) : PO X e t' := ⟨fun pz s sg H Q I q => h.run pz s sg H Q I (hi sg H Q q)⟩
theorem snd_ono : PO X none (tOx X xr E C .no) := PO.imp po_none fun sg H Q ⟨env, F, ρ, st, rl, eo, q⟩ => q.ret rl
theorem snd_oyes {a : Ex} {e : Expr} (h : PE X e (tE X xr E C a)) : PO X (some e) (tOx X xr E C (.yes a)) := by
  refine PO.imp (po_some h) fun sg H Q ⟨env, F, ρ, st, rl, eo, q⟩ => ⟨env, F, ρ, st, rl, eo, ?_⟩
  refine (Post.bnd (m := evE C a env) q).imp fun s F1 ρ1 st1 H1 rl1 sp1 q v rv => ?_
  have q : Post X.K xr (E sg) F1 ρ1 st1 H1 (bnd (peek s) (fun p => match p with | .int i => ret (some i) | _ => stuck) st1) (fun o _ _ _ H' => Q o H') := q
  obtain ⟨p, hp, q⟩ := q.peek rl1 rv
  split at q
  · exact ⟨_, hp.int_inv, q.ret rl1⟩
  · exact q.elim
theorem snd_slc {a : Ex} {lo hi : Ox} {x : Expr} {l h : Option Expr} {p2 pos : Pos} (ha : PE X x (tE X xr E C a)) (hl : PO X l (tOx X xr E C lo)) (hh : PO X h (tOx X xr E C hi)) : PE X (.Subscript x (.Slice l h none p2) pos) (tE X xr E C (.slc a lo hi)) := by
  refine PE.imp (pe_slice l_sl ha hl hh) fun sg H Q ⟨env, F, ρ, st, rl, eo, q⟩ => ⟨env, F, ρ, st, rl, eo, ?_⟩
  refine (Post.bnd (m := evE C a env) q).imp fun s F1 ρ1 st1 H1 rl1 sp1 q v rv => ⟨env, F1, ρ1, st1, rl1, eo.step sp1, ?_⟩
  refine q.bnd.imp fun l F2 ρ2 st2 H2 rl2 sp2 q => ⟨env, F2, ρ2, st2, rl2, (eo.step sp1).step sp2, ?_⟩
  refine q.bnd.imp fun h F3 ρ3 st3 H3 rl3 sp3 q => ?_
  obtain ⟨p, hp, q⟩ := q.peek rl3 ((rv.step sp2).step sp3)
  obtain ⟨s, e1, q⟩ := q.lift
  obtain ⟨z, e2, rfl⟩ := Option.map_eq_some_iff.mp e1
  exact ⟨F3, p, z, rl3.sub, hp, e2, q.give rl3⟩
end
end Fy

/-! Fy7: rows turned round, isinstance, calls of built-in functions, of methods, of defs. -/
namespace Fy
open PySem
open PySem.Spec
open PyProof.Rows
open L2

/-! ### t[::-1] of a tuple -/
theorem turn_adjust (n : Nat) : Builtin.Slice.sliceAdjust none none (-1) (n : Int) = ((n : Int) - 1, -1) := by
  (unfold Builtin.Slice.sliceAdjust)
  simp
theorem turn_places (n : Nat) : Builtin.Slice.slicePlaces ((n : Int) - 1) (-1) (-1) = n := by
  (unfold Builtin.Slice.slicePlaces)
  have h1 : ¬ ((-1 : Int) > 0) := by omega
  simp only [h1, if_false]
  split
  · rw [show (- -1 : Int) = 1 by decide, Int.ediv_one]
    omega
  · omega
theorem turn_pick (xs : Array Value) : ((List.range xs.size).filterMap fun (m : Nat) => xs[(((xs.size : Int) - 1) + (m : Int) * (-1)).toNat]?).toArray = xs.toList.reverse.toArray := by
  have e1 : (List.range xs.size).filterMap (fun (m : Nat) => xs[(((xs.size : Int) - 1) + (m : Int) * (-1)).toNat]?) = ((List.range xs.size).map fun k => xs.size - 1 - k).filterMap (xs[·]?) := by
    rw [List.filterMap_map]
    have go : ∀ l : List Nat, (∀ m ∈ l, m < xs.size) → l.filterMap (fun (m : Nat) => xs[(((xs.size : Int) - 1) + (m : Int) * (-1)).toNat]?) = l.filterMap ((xs[·]?) ∘ fun k => xs.size - 1 - k) := by
      intro l
      induction l with
      | nil => exact fun _ => rfl
      | cons m r ih =>
        intro hl
        have := hl m (List.mem_cons_self ..)
        have e : (((xs.size : Int) - 1) + (m : Int) * (-1)).toNat = xs.size - 1 - m := by omega
        rw [List.filterMap_cons, List.filterMap_cons, ih fun m hm => hl m (List.mem_cons_of_mem _ hm), e]
        rfl
    exact go _ fun m hm => List.mem_range.mp hm
  rw [e1, PySem.W.krv_range, List.filterMap_reverse, PySem.W.krv_all]
section
variable {prog : Program}
variable {w : World}
variable {A : Around}
variable {E : Value → Shared → Prop}
variable {s : Shared}
theorem applied_turn {sl : Addr} {vk : Value} {n : Nat} {Q : Int × Int × Nat → Shared → Prop} (hs : s.heap.IsSliceOf sl .none .none vk) (pk : IsPart vk (some (-1)))
    (h : Q ((n : Int) - 1, -1, n) s) : wpAny (model prog w) A (Builtin.Slice.sliceApplied (.ref sl) (pure (n : Int))) Q E s := by
  (obtain ⟨os, hos, hcs, hds⟩ := id hs)
  (unfold Builtin.Slice.sliceApplied Builtin.Slice.sliceFields)
  refine wpAny_bind (wpAny_bind (wpAny_field hos hds (x := .none) rfl (wpAny_bind (wpAny_field hos hds (x := .none) rfl (wpAny_bind (wpAny_field hos hds (x := vk) rfl (wpAny_pure ?_)))))))
  refine wpAny_bind (HT.slicePart_ pk ?_)
  show wpAny _ _ (if ((-1 : Int) == 0) = true then _ else _) _ _ s
  rw [if_neg (by decide)]
  refine wpAny_bind (slicePart_none (wpAny_bind (slicePart_none (wpAny_bind (wpAny_pure ?_)))))
  show wpAny _ _ (match Builtin.Slice.sliceAdjust none none (-1) (n : Int) with | (lo, hi) => pure (lo, (-1 : Int), Builtin.Slice.slicePlaces lo hi (-1))) _ _ s
  rw [turn_adjust n]
  show wpAny _ _ (pure ((n : Int) - 1, (-1 : Int), Builtin.Slice.slicePlaces ((n : Int) - 1) (-1) (-1))) _ _ s
  rw [turn_places]
  exact wpAny_pure h
theorem item_turned {t sl : Addr} {items : Array Value} {vk : Value} {Q : Value → Shared → Prop} (ht : IsTup s.heap t items) (hs : s.heap.IsSliceOf sl .none .none vk) (pk : IsPart vk (some (-1)))
    (h : Q (.ref s.heap.objs.size) { s with heap := s.heap.push { cls := .type "tuple", data := .seq items.toList.reverse.toArray } }) (hsz : items.size ≤ sizeLine) : wpAny (model prog w) A (getItem (.ref t) (.ref sl)) Q E s := by
  have htake : sizeOk (.seq items.toList.reverse.toArray) := by
    show items.toList.reverse.toArray.size ≤ sizeLine
    rw [List.size_toArray, List.length_reverse, Array.length_toList]
    exact hsz
  (obtain ⟨os, hos, hcs, hds⟩ := id hs)
  (have hTs : s.TypeIs (.ref sl) "slice" := ⟨os, hos, hcs⟩)
  unfold getItem
  (try with_reducible refine wpAny_holding ?_)
  (first | refine wpAny_bind (wpAny_pure ?_) | skip)
  (refine wpAny_bind (wpAny_sequenceKey ht.typeIs (by decide) ?_))
  refine wpAny_bind (wpAny_callSpecial?_slot (name := Str.ofString "__getitem__") ht.typeIs PyProof.Rows.slot_tuple_getitem (wpAny_call_entry PyProof.Rows.slot_tuple_getitem ht.typeIs entry_tuple_getitem ?_ (args_tuple_getitem _ _)))
  (show wpAny _ _ (Builtin.Tuple.tupleItemsOf (.ref t) >>= _) _ _ s)
  (refine wpAny_bind (tupleItemsOf_ ht ?_))
  (refine wpAny_bind (wpAny_typeOf hTs ?_))
  rw [if_pos (by decide)]
  refine wpAny_bind (applied_turn hs pk ?_)
  have hno : ¬ ((((items.size : Int) - 1) == 0 && (-1 : Int) == 1 && items.size == items.size) = true) := by
    intro q
    (rw [Bool.and_eq_true, Bool.and_eq_true] at q)
    exact absurd q.1.2 (by decide)
  show wpAny _ _ (if (((items.size : Int) - 1) == 0 && (-1 : Int) == 1 && items.size == items.size) = true then _ else _) _ _ s
  rw [if_neg hno, turn_pick]
  first
    | (exact wpAny_bind (m := Builtin.Tuple.tupleExact _) (wpAny_newObj_type (wpAny_pure ⟨_, rfl, wpAny_pure h⟩) htake))
    | (exact wpAny_bind (m := Builtin.Tuple.tupleExact _) (wpAny_newObj_type (wpAny_bind (wpAny_pure (wpAny_pure ⟨_, rfl, wpAny_pure h⟩))) htake))
    | (exact wpAny_bind (wpAny_bind (m := Builtin.Tuple.tupleExact _) (wpAny_newObj_type (wpAny_pure (wpAny_pure ⟨_, rfl, wpAny_pure h⟩)) htake)))
    | (exact wpAny_bind (wpAny_bind (m := Builtin.Tuple.tupleExact _) (wpAny_newObj_type (wpAny_pure ⟨_, rfl, wpAny_pure h⟩) htake)))
end
section
variable {xr : XR} {T : Tab} {fa : Nat → Addr} {fd : Nat → FuncData} {ps : Nat → List Str} {k : Nat} {A : Agr} {E : L2.St → XK} {X : Cx} {C : Ev}
def tRevT (K : PySem.W.Frag) (te : TE) : TE := fun sg H Q => te sg H fun x H1 => ∃ a xs, x = .ref a ∧ SqT K H1 a xs ∧ ∀ p, H1 p = none → Q (.ref p) (upd H1 p (.tup xs.reverse))
def tRevB (K : PySem.W.Frag) (te : TE) : TE := fun sg H Q => te sg H fun x H1 => (∃ a xs, x = .ref a ∧ SqL K H1 a xs ∧ ∀ p, H1 p = none → Q (.ref p) (upd H1 p (.lst xs.reverse))) ∨ ∃ a xs, x = .ref a ∧ SqT K H1 a xs ∧ ∀ p, H1 p = none → Q (.ref p) (upd H1 p (.tup xs.reverse))
theorem pe_revB {e : Expr} {te : TE} {k : Nat} {p1 p2 p3 pos : Pos} (he : PE X e te) : PE X (.Subscript e (.Slice none none (some (.UnaryOp .USub (.Constant (.int 1) k p1) p2)) p3) pos) (tRevB X.K te) := by
  refine ⟨fun pz s sg H Q I h => ?_⟩
  refine Subscript_ (thn (he.run pz s sg H _ I h) fun v s1 ⟨x, H1, I1, r1, q1⟩ => ?_)
  (have hst : PO X (some (.UnaryOp .USub (.Constant (.int 1) k p1) p2)) (tPart (tUn (rU fun i => .int (-i)) (tC (.int 1)))) := po_some (pe_un un_neg pe_int))
  refine wpAny_Slice (thn (po_none.run pz s1 sg H1 (fun o H2 => o = none ∧ H2 = H1) I1 ⟨rfl, rfl⟩) fun vl s2 ⟨l, H2, I2, pl, el, e2⟩ => ?_)
  subst el e2
  refine thn (po_none.run pz s2 sg H2 (fun o H3 => o = none ∧ H3 = H2) I2 ⟨rfl, rfl⟩) fun vu s3 ⟨u, H3, I3, pu, eu, e3⟩ => ?_
  subst eu e3
  refine thn (hst.run pz s3 sg H3 (fun o H4 => o = some (-1) ∧ H4 = H3) I3 ⟨1, rfl, -1, rfl, rfl, rfl⟩) fun vs s4 ⟨o, H4, I4, ps, eo, e4⟩ => ?_
  subst eo e4
  have I5 : Inv X pz sg H4 { s4 with heap := s4.heap.push { cls := .type "slice", data := .fields #[vl, vu, vs] } } := I4.kept (t' := s4.toks) fun b ob q => Heap.get?_push_of_some _ q
  cases pl
  cases pu
  rcases q1 with ⟨a, xs, ex, hx, q⟩ | ⟨a, xs, ex, hx, q⟩
  · subst ex
    cases r1
    (obtain ⟨its, r, ht, hz⟩ := I5.list hx)
    have hlen := r.length
    show wpAny (model X.prog X.w) X.A (subscriptTail e (.Slice none none (some (.UnaryOp .USub (.Constant (.int 1) k p1) p2)) p3) (.ref a) (.ref s4.heap.objs.size)) (EP X pz sg Q) X.xe { s4 with heap := s4.heap.push { cls := .type "slice", data := .fields #[.none, .none, vs] } }
    (refine tail_any (ops := [.ref a, .ref s4.heap.objs.size]) ht.isList.typeIs (PySem.slot_list_getitem.lookup) ?_ (by with_unfolding_all rfl))
    refine wpAny_getItem_list_slice ht.isList (Heap.IsSliceOf.new _ .none .none vs) .none .none ps (by decide) ?_ (by rw [List.size_toArray]; omega)
    rw [PySem.W.krv_pick]
    (refine ⟨.ref _, _, I5.laid (t' := s4.toks) (o := .lst xs.reverse) (fun b ob q => Heap.get?_push_of_some _ q) (Nat.le_refl _) ?_, rfl, q _ (I5.hok.fresh (Nat.le_refl _))⟩)
    (exact ⟨by rw [List.length_reverse]; exact hz, _, 0, r.reverse, Heap.get?_push_size _ rfl⟩)
  · subst ex
    cases r1
    obtain ⟨its, r, ht, hz⟩ := I5.tuple hx
    have hlen := r.length
    show wpAny (model X.prog X.w) X.A (subscriptTail e (.Slice none none (some (.UnaryOp .USub (.Constant (.int 1) k p1) p2)) p3) (.ref a) (.ref s4.heap.objs.size)) (EP X pz sg Q) X.xe { s4 with heap := s4.heap.push { cls := .type "slice", data := .fields #[.none, .none, vs] } }
    refine tail_any (ops := [.ref a, .ref s4.heap.objs.size]) ht.typeIs (PyProof.Rows.slot_tuple_getitem.lookup) ?_ (by with_unfolding_all rfl)
    refine item_turned ht (Heap.IsSliceOf.new _ .none .none vs) ps ?_ (by rw [List.size_toArray]; omega)
    refine ⟨.ref _, _, I5.laid (t' := s4.toks) (o := .tup xs.reverse) (fun b ob q => Heap.get?_push_of_some _ q) (Nat.le_refl _) ?_, rfl, q _ (I5.hok.fresh (Nat.le_refl _))⟩
    exact ⟨by rw [List.length_reverse]; exact hz, _, r.reverse, IsTup.new _ _⟩
theorem snd_rev {a : Ex} {x : Expr} {j : Nat} {p1 p2 p3 pos : Pos} (ha : PE X x (tE X xr E C a)) : PE X (.Subscript x (.Slice none none (some (.UnaryOp .USub (.Constant (.int 1) j p1) p2)) p3) pos) (tE X xr E C (.rev a)) := by
  refine PE.imp (pe_revB ha) fun sg H Q ⟨env, F, ρ, st, rl, eo, q⟩ => ⟨env, F, ρ, st, rl, eo, ?_⟩
  refine (Post.bnd (m := evE C a env) q).imp fun s F1 ρ1 st1 H1 rl1 sp1 q v rv => ?_
  obtain ⟨p, hp, q⟩ := q.peek rl1 rv
  obtain ⟨s, e1, q⟩ := q.lift
  obtain ⟨z, e2, rfl⟩ := Option.map_eq_some_iff.mp e1
  have g := q.give rl1
  cases p with
  | lst xs =>
    cases e2
    obtain ⟨a, vs, rfl, ha, ra⟩ := hp.lst_inv rl1.sub
    exact .inl ⟨a, vs, rfl, .of ha, fun p n => g.lst rl1.sub p _ n ra.reverse⟩
  | tup xs =>
    cases e2
    obtain ⟨a, vs, rfl, ha, ra⟩ := hp.tup_inv rl1.sub
    exact .inr ⟨a, vs, rfl, ha, fun p n => g.tup rl1.sub n ra.reverse⟩
  | _ => cases e2

/-! ### isinstance -/
theorem Pk.no_ins {K : PySem.W.Frag} {F H : Hp} {v : V} {p : P} (h : Pk K F H v p) : ∀ c fs, p ≠ .ins c fs := by
  rintro c fs rfl
  rcases h with h | ⟨_, _, _, _, ⟨_, _, e, _⟩ | ⟨_, _, e, _⟩⟩
  · cases h
  · cases e
  · cases e
theorem boot_ty (t : Ty) : bootBuiltins (PySem.Str.ofString (tyN t)) = some (.type (tyN t)) := by
  cases t <;> decide +kernel
theorem okN_ty {A : Agr} {x : Str} (h : bltC A x = true) : True := trivial
theorem pe_type (o : XOk xr T fa fd ps k A E X) {t : Ty} {x : Str} {pos : Pos} (e : x = PySem.Str.ofString (tyN t)) (h : bltC A x = true) : PE X (.Name x pos) (tC (.ty (tyN t))) := by
  obtain ⟨h1, h2, h3, h4⟩ := o.blt' h
  exact pe_bltn h1 h2 (by rw [e]; exact boot_ty t) rfl h4 h3
def tTys (ts : List Ty) : TA := fun _ H Q => Q (ts.map fun t => .ty (tyN t)) H
theorem pa_types (o : XOk xr T fa fd ps k A E X) : ∀ {ts : List Ty} {es : List Expr}, tyC A ts es = true → PA X es (tTys ts) ∧ es.length = ts.length
  | [], [], _ => ⟨PA.imp pa_nil fun sg H Q q => q, rfl⟩
  | [], _ :: _, h => by cases h
  | t :: ts, es, h => by
    have h : (match (generalizing := false) es with | .Name x _ :: r => decide (x = PySem.Str.ofString (tyN t)) && bltC A x && tyC A ts r | _ => false) = true := h
    split at h
    · simp only [decide_eq_true_eq, Bool.and_eq_true] at h
      obtain ⟨⟨h1, h2⟩, h3⟩ := h
      obtain ⟨g1, g2⟩ := pa_types o h3
      exact ⟨PA.imp (pa_cons (pe_type o h1 h2) g1 rfl) fun sg H Q q => q, congrArg (· + 1) g2⟩
    · cases h
theorem snd_isi (o : XOk xr T fa fd ps k A E X) {a : Ex} {ts : List Ty} {many : Bool} {f : Str} {x t : Expr} {p1 pos : Pos} (h : agE A (.isi a ts many) (.Call (.Name f p1) [x, t] [] pos) = true) (pl : PlainE x) (ha : PE X x (tE X xr E C a)) :
    PE X (.Call (.Name f p1) [x, t] [] pos) (tE X xr E C (.isi a ts many)) := by
  have h : (decide (f = PySem.Str.ofString "isinstance") && bltC A f && agE A a x && (if many then (match (generalizing := false) t with | .Tuple es _ _ => tyC A ts es && decide (es.length ≤ 1000) | _ => false) else tyC A ts [t])) = true := h
  simp only [decide_eq_true_eq, Bool.and_eq_true] at h
  obtain ⟨⟨⟨h1, h2⟩, _⟩, h3⟩ := h
  obtain ⟨g1, g2, g3, g4⟩ := o.blt' h2
  have hb : bootBuiltins f = some (.builtin "isinstance") := by rw [h1]; exact boot_isinstance
  cases many with
  | false =>
    rw [if_neg Bool.false_ne_true] at h3
    obtain ⟨hp, hl⟩ := pa_types o h3
    obtain ⟨ty, rfl⟩ : ∃ ty, ts = [ty] := by
      match ts, hl with
      | [ty], _ => exact ⟨ty, rfl⟩
    have hx : plainC t = true := by
      have h3 : (match (generalizing := false) [t] with | .Name x _ :: r => decide (x = PySem.Str.ofString (tyN ty)) && bltC A x && tyC A [] r | _ => false) = true := h3
      split at h3
      · rename_i he
        cases he
        rfl
      · cases h3
    refine PE.imp (pe_callB b_is1 g1 g2 hb (pa_cons ha hp (pl.star _ _)) g4 g3 (pl.star _ _) (back_plain pos fun q hq => ?_)) fun sg H Q ⟨env, F, ρ, st, rl, eo, q⟩ => ⟨env, F, ρ, st, rl, eo, ?_⟩
    · rw [(plain_of hx).star] at hq
      (rcases List.mem_cons.mp hq with rfl | hq)
      · rfl
      · cases hq
    · refine (Post.bnd (m := evE C a env) q).imp fun s F1 ρ1 st1 H1 rl1 sp1 q v rv => ?_
      obtain ⟨p, hp, q⟩ := q.peek rl1 rv
      exact ⟨F1, v, p, ty, rfl, rl1.sub, hp, hp.no_ins, by simpa using q.ret rl1 (.bl ([ty].any fun t => isTy t p)) (.bl _)⟩
  | true =>
    rw [if_pos rfl] at h3
    split at h3
    · rename_i es kk tp
      rw [Bool.and_eq_true, decide_eq_true_eq] at h3
      obtain ⟨hp, hl⟩ := pa_types o h3.1
      refine PE.imp (pe_callB b_isN g1 g2 hb (pa_cons ha (pa_cons (pe_tup hp) pa_nil rfl) (pl.star _ _)) g4 g3 (pl.star _ _) rfl) fun sg H Q ⟨env, F, ρ, st, rl, eo, q⟩ => ⟨env, F, ρ, st, rl, eo, ?_⟩
      refine (Post.bnd (m := evE C a env) q).imp fun s F1 ρ1 st1 H1 rl1 sp1 q v rv => ?_
      obtain ⟨p, hp, q⟩ := q.peek rl1 rv
      refine ⟨by rw [List.length_map, ← hl]; exact Nat.le_trans h3.2 (by decide), fun tp n => ?_⟩
      have nw : New F1 H1 F1 (upd H1 tp (.tup (ts.map fun t => V.ty (tyN t)))) := by
        refine ⟨.refl _, Sub.new n, fun a o e => ?_, fun a h => .inl h⟩
        exact Sub.new n a o (rl1.sub a o e)
      refine ⟨F1, v, tp, p, ts, rfl, by rw [upd_same], (rl1.new nw).sub, ?_, hp.no_ins, ?_⟩
      · rcases hp with hp | ⟨a, ho, e1, e2, e3⟩
        · exact .inl hp
        · exact .inr ⟨a, ho, e1, Sub.new n _ _ e2, e3⟩
      · exact Post.okHere (Post.shift q (.new nw)) (rl1.new nw) _ (.bl _)
    · cases h3
end
end Fy

/-! Fy8: calls of built-in functions, of methods, of defs. -/
namespace Fy
open PySem
open PySem.Spec
open PyProof.Rows
open L2
section
variable {xr : XR} {T : Tab} {fa : Nat → Addr} {fd : Nat → FuncData} {ps : Nat → List Str} {k : Nat} {A : Agr} {E : L2.St → XK} {X : Cx} {C : Ev}

/-! ### built-in functions -/
inductive BltFn (X : Cx) (b : Blt) : Prop
  | fn (id : String) : CallR X (.builtin id) (rPn X.K (bltP b)) → bootBuiltins (bltN b) = some (.builtin id) → BltFn X b
  | ty (id : String) : CallR X (.type id) (rPn X.K (bltP b)) → bootBuiltins (bltN b) = some (.type id) → BltFn X b
theorem CallR.imp {f : Value} {r r' : List V → Hp → VK → Prop} (h : CallR X f r) (hi : ∀ xs H Q, r' xs H Q → r xs H Q) : CallR X f r' := fun pz s sg H xs us Q I rs q => h pz s sg H xs us Q I rs (hi _ _ _ q)
theorem blt_fn (o : XOk xr T fa fd ps k A E X) (b : Blt) (hk : b.known = true) : BltFn X b := by
  have hc := o.calm
  cases b with
  | len => exact .fn _ b_len (by decide +kernel)
  | all => exact .fn _ (b_all hc) (by decide +kernel)
  | any => exact .fn _ (b_any hc) (by decide +kernel)
  | abs => exact .fn _ b_abs (by decide +kernel)
  | int => exact .ty _ b_int (by decide +kernel)
  | bool => exact .ty _ b_bool (by decide +kernel)
  | min2 => exact .fn _ (b_min2 hc) (by decide +kernel)
  | max2 => exact .fn _ (b_max2 hc) (by decide +kernel)
  | str => exact .ty _ b_str (by decide +kernel)
  | tup => exact .ty _ b_tup (by decide +kernel)
  | lst =>
    refine .ty "list" (CallR.imp b_lst fun xs H Q ⟨F, ps, z, sf, hp, e, g⟩ => ?_) (by decide +kernel)
    cases ps with
    | nil => cases e
    | cons p r =>
      cases r with
      | cons _ _ => cases p <;> cases e
      | nil =>
        obtain ⟨v, rfl, hp1⟩ := hp.one
        cases p with
        | lst ys =>
          cases e
          exact ⟨F, v, ys, _, rfl, sf, hp1, .inl rfl, g.lst sf⟩
        | tup ys =>
          cases e
          exact ⟨F, v, ys, _, rfl, sf, hp1, .inr rfl, g.lst sf⟩
        | _ => cases e
  | sorted =>
    refine .fn "sorted" (CallR.imp (b_sorted o.hu) fun xs H Q ⟨F, ps, z, sf, hp, e, g⟩ => ?_) (by decide +kernel)
    cases ps with
    | nil => cases e
    | cons p r =>
      cases r with
      | cons _ _ => cases p <;> cases e
      | nil =>
        obtain ⟨v, rfl, hp1⟩ := hp.one
        cases p with
        | lst ys =>
          have e : (if canSort ys then some (P.lst (sortL ys)) else none) = some z := e
          split at e
          · rename_i hs
            cases e
            exact ⟨F, v, ys, rfl, sf, hp1, hs, g.lst sf⟩
          · cases e
        | _ => cases e
  | sum => cases hk
theorem snd_blt (o : XOk xr T fa fd ps k A E X) {b : Blt} {xs : Exs} {f : Str} {e : Expr} {es : List Expr} {p pos : Pos} (hf : f = bltN b) (hk : b.known = true) (hb : bltC A f = true) (hs : AllE X xr E C xs (e :: es)) :
    PE X (.Call (.Name f p) (e :: es) [] pos) (tE X xr E C (.blt b xs)) := by
  obtain ⟨g1, g2, g3, g4⟩ := o.blt' hb
  have key : ∀ {sg : L2.St} {H : Hp} {Q : VK}, tE X xr E C (.blt b xs) sg H Q → tCB (rPn X.K (bltP b)) (tEs X xr E C xs) sg H Q := fun ⟨env, F, ρ, st, rl, eo, q⟩ => by
    refine ⟨env, F, ρ, st, rl, eo, ?_⟩
    refine (Post.bnd (m := evEs C xs env) q).imp fun ss F1 ρ1 st1 H1 rl1 sp1 q vs rvs => ?_
    obtain ⟨ps, hp, q⟩ := peeks_post (f := fun ps => lift ((bltP b ps).map Sl.val)) rl1 rvs q
    obtain ⟨s, e1, q⟩ := q.lift
    obtain ⟨z, e2, rfl⟩ := Option.map_eq_some_iff.mp e1
    exact ⟨F1, ps, z, rl1.sub, hp, e2, q.give rl1⟩
  cases blt_fn o b hk with
  | fn id h1 h2 => exact PE.imp (pe_callB h1 g1 g2 (by rw [hf]; exact h2) hs.pa g4 g3 hs.head (back_plain pos hs.tail)) fun sg H Q h => key h
  | ty id h1 h2 => exact PE.imp (pe_callTy h1 g1 g2 (by rw [hf]; exact h2) hs.pa g4 g3 hs.head (back_plain pos hs.tail)) fun sg H Q h => key h

/-! ### methods -/
/-- a method of ours: its type, its entry -/
structure MthFn (X : Cx) (m : Mth) (r : V → List V → Hp → VK → Prop) (T id : String) : Prop where
  pa : PlainAttrs T
  slot : Slot T (mthN m) id
  ty : typeOf (.builtin id) = pure (.type "method_descriptor")
  rule : MtR X id r
theorem f_upper : MthFn X .upper (rMt X.K .upper) "str" "str.upper" := ⟨PySem.F.plainAttrs_str, PySem.F.slot_str_upper, PySem.F.type_str_upper, m_upper⟩
theorem f_get2 (o : XOk xr T fa fd ps k A E X) : MthFn X .get2 (rMt X.K .get2) "dict" "dict.get" := ⟨PySem.F.plainAttrs_dict, PySem.F.slot_dict_get, PySem.F.type_dict_get, m_get2 o.hu⟩
theorem f_append : MthFn X .append (rMc X.K .append) "list" "list.append" := ⟨PySem.F.plainAttrs_list, PySem.F.slot_list_append, PySem.F.type_list_append, m_append⟩
theorem f_pop1 : MthFn X .pop1 (rMc X.K .pop1) "list" "list.pop" := ⟨PySem.F.plainAttrs_list, PySem.F.slot_list_pop, PySem.F.type_list_pop, m_pop1⟩
theorem f_insert : MthFn X .insert (rMc X.K .insert) "list" "list.insert" := ⟨PySem.F.plainAttrs_list, PySem.F.slot_list_insert, PySem.F.type_list_insert, m_insert⟩
theorem few_ok {es : List Expr} {env : PySem.Env} {pos : Pos} (h : ∀ p ∈ starEach es env, p.1 = false) (hl : es.length ≤ 2) :
    ((backTo pos (starEach es env)).all (fun x => !x.1) && (backToKw pos (keywordEach [] env)).all (fun x => x.1.isSome) && decide (es.length + ([] : List Keyword).length + (if ([] : List Keyword).isEmpty then 0 else 1) < 30)) = true := by
  rw [back_all pos h]
  have : decide (es.length + ([] : List Keyword).length + (if ([] : List Keyword).isEmpty then 0 else 1) < 30) = true := by
    refine decide_eq_true ?_
    simp
    omega
  rw [this]
  rfl
/-- the two readings of a method's call are one -/
theorem pe_method {m : Mth} {r : V → List V → Hp → VK → Prop} {Ty id : String} (f : MthFn X m r Ty id) {ob : Ex} {xs : Exs} {x : Expr} {es : List Expr} {p1 p2 : Pos} (pl : PlainE x) (hl : (p1.endLine == p2.line) = true) (h2 : es.length ≤ 2)
    (ho : PE X x (tE X xr E C ob)) (hs : AllE X xr E C xs es) {t : TE} (ht : ∀ sg H Q, t sg H Q → tBM X.K Ty r (tE X xr E C ob) (tEs X xr E C xs) sg H Q) :
    PE X (.Call (.Attribute x (mthN m) p1) es [] p2) t := by
  cases es with
  | nil =>
    cases xs with
    | cons _ _ => exact hs.elim
    | nil =>
      refine PE.imp (pe_bm0 f.pa f.slot f.ty f.rule ho (pl.base _ _) hl) fun sg H Q h => ?_
      obtain ⟨env, F, ρ, st, rl, eo, q⟩ := ht sg H Q h
      refine ⟨env, F, ρ, st, rl, eo, q.imp fun s F1 ρ1 st1 H1 rl1 sp1 q v rv => ?_⟩
      obtain ⟨ty, env2, F2, ρ2, st2, rl2, eo2, q⟩ := q v rv
      exact ⟨ty, q.ret rl2 [] .nil⟩
  | cons e es =>
    exact PE.imp (pe_bm f.pa f.slot f.ty f.rule ho hs.pa (pl.base _ _) (few_ok hs.plain h2) hl hs.head (back_plain p2 hs.tail)) ht
theorem Pk.ty_lst {K : PySem.W.Frag} {F H : Hp} {v : V} {xs : List P} (s : Sub F H) (h : Pk K F H v (.lst xs)) : tyV K "list" v H := by
  obtain ⟨a, vs, rfl, ha, _⟩ := h.lst_inv s
  exact .inl ⟨rfl, vs, .of ha⟩
theorem Pk.ty_dct {K : PySem.W.Frag} {F H : Hp} {v : V} {xs : List (P × P)} (s : Sub F H) (h : Pk K F H v (.dct xs)) : tyV K "dict" v H := by
  obtain ⟨a, vs, rfl, ha, _⟩ := h.dct_inv s
  exact .inr (.inr (.inl ⟨rfl, .inl ⟨vs, ha⟩⟩))
theorem Pk.ty_str {K : PySem.W.Frag} {F H : Hp} {v : V} {x : Str} (h : Pk K F H v (.str x)) : tyV K "str" v H := by
  rw [h.str_inv]
  rfl
/-- the objects that have m are of type Ty -/
def MthT (m : Mth) (Ty : String) : Prop := ∀ p, m.of p = true → (∃ x, p = .str x ∧ Ty = "str") ∨ (∃ x, p = .lst x ∧ Ty = "list") ∨ ∃ x, p = .dct x ∧ Ty = "dict"
theorem mth_ty {K : PySem.W.Frag} {F H : Hp} {v : V} {p : P} {m : Mth} {Ty : String} (s : Sub F H) (h : Pk K F H v p) (e : m.of p = true) (hT : MthT m Ty) : tyV K Ty v H := by
  rcases hT p e with ⟨x, rfl, rfl⟩ | ⟨x, rfl, rfl⟩ | ⟨x, rfl, rfl⟩
  · exact h.ty_str
  · exact h.ty_lst s
  · exact h.ty_dct s
theorem mT_upper : MthT .upper "str" := fun p e => by
  cases p <;> first | cases e; done | exact .inl ⟨_, rfl, rfl⟩
theorem mT_get2 : MthT .get2 "dict" := fun p e => by
  cases p <;> first | cases e; done | exact .inr (.inr ⟨_, rfl, rfl⟩)
theorem mT_append : MthT .append "list" := fun p e => by
  cases p <;> first | cases e; done | exact .inr (.inl ⟨_, rfl, rfl⟩)
theorem mT_pop1 : MthT .pop1 "list" := fun p e => by
  cases p <;> first | cases e; done | exact .inr (.inl ⟨_, rfl, rfl⟩)
theorem mT_insert : MthT .insert "list" := fun p e => by
  cases p <;> first | cases e; done | exact .inr (.inl ⟨_, rfl, rfl⟩)
/-- the reading of a method's call, up to the call itself -/
theorem mth_in {m : Mth} {r : V → List V → Hp → VK → Prop} {Ty : String} {ob : Ex} {xs : Exs} {sg : L2.St} {H : Hp} {Q : VK} (hT : MthT m Ty)
    (hr : ∀ F ρ st H x ss v vs, Rel X.K F ρ st H → RepS X.K F ρ st.length v x → RepSs X.K F ρ st.length vs ss → Post X.K xr (E sg) F ρ st H (mthM m x ss st) (QV X.K Q) → r v vs H Q) (h : tE X xr E C (.mth m ob xs) sg H Q) : tBM X.K Ty r (tE X xr E C ob) (tEs X xr E C xs) sg H Q := by
  obtain ⟨env, F, ρ, st, rl, eo, q⟩ := h
  refine ⟨env, F, ρ, st, rl, eo, ?_⟩
  refine (Post.bnd (m := evE C ob env) q).imp fun s F1 ρ1 st1 H1 rl1 sp1 q v rv => ?_
  obtain ⟨p, hp, q⟩ := Post.peek (f := fun p => if m.of p then bnd (evEs C xs env) fun vs => mthM m s vs else stuck) q rl1 rv
  cases e : m.of p with
  | false =>
    rw [e] at q
    exact q.elim
  | true =>
    rw [e, if_pos rfl] at q
    refine ⟨mth_ty rl1.sub hp e hT, env, F1, ρ1, st1, rl1, eo.step sp1, ?_⟩
    exact q.bnd.imp fun ss F2 ρ2 st2 H2 rl2 sp2 q vs rvs => hr F2 ρ2 st2 H2 s ss v vs rl2 (rv.step sp2) rvs q
theorem mt_pure {m : Mth} (hm : m.mut = false) {sg : L2.St} {Q : VK} (F : Hp) (ρ : List Addr) (st : Sto) (H : Hp) (x : Sl) (ss : List Sl) (v : V) (vs : List V) (rl : Rel X.K F ρ st H) (rv : RepS X.K F ρ st.length v x) (rvs : RepSs X.K F ρ st.length vs ss) (q : Post X.K xr (E sg) F ρ st H (mthM m x ss st) (QV X.K Q)) : rMt X.K m v vs H Q := by
  have e : mthM m x ss = bnd (peek x) fun p => lift ((vals ss).bind fun ps => (mthP m p ps).map Sl.val) := by
    unfold mthM
    rw [hm]
    rfl
  rw [e] at q
  obtain ⟨p, hp, q⟩ := q.peek rl rv
  obtain ⟨s, e1, q⟩ := q.lift
  obtain ⟨ps, e2, e3⟩ := Option.bind_eq_some_iff.mp e1
  obtain ⟨z, e4, rfl⟩ := Option.map_eq_some_iff.mp e3
  exact ⟨F, p, ps, z, rl.sub, hp, vals_reps rvs e2, e4, q.give rl⟩
end
/-! ### a cell changes -/
section
variable {K : PySem.W.Frag} {F H : Hp} {ρ : List Addr} {st : Sto}
theorem Own.set {n : Nat} {c : Cell} {a : Addr} (hn : n < st.length) (h : Own F ρ (st.set n c) a) (hl : ∃ c0, st[n]? = some c0 ∧ c0.live) : Own F ρ st a := by
  rcases h with h | ⟨k, c1, h1, h2, h3⟩
  · exact .inl h
  · by_cases q : k = n
    · subst q
      obtain ⟨c0, h4, h5⟩ := hl
      exact .inr ⟨k, c0, h4, h5, h3⟩
    · rw [List.getElem?_set_ne (Ne.symm q)] at h1
      exact .inr ⟨k, c1, h1, h2, h3⟩
theorem Rel.set (rl : Rel K F ρ st H) {n : Nat} {c c' : Cell} {a : Addr} {ho' : HO} (e : st[n]? = some c) (hl : c.live) (hl' : c'.live) (ha : ρ[n]? = some a) (ok : CellOk K F ho' c') : Rel K F ρ (st.set n c') (upd H a ho') := by
  obtain ⟨a', ho, h1, h2, h3, h4⟩ := rl.cell n c e hl
  rw [ha] at h1
  cases h1
  have hn : n < st.length := (List.getElem?_eq_some_iff.mp e).1
  have get : ∀ (k : Nat) (ck : Cell), (st.set n c')[k]? = some ck → (k = n ∧ ck = c') ∨ (k ≠ n ∧ st[k]? = some ck) := fun k ck h => by
    by_cases q : k = n
    · subst q
      rw [List.getElem?_set_self hn] at h
      cases h
      exact .inl ⟨rfl, rfl⟩
    · rw [List.getElem?_set_ne (Ne.symm q)] at h
      exact .inr ⟨q, h⟩
  have old : ∀ (k : Nat) (ck : Cell), (st.set n c')[k]? = some ck → ck.live → ∃ c0, st[k]? = some c0 ∧ c0.live := fun k ck h1 h2 => by
    rcases get k ck h1 with ⟨rfl, _⟩ | ⟨_, h⟩
    · exact ⟨c, e, hl⟩
    · exact ⟨ck, h, h2⟩
  refine ⟨by rw [List.length_set]; exact rl.len, fun b o hb => ?_, fun k ck hk hlk => ?_, fun m k cm ck b h1 h2 h3 h4 h5 h6 => ?_⟩
  · have : b ≠ a := by
      rintro rfl
      rw [h2] at hb
      cases hb
    rw [upd_ne this]
    exact rl.sub b o hb
  · rcases get k ck hk with ⟨rfl, rfl⟩ | ⟨q, h⟩
    · exact ⟨a, ho', ha, h2, by rw [upd_same], ok⟩
    · obtain ⟨b, hb, g1, g2, g3, g4⟩ := rl.cell k ck h hlk
      refine ⟨b, hb, g1, g2, ?_, g4⟩
      have : b ≠ a := by
        rintro rfl
        exact q (rl.inj k n ck c b h hlk e hl g1 ha)
      rw [upd_ne this]
      exact g3
  · obtain ⟨c1, g1, g2⟩ := old m cm h1 h2
    obtain ⟨c2, g3, g4⟩ := old k ck h3 h4
    exact rl.inj m k c1 c2 b g1 g2 g3 g4 h5 h6
theorem Step.set (rl : Rel K F ρ st H) {n : Nat} {c c' : Cell} {a : Addr} {ho' : HO} (e : st[n]? = some c) (hl : c.live) (ha : ρ[n]? = some a) : Step st.length F ρ st H F ρ (st.set n c') (upd H a ho') := by
  have hn : n < st.length := (List.getElem?_eq_some_iff.mp e).1
  obtain ⟨a', ho, h1, h2, h3, h4⟩ := rl.cell n c e hl
  rw [ha] at h1
  cases h1
  refine ⟨.refl _, fun _ _ _ h => h, by rw [List.length_set]; exact Nat.le_refl _, fun b o hb no => ?_, fun b _ ob => ob.set hn ⟨c, e, hl⟩, fun b hb => ?_⟩
  · have : b ≠ a := by
      rintro rfl
      exact no (.inr ⟨n, c, e, hl, ha⟩)
    rw [upd_ne this]
    exact hb
  · by_cases q : b = a
    · subst q
      rw [upd_same]
      exact fun z => nomatch z
    · rw [upd_ne q]
      exact hb
end
section
variable {xr : XR} {T : Tab} {fa : Nat → Addr} {fd : Nat → FuncData} {ps : Nat → List Str} {k : Nat} {A : Agr} {E : L2.St → XK} {X : Cx} {C : Ev}
theorem mthC_live {m : Mth} {c : Cell} {ps : List P} {r : P × Cell} (e : mthC m c ps = some r) : c.live ∧ r.2.live ∧ ∀ xs, c ≠ .lck xs := by
  unfold mthC at e
  split at e
  · split at e
    · cases e
      exact ⟨trivial, trivial, fun _ z => nomatch z⟩
    · cases e
  · split at e
    · obtain ⟨_, _, rfl⟩ := Option.map_eq_some_iff.mp e
      exact ⟨trivial, trivial, fun _ z => nomatch z⟩
    · cases e
  · split at e
    · cases e
      exact ⟨trivial, trivial, fun _ z => nomatch z⟩
    · cases e
  · cases e
def mthMut (m : Mth) (o : Sl) (as : List Sl) : M Sl :=
  match o, vals as with
  | .ref n, some ps => fun s =>
    match (s[n]?).bind fun c => mthC m c ps with
    | some r => .ok (.val r.1) (s.set n r.2)
    | none => .bad
  | _, _ => stuck
theorem mthM_mut {m : Mth} (hm : m.mut = true) (o : Sl) (as : List Sl) : mthM m o as = mthMut m o as := by
  unfold mthM mthMut
  rw [hm]
  rfl
theorem mt_mut {m : Mth} (hm : m.mut = true) {sg : L2.St} {Q : VK} (F : Hp) (ρ : List Addr) (st : Sto) (H : Hp) (x : Sl) (ss : List Sl) (v : V) (vs : List V) (rl : Rel X.K F ρ st H) (rv : RepS X.K F ρ st.length v x) (rvs : RepSs X.K F ρ st.length vs ss) (q : Post X.K xr (E sg) F ρ st H (mthM m x ss st) (QV X.K Q)) : rMc X.K m v vs H Q := by
  rw [mthM_mut hm] at q
  unfold mthMut at q
  cases x with
  | val p =>
    cases e1 : vals ss <;> rw [e1] at q <;> exact q.elim
  | ref n =>
    cases e1 : vals ss with
    | none =>
      rw [e1] at q
      exact q.elim
    | some ps =>
      rw [e1] at q
      dsimp only at q
      cases e2 : (st[n]?).bind fun c => mthC m c ps with
      | none =>
        rw [e2] at q
        exact q.elim
      | some r =>
        rw [e2] at q
        obtain ⟨c, e3, e4⟩ := Option.bind_eq_some_iff.mp e2
        obtain ⟨l1, l2, _⟩ := mthC_live e4
        obtain ⟨_, a, ha, rfl⟩ := rv
        obtain ⟨a', ho, h1, h2, h3, h4⟩ := rl.cell n c e3 l1
        rw [ha] at h1
        cases h1
        exact ⟨F, a, ho, c, ps, r, rfl, rl.sub, h3, h4, vals_reps rvs e1, e4, fun u ho' ok ru => q F ρ (upd H a ho') (rl.set e3 l1 l2 ha ok) (.set rl e3 l1 ha) u ru⟩
theorem snd_mth (o : XOk xr T fa fd ps k A E X) {m : Mth} {ob : Ex} {xs : Exs} {x : Expr} {es : List Expr} {p1 p2 : Pos} (hk : m.known = true) (pl : PlainE x) (hl : (p1.endLine == p2.line) = true) (h2 : es.length ≤ 2)
    (ho : PE X x (tE X xr E C ob)) (hs : AllE X xr E C xs es) : PE X (.Call (.Attribute x (mthN m) p1) es [] p2) (tE X xr E C (.mth m ob xs)) := by
  cases m with
  | upper => exact pe_method f_upper pl hl h2 ho hs fun sg H Q h => mth_in mT_upper (mt_pure rfl) h
  | get2 => exact pe_method (f_get2 o) pl hl h2 ho hs fun sg H Q h => mth_in mT_get2 (mt_pure rfl) h
  | append => exact pe_method f_append pl hl h2 ho hs fun sg H Q h => mth_in mT_append (mt_mut rfl) h
  | pop1 => exact pe_method f_pop1 pl hl h2 ho hs fun sg H Q h => mth_in mT_pop1 (mt_mut rfl) h
  | insert => exact pe_method f_insert pl hl h2 ho hs fun sg H Q h => mth_in mT_insert (mt_mut rfl) h
  | _ => cases hk

/-! ### calls of defs -/
/-- around a body: its calls run the table -/
structure EvOk (T : Tab) (k : Nat) (C : Ev) : Prop where
  call : C.call = run T k
  glo : C.glo = T.glo
  fuel : C.fuel = T.fuel
theorem pe_callS0 {CX : CXT} {j : Nat} {f : Addr} {fd : FuncData} {ps : List Str} {sp : Sp} {x : Str} {p pos : Pos} (F : FnOk X.prog X.w X.K X.mg X.base CX j f fd ps sp) (hr : Room j X.A) (hg : Gl X x) (hm : X.mg x = some (.ref f)) (hk : PySem.W.keepIn X.K (.ref f) = true) (hb : Binds X.K fd ps []) (hx : ∀ sg, PassesAt CX X sg (E sg))
    (hdb : (x == ("__debug__" : Str)) = false) : PE X (.Call (.Name x p) [] [] pos) (tCallS sp E tNil) := by
  refine ⟨fun pz s sg H Q I h => ?_⟩
  (refine wpAny_Call_Name_kw (ld_glob I hg hm ?_ hdb))
  exact PySem.W.callWith_K0 I.kIn hk (run_fnS (us := []) F hr hb (hx sg) I .nil h)
theorem snd_cal (o : XOk xr T fa fd ps k A E X) (ev : EvOk T k C) {f : Nat} {xs : Exs} {x : Str} {es : List Expr} {p pos : Pos} (h1 : A.fns[f]? = some x) (h2 : glC A.sc x = true) (h3 : okN x = true) (hs : AllE X xr E C xs es) (hl : ∀ env st ss st', evEs C xs env st = .ok ss st' → ss.length = es.length) :
    PE X (.Call (.Name x p) es [] pos) (tE X xr E C (.cal f xs)) := by
  obtain ⟨g1, g2, g3, g4⟩ := o.fns f x h1
  have key : ∀ {sg : L2.St} {H : Hp} {Q : VK}, tE X xr E C (.cal f xs) sg H Q → tCallS (spec X.K xr T k f) E (tEs X xr E C xs) sg H Q := fun {sg H Q} ⟨env, F, ρ, st, rl, eo, q⟩ => by
    refine ⟨env, F, ρ, st, rl, eo, ?_⟩
    have q : Post X.K xr (E sg) F ρ st H (bnd (evEs C xs env) (fun vs => C.call f vs) st) (QV X.K Q) := q
    rw [ev.call] at q
    refine q.bnd.imp fun ss F1 ρ1 st1 H1 rl1 sp1 q vs rvs => ⟨?_, F1, ρ1, st1, ss, rl1, rvs, q⟩
    have np : ∀ {r : R Sl}, r = run T k f ss st1 → (∃ a t, r = .ok a t) ∨ (∃ a t, r = .exc a t) → ss.length = ((T.fns[f]?).map (·.np)).getD 0 := by
      intro r hr hne
      subst hr
      cases k with
      | zero => rcases hne with ⟨_, _, e⟩ | ⟨_, _, e⟩ <;> cases e
      | succ k =>
        unfold run at hne
        cases hf : T.fns[f]? with
        | none =>
          rw [hf] at hne
          rcases hne with ⟨_, _, e⟩ | ⟨_, _, e⟩ <;> cases e
        | some d =>
          rw [hf] at hne
          dsimp only at hne
          split at hne
          · rename_i hd
            simpa using hd.1
          · rcases hne with ⟨_, _, e⟩ | ⟨_, _, e⟩ <;> cases e
    rw [rvs.length]
    cases e : run T k f ss st1 with
    | bad =>
      rw [e] at q
      exact q.elim
    | ok a t => exact np e.symm (.inl ⟨a, t, rfl⟩)
    | exc a t => exact np e.symm (.inr ⟨a, t, rfl⟩)
  cases es with
  | nil =>
    cases xs with
    | cons _ _ => exact hs.elim
    | nil =>
      refine PE.imp (pe_callS0 g4 o.room (o.gl h2) g1 g2 g3 (passAt o.tk) (okN_dbg h3).1) fun sg H Q h => ?_
      obtain ⟨env, F, ρ, st, rl, eo, q⟩ := key h
      exact q.ret rl [] .nil
  | cons e es => exact PE.imp (pe_callS g4 o.room (o.gl h2) g1 g2 g3 (passAt o.tk) hs.pa (okN_dbg h3).1 hs.head (back_plain pos hs.tail)) fun sg H Q h => key h
end
end Fy

/-! Fy9: what is walked; targets. -/
namespace Fy
open PySem
open PySem.Spec
open PyProof.Rows
open L2

/-- a walk that gives the data xs -/
structure Wk (K : PySem.W.Frag) (J : L2.It) (xs : List P) (F0 : Hp) : Prop where
  go : ∀ i F H, i < xs.length → Sub F0 F → Sub F H → J.go i H
  stop : ∀ F H, Sub F0 F → Sub F H → J.stop xs.length H
  yld : ∀ i F H x H', i < xs.length → Sub F0 F → Sub F H → J.yld i H x H' → ∃ F' p, xs[i]? = some p ∧ New F H F' H' ∧ Rep K F' x p
section
variable {K : PySem.W.Frag} {F : Hp}
theorem wk_list {a : Addr} {vs : List V} {xs : List P} (h : SqL K F a vs) (r : Reps K F vs xs) : Wk K (Itl K a) xs F := by
  refine ⟨fun i F1 H hi s1 s2 => ?_, fun F1 H s1 s2 => ⟨vs, sub_l (s1.trans s2) h, Nat.le_of_eq r.length⟩, fun i F1 H x H' hi s1 s2 y => ?_⟩
  · have hv : i < vs.length := by
      rw [r.length]
      exact hi
    exact ⟨vs, vs[i], sub_l (s1.trans s2) h, by simp [hv]⟩
  · obtain ⟨rfl, y⟩ := y
    obtain ⟨p, h1, h2⟩ := r.get' (y vs (sub_l (s1.trans s2) h))
    exact ⟨F1, p, h1, .refl s2, h2.mono s1⟩
theorem wk_tup {a : Addr} {vs : List V} {xs : List P} (h : SqT K F a vs) (r : Reps K F vs xs) : Wk K (Itt K a) xs F := by
  refine ⟨fun i F1 H hi s1 s2 => ?_, fun F1 H s1 s2 => ⟨vs, sub_t (s1.trans s2) h, Nat.le_of_eq r.length⟩, fun i F1 H x H' hi s1 s2 y => ?_⟩
  · have hv : i < vs.length := by
      rw [r.length]
      exact hi
    exact ⟨vs, vs[i], sub_t (s1.trans s2) h, by simp [hv]⟩
  · obtain ⟨rfl, y⟩ := y
    obtain ⟨p, h1, h2⟩ := r.get' (y vs (sub_t (s1.trans s2) h))
    exact ⟨F1, p, h1, .refl s2, h2.mono s1⟩
theorem wk_str {z : Str} : Wk K (Its z) (signs z) F := by
  have hl : (signs z).length = z.cps.size := by
    unfold signs
    simp
  refine ⟨fun i F1 H hi _ _ => ?_, fun _ _ _ _ => ?_, fun i F1 H x H' hi s1 s2 y => ?_⟩
  · rw [hl] at hi
    exact hi
  · rw [hl]
    exact Nat.le_refl z.cps.size
  · obtain ⟨rfl, c, hc, rfl⟩ := y
    refine ⟨F1, .str ⟨#[c]⟩, ?_, .refl s2, .str _⟩
    unfold signs
    rw [List.getElem?_map, Array.getElem?_toList, hc]
    rfl
theorem wk_range {lo : Int} {n : Nat} : Wk K (Itr lo n) ((List.range n).map fun i => .int (lo + (i : Nat))) F := by
  refine ⟨fun i F1 H hi _ _ => (show i < n by simpa using hi), fun _ _ _ _ => by simp [Itr], fun i F1 H x H' hi s1 s2 y => ?_⟩
  obtain ⟨rfl, rfl⟩ := y
  have hi : i < n := by simpa using hi
  exact ⟨F1, .int (lo + (i : Nat)), by simp [hi], .refl s2, .int _⟩
theorem zip_get {xs ys : List P} {i : Nat} {p q : P} (h1 : xs[i]? = some p) (h2 : ys[i]? = some q) : ((xs.zip ys).map fun z => P.tup [z.1, z.2])[i]? = some (.tup [p, q]) := by
  rw [List.getElem?_map, List.getElem?_zip_eq_some (z := (p, q)) |>.mpr ⟨h1, h2⟩]
  rfl
theorem wk_zip {a b : Addr} {vs ws : List V} {xs ys : List P} (h : SqL K F a vs) (r : Reps K F vs xs) (h' : SqL K F b ws) (r' : Reps K F ws ys) : Wk K (Itz K a b) ((xs.zip ys).map fun z => .tup [z.1, z.2]) F := by
  have l1 := r.length
  have l2 := r'.length
  refine ⟨fun i F1 H hi s1 s2 => ?_, fun F1 H s1 s2 => ⟨vs, ws, sub_l (s1.trans s2) h, sub_l (s1.trans s2) h', ?_⟩, fun i F1 H x H' hi s1 s2 y => ?_⟩
  · rw [List.length_map, List.length_zip] at hi
    have hv : i < vs.length := by omega
    have hw : i < ws.length := by omega
    exact ⟨vs, ws, vs[i], ws[i], sub_l (s1.trans s2) h, sub_l (s1.trans s2) h', by simp [hv], by simp [hw]⟩
  · rw [List.length_map, List.length_zip]
    omega
  · obtain ⟨t, u, v, rfl, n, rfl, y1, y2⟩ := y
    obtain ⟨p, g1, g2⟩ := r.get' (y1 vs (sub_l (s1.trans s2) h))
    obtain ⟨q, g3, g4⟩ := r'.get' (y2 ws (sub_l (s1.trans s2) h'))
    exact ⟨_, .tup [p, q], zip_get g1 g3, .laid s2 n, .tup (.of (by rw [upd_same])) (.cons ((g2.mono s1).mono (Sub.new (s2.back n))) (.cons ((g4.mono s1).mono (Sub.new (s2.back n))) .nil))⟩
theorem wk_zipT {a b : Addr} {vs ws : List V} {xs ys : List P} (h : SqT K F a vs) (r : Reps K F vs xs) (h' : SqT K F b ws) (r' : Reps K F ws ys) : Wk K (RZ.ItzT K a b) ((xs.zip ys).map fun z => .tup [z.1, z.2]) F := by
  have l1 := r.length
  have l2 := r'.length
  refine ⟨fun i F1 H hi s1 s2 => ?_, fun F1 H s1 s2 => ⟨vs, ws, sub_t (s1.trans s2) h, sub_t (s1.trans s2) h', ?_⟩, fun i F1 H x H' hi s1 s2 y => ?_⟩
  · rw [List.length_map, List.length_zip] at hi
    have hv : i < vs.length := by omega
    have hw : i < ws.length := by omega
    exact ⟨vs, ws, vs[i], ws[i], sub_t (s1.trans s2) h, sub_t (s1.trans s2) h', by simp [hv], by simp [hw]⟩
  · rw [List.length_map, List.length_zip]
    omega
  · obtain ⟨t, u, v, rfl, n, rfl, y1, y2⟩ := y
    obtain ⟨p, g1, g2⟩ := r.get' (y1 vs (sub_t (s1.trans s2) h))
    obtain ⟨q, g3, g4⟩ := r'.get' (y2 ws (sub_t (s1.trans s2) h'))
    exact ⟨_, .tup [p, q], zip_get g1 g3, .laid s2 n, .tup (.of (by rw [upd_same])) (.cons ((g2.mono s1).mono (Sub.new (s2.back n))) (.cons ((g4.mono s1).mono (Sub.new (s2.back n))) .nil))⟩
theorem wk_enum {a : Addr} {vs : List V} {xs : List P} (h : SqL K F a vs) (r : Reps K F vs xs) : Wk K (Ite K a) (xs.mapIdx fun i x => .tup [.int (i : Nat), x]) F := by
  refine ⟨fun i F1 H hi s1 s2 => ?_, fun F1 H s1 s2 => ⟨vs, sub_l (s1.trans s2) h, by rw [List.length_mapIdx]; exact Nat.le_of_eq r.length⟩, fun i F1 H x H' hi s1 s2 y => ?_⟩
  · have hv : i < vs.length := by
      rw [r.length]
      simpa using hi
    exact ⟨vs, vs[i], sub_l (s1.trans s2) h, by simp [hv]⟩
  · obtain ⟨t, v, rfl, n, rfl, y⟩ := y
    obtain ⟨p, h1, h2⟩ := r.get' (y vs (sub_l (s1.trans s2) h))
    refine ⟨_, .tup [.int (i : Nat), p], ?_, .laid s2 n, .tup (.of (by rw [upd_same])) (.cons (.int _) (.cons ((h2.mono s1).mono (Sub.new (s2.back n))) .nil))⟩
    rw [List.getElem?_mapIdx, h1]
    rfl
end

/-! ### iterables of the text -/
section
variable {xr : XR} {T : Tab} {fa : Nat → Addr} {fd : Nat → FuncData} {ps : Nat → List Str} {k : Nat} {A : Agr} {E : L2.St → XK} {X : Cx} {C : Ev}
def tI (X : Cx) (xr : XR) (E : L2.St → XK) (C : Ev) (i : It) : TI := fun sg H R => ∃ env F ρ st, Rel X.K F ρ st H ∧ EnvOk X.K F ρ st.length env sg ∧ Post X.K xr (E sg) F ρ st H (evI C i env st) fun xs F' _ _ H' => ∀ J, Wk X.K J xs F' → R J H'
theorem PI.imp {tg e : Expr} {t t' : TI} (h : PI X tg e t) (hi : ∀ sg H R, t' sg H R → t sg H R) : PI X tg e t' := ⟨fun pz s sg H R I q => h.run pz s sg H R I (hi sg H R q)⟩
def iVal (K : PySem.W.Frag) (te : TE) : TI := fun sg H R => te sg H fun x H1 => (∃ a, x = .ref a ∧ (∃ xs, SqL K H1 a xs) ∧ R (Itl K a) H1) ∨ (∃ a, x = .ref a ∧ (∃ xs, SqT K H1 a xs) ∧ R (Itt K a) H1) ∨ ∃ z, x = .str z ∧ R (Its z) H1
theorem pi_val {tg l : Expr} {tl : TE} (hl : PE X l tl) : PI X tg l (iVal X.K tl) := by
  refine ⟨fun pz s sg H R I h => ?_⟩
  refine thn (hl.run pz s sg H _ I h) fun v s1 ⟨x, H1, I1, r1, q1⟩ => ?_
  rcases q1 with ⟨a, e, ⟨xs, hq⟩, q⟩ | ⟨a, e, ⟨xs, hq⟩, q⟩ | ⟨z, e, q⟩
  · subst e
    cases r1
    (obtain ⟨its, rv, p, hz⟩ := I1.list hq)
    (refine wpAny_pyIter_list p.isList ?_)
    (refine ⟨s1.heap.objs.size, [s1.heap.objs.size], _, _, H1, rfl, I1.kept (t' := s1.toks) fun b o e => Heap.get?_push_of_some _ e, turn_list a _, ⟨_, Heap.get?_push_size _ rfl, rfl, rfl⟩, fun b hb => ?_, q⟩)
    (have e : b = s1.heap.objs.size := by simpa using hb)
    subst e
    (exact I1.fpOk (Nat.le_refl _) (I1.hok.fresh (Nat.le_refl _)))
  · subst e
    cases r1
    (obtain ⟨its, rv, p, hz⟩ := I1.tuple hq)
    (refine wpAny_pyIter_tuple (show s1.heap.IsTuple a its.toArray from p) ?_)
    (refine ⟨s1.heap.objs.size, [s1.heap.objs.size], _, _, H1, rfl, I1.kept (t' := s1.toks) fun b o e => Heap.get?_push_of_some _ e, turn_tuple a _, ⟨_, Heap.get?_push_size _ rfl, rfl, rfl⟩, fun b hb => ?_, q⟩)
    (have e : b = s1.heap.objs.size := by simpa using hb)
    subst e
    (exact I1.fpOk (Nat.le_refl _) (I1.hok.fresh (Nat.le_refl _)))
  · subst e
    obtain ⟨t, rfl⟩ := r1
    cases ha : z.cps.all (· < 128)
    · exact wpAny_pyIter_wide ha (pi_one (tk := s1.toks) I1 _ (turn_str _ z t "str_iterator" (.inr rfl)) ⟨_, Heap.get?_push_size _ rfl, rfl, rfl⟩ q)
    · exact wpAny_pyIter_ascii ha (pi_one (tk := s1.toks) I1 _ (turn_str _ z t "str_ascii_iterator" (.inl rfl)) ⟨_, Heap.get?_push_size _ rfl, rfl, rfl⟩ q)
theorem sni_val {a : Ex} {tg e : Expr} (h : PE X e (tE X xr E C a)) : PI X tg e (tI X xr E C (.val a)) := by
  refine PI.imp (pi_val h) fun sg H R ⟨env, F, ρ, st, rl, eo, q⟩ => ⟨env, F, ρ, st, rl, eo, ?_⟩
  refine (Post.bnd (m := evE C a env) q).imp fun s F1 ρ1 st1 H1 rl1 sp1 q v rv => ?_
  obtain ⟨p, rfl, q⟩ := Post.asP (f := fun p => lift (itemsP p)) q
  obtain ⟨xs, e1, q⟩ := q.lift
  have rv : Rep X.K F1 v p := rv
  have q9 := q.okHere rl1
  cases p with
  | lst ys =>
    cases e1
    obtain ⟨a, vs, rfl, ha, ra⟩ := rv.lst_inv
    exact .inl ⟨a, rfl, ⟨vs, .of (rl1.sub _ _ ha)⟩, q9 _ (wk_list (.of ha) ra)⟩
  | scr ys =>
    cases e1
    obtain ⟨a, vs, rfl, ha, ra⟩ := rv.scr_inv
    exact .inl ⟨a, rfl, ⟨vs, sub_l rl1.sub ha⟩, q9 _ (wk_list ha ra)⟩
  | tup ys =>
    cases e1
    obtain ⟨a, vs, rfl, ha, ra⟩ := rv.tup_inv
    exact .inr (.inl ⟨a, rfl, ⟨vs, sub_t rl1.sub ha⟩, q9 _ (wk_tup ha ra)⟩)
  | str z =>
    cases e1
    exact .inr (.inr ⟨z, rv.str_inv, q9 _ wk_str⟩)
  | _ => cases e1
theorem sni_rng1 (o : XOk xr T fa fd ps k A E X) {a : Ex} {tg e : Expr} {f : Str} {p pos : Pos} (hf : f = PySem.Str.ofString "range") (hb : bltC A f = true) (pl : PlainE e) (h : PE X e (tE X xr E C a)) : PI X tg (.Call (.Name f p) [e] [] pos) (tI X xr E C (.rng1 a)) := by
  obtain ⟨g1, g2, g3, g4⟩ := o.blt' hb
  subst hf
  refine PI.imp (pi_range1 g1 g2 (pa_cons h pa_nil (pl.star _ _)) (pl.star _ _)) fun sg H R ⟨env, F, ρ, st, rl, eo, q⟩ => ⟨env, F, ρ, st, rl, eo, ?_⟩
  refine (Post.bnd (m := evE C a env) q).imp fun s F1 ρ1 st1 H1 rl1 sp1 q v rv => ?_
  show ∃ j : Int, [v] = [V.int j] ∧ _
  split at q
  · rename_i n
    split at q
    · rename_i hn
      have q9 := q.okHere rl1
      refine ⟨n, by rw [Rep.int_inv rv], by omega, by omega, q9 _ ?_⟩
      have w := wk_range (K := X.K) (lo := 0) (n := n.toNat) (F := F1)
      simpa using w
    · exact q.elim
  · exact q.elim
theorem sni_rng2 (o : XOk xr T fa fd ps k A E X) {a b : Ex} {tg e e2 : Expr} {f : Str} {p pos : Pos} (hf : f = PySem.Str.ofString "range") (hb : bltC A f = true) (pl : PlainE e) (pl2 : PlainE e2) (h : PE X e (tE X xr E C a)) (h2 : PE X e2 (tE X xr E C b)) : PI X tg (.Call (.Name f p) [e, e2] [] pos) (tI X xr E C (.rng2 a b)) := by
  obtain ⟨g1, g2, g3, g4⟩ := o.blt' hb
  subst hf
  refine PI.imp (pi_range2 g1 g2 (pa_cons h (pa_cons h2 pa_nil (pl2.star _ _)) (pl.star _ _)) (by rw [pl.star, pl2.star]; rfl) (pl2.star _ _)) fun sg H R ⟨env, F, ρ, st, rl, eo, q⟩ => ⟨env, F, ρ, st, rl, eo, ?_⟩
  refine (Post.bnd (m := evE C a env) q).imp fun s F1 ρ1 st1 H1 rl1 sp1 q v rv => ⟨env, F1, ρ1, st1, rl1, eo.step sp1, ?_⟩
  refine q.bnd.imp fun s2 F2 ρ2 st2 H2 rl2 sp2 q w rw' => ?_
  show ∃ i j : Int, [v, w] = [V.int i, V.int j] ∧ _
  have rv2 := rv.step sp2
  obtain ⟨x, ex, q3⟩ := q.asP
  obtain ⟨y, ey, q4⟩ := q3.asP
  obtain ⟨xs, e1, q5⟩ := q4.lift
  have q9 := q5.okHere rl2
  subst ex ey
  have e2 : ∃ l h, x = .int l ∧ y = .int h ∧ (-1000000 ≤ l ∧ l ≤ 1000000 ∧ -1000000 ≤ h ∧ h ≤ 1000000) ∧ xs = (List.range (h - l).toNat).map fun i => P.int (l + (i : Nat)) := by
    clear q9 q5 q4 q3 q rv rv2 rw'
    unfold rngP at e1
    split at e1
    · split at e1
      · rename_i hn
        cases e1
        exact ⟨_, _, rfl, rfl, hn, rfl⟩
      · cases e1
    · cases e1
  obtain ⟨l, h, ex, ey, hn, ez⟩ := e2
  rw [ex] at rv2
  rw [ey] at rw'
  rw [ez] at q9
  exact ⟨l, h, by rw [Rep.int_inv rv2, Rep.int_inv rw'], ⟨by omega, by omega, by omega, by omega⟩, q9 _ wk_range⟩
theorem sni_zip (o : XOk xr T fa fd ps k A E X) {a b : Ex} {elts : List Expr} {kk : Nat} {tpos : Pos} {e e2 : Expr} {f : Str} {p pos : Pos} (hf : f = PySem.Str.ofString "zip") (hb : bltC A f = true) (pl : PlainE e) (pl2 : PlainE e2) (h : PE X e (tE X xr E C a)) (h2 : PE X e2 (tE X xr E C b)) : PI X (.Tuple elts kk tpos) (.Call (.Name f p) [e, e2] [] pos) (tI X xr E C (.zip a b)) := by
  obtain ⟨g1, g2, g3, g4⟩ := o.blt' hb
  subst hf
  refine PI.imp (RZ.pi_zipA g1 g2 (pa_cons h (pa_cons h2 pa_nil (pl2.star _ _)) (pl.star _ _)) (pl.star _ _) (back_plain pos fun q hq => ?_)) fun sg H R ⟨env, F, ρ, st, rl, eo, q⟩ => ⟨env, F, ρ, st, rl, eo, ?_⟩
  · rw [pl2.star] at hq
    (rcases List.mem_cons.mp hq with rfl | hq)
    · rfl
    · cases hq
  refine (Post.bnd (m := evE C a env) q).imp fun s F1 ρ1 st1 H1 rl1 sp1 q v rv => ⟨env, F1, ρ1, st1, rl1, eo.step sp1, ?_⟩
  refine q.bnd.imp fun s2 F2 ρ2 st2 H2 rl2 sp2 q w rw' => ?_
  have rv2 := rv.step sp2
  obtain ⟨x, ex, q3⟩ := q.asP
  obtain ⟨y, ey, q4⟩ := q3.asP
  obtain ⟨xs, e1, q5⟩ := q4.lift
  have q9 := q5.okHere rl2
  subst ex ey
  have rv2 : Rep X.K F2 v x := rv2
  have rw' : Rep X.K F2 w y := rw'
  unfold zipP at e1
  split at e1
  · cases e1
    obtain ⟨a, vs, rfl, ha, ra⟩ := rv2.lst_inv
    obtain ⟨b, ws, rfl, hb, rb⟩ := rw'.lst_inv
    exact ⟨a, b, vs, ws, rfl, .inl ⟨.of (rl2.sub _ _ ha), .of (rl2.sub _ _ hb), q9 _ (wk_zip (.of ha) ra (.of hb) rb)⟩⟩
  · cases e1
    obtain ⟨a, vs, rfl, ha, ra⟩ := rv2.tup_inv
    obtain ⟨b, ws, rfl, hb, rb⟩ := rw'.tup_inv
    exact ⟨a, b, vs, ws, rfl, .inr ⟨sub_t rl2.sub ha, sub_t rl2.sub hb, q9 _ (wk_zipT ha ra hb rb)⟩⟩
  · cases e1
theorem sni_enm (o : XOk xr T fa fd ps k A E X) {a : Ex} {elts : List Expr} {kk : Nat} {tpos : Pos} {e : Expr} {f : Str} {p pos : Pos} (hf : f = PySem.Str.ofString "enumerate") (hb : bltC A f = true) (pl : PlainE e) (h : PE X e (tE X xr E C a)) : PI X (.Tuple elts kk tpos) (.Call (.Name f p) [e] [] pos) (tI X xr E C (.enm a)) := by
  obtain ⟨g1, g2, g3, g4⟩ := o.blt' hb
  subst hf
  refine PI.imp (pi_enum g1 g2 (pa_cons h pa_nil (pl.star _ _)) (pl.star _ _)) fun sg H R ⟨env, F, ρ, st, rl, eo, q⟩ => ⟨env, F, ρ, st, rl, eo, ?_⟩
  refine (Post.bnd (m := evE C a env) q).imp fun s F1 ρ1 st1 H1 rl1 sp1 q v rv => ?_
  obtain ⟨x, ex, q1⟩ := q.asP
  subst ex
  have rv1 : Rep X.K F1 v x := rv
  cases x with
  | lst xs =>
    have q9 := q1.okHere rl1
    obtain ⟨a, vs, rfl, ha, ra⟩ := rv1.lst_inv
    exact ⟨a, vs, rfl, .of (rl1.sub _ _ ha), q9 _ (wk_enum (.of ha) ra)⟩
  | _ => exact q1.elim
end

/-! ### targets -/
mutual
def Pt.in : Pt → Nat → Bool
  | .nm i, j => i == j
  | .tp ps, j => Pt.ins ps j
def Pt.ins : List Pt → Nat → Bool
  | [], _ => false
  | p :: ps, j => p.in j || Pt.ins ps j
end
/-- the slots are known as env says, and those beside p are as they were -/
def tP (K : PySem.W.Frag) (p : Pt) : TG := fun v sg H Q => ∃ F b ρ env x env', Sub F H ∧ EnvOk K F ρ b env sg ∧ Rep K F v x ∧ bindP p x env = some env' ∧ ∀ σ', EnvOk K F ρ b env' σ' → (∀ j, p.in j = false → σ'[j]? = sg[j]?) → Q σ' H
def tPs (K : PySem.W.Frag) (p : List Pt) : TGs := fun v sg H Q => ∃ F b ρ env x env', Sub F H ∧ EnvOk K F ρ b env sg ∧ Reps K F v x ∧ bindPs p x env = some env' ∧ ∀ σ', EnvOk K F ρ b env' σ' → (∀ j, Pt.ins p j = false → σ'[j]? = sg[j]?) → Q σ' H
theorem EnvOk.set {K : PySem.W.Frag} {F : Hp} {ρ : List Addr} {b : Nat} {env : Env} {sg : L2.St} {i : Nat} {s : Sl} {v : V} (h : EnvOk K F ρ b env sg) (r : RepS K F ρ b v s) : EnvOk K F ρ b (env.set i (some s)) (sg.set i (some v)) := by
  refine ⟨by rw [List.length_set, List.length_set]; exact h.1, fun j t e => ?_⟩
  by_cases q : i = j
  · subst q
    have hi : i < env.length := by
      have := (List.getElem?_eq_some_iff.mp e).1
      rwa [List.length_set] at this
    rw [List.getElem?_set_self hi] at e
    cases e
    exact ⟨v, by rw [List.getElem?_set_self (by rw [← h.1]; exact hi)], r⟩
  · rw [List.getElem?_set_ne q] at e
    rw [List.getElem?_set_ne q]
    exact h.2 j t e
section
variable {xr : XR} {T : Tab} {fa : Nat → Addr} {fd : Nat → FuncData} {ps : Nat → List Str} {k : Nat} {A : Agr} {E : L2.St → XK} {X : Cx} {C : Ev}
theorem PG.imp {e : Expr} {t t' : TG} (h : PG X e t) (hi : ∀ v sg H Q, t' v sg H Q → t v sg H Q) : PG X e t' := ⟨fun pz s sg H v u Q I r q => h.run pz s sg H v u Q I r (hi v sg H Q q)⟩
theorem PGs.imp {e : List Expr} {t t' : TGs} (h : PGs X e t) (hi : ∀ v sg H Q, t' v sg H Q → t v sg H Q) : PGs X e t' := ⟨fun pz s sg H v u Q I r q => h.run pz s sg H v u Q I r (hi v sg H Q q)⟩
theorem loc_of (o : XOk xr T fa fd ps k A E X) {x : Str} (h : locC A x = true) : Loc X.env.scope x ∧ (X.fn x = true ∨ X.env.scope.names.lookup x = some .local) := by
  unfold locC at h
  rw [o.sc]
  split at h
  · rename_i h1
    exact ⟨.inl h1, .inr h1⟩
  · rename_i h1
    exact ⟨.inr h1, .inl (o.fn x h)⟩
  · cases h
theorem assign_name {env : PySem.Env} {x : Str} {p : Pos} : assignEach [.Name x p] env = [(false, assign (.Name x p) env)] := rfl
def plainT : Expr → Bool
  | .Starred .. => false
  | _ => true
theorem agP_plain {p : Pt} {e : Expr} (h : agP A p e = true) : plainT e = true := by
  cases e with
  | Starred _ _ => cases p <;> cases h
  | _ => rfl
theorem each_cons {e : Expr} {es : List Expr} {env : PySem.Env} (h : plainT e = true) : assignEach (e :: es) env = (false, assign e env) :: assignEach es env := by
  cases e with
  | Starred _ _ => cases h
  | _ => rfl
theorem each_plain : ∀ {ps : List Pt} {es : List Expr} (env : PySem.Env), agPs A ps es = true → (assignEach es env).length = ps.length ∧ (assignEach es env).findIdx? (·.1) = none
  | [], [], _, _ => ⟨rfl, rfl⟩
  | [], _ :: _, _, h => by cases h
  | _ :: _, [], _, hh => by cases hh
  | p :: ps, e :: es, env, h => by
    have h : (agP A p e && agPs A ps es) = true := h
    rw [Bool.and_eq_true] at h
    obtain ⟨h1, h2⟩ := each_plain (ps := ps) (es := es) env h.2
    rw [each_cons (agP_plain h.1)]
    refine ⟨congrArg (· + 1) h1, ?_⟩
    rw [List.findIdx?_cons]
    simp [h2]
theorem bindPs_len : ∀ {ps : List Pt} {xs : List P} {env env' : Env}, bindPs ps xs env = some env' → ps.length = xs.length
  | [], [], _, _, _ => rfl
  | [], _ :: _, _, _, e => by cases e
  | _ :: _, [], _, _, e => by cases e
  | p :: ps, x :: xs, env, env', e => by
    have e : (match bindP p x env with | some env' => bindPs ps xs env' | none => none) = some env' := e
    split at e
    · exact congrArg (· + 1) (bindPs_len e)
    · cases e
mutual
theorem snd_p (o : XOk xr T fa fd ps k A E X) : ∀ (p : Pt) (e : Expr), agP A p e = true → PG X e (tP X.K p)
  | .nm i, e, h => by
    have h : (match (generalizing := false) e with | .Name x _ => decide (A.N[i]? = some x) && locC A x | _ => false) = true := h
    split at h
    · rw [Bool.and_eq_true, decide_eq_true_eq] at h
      obtain ⟨h1, h2⟩ := loc_of o h.2
      refine PG.imp (pg_name (by rw [o.N]; exact o.nd) (by rw [o.N]; exact h.1) h1 h2) fun v sg H Q ⟨F, b, ρ, env, x, env', sf, eo, rv, e1, q⟩ => ?_
      have e1 : (if i < env.length then some (env.set i (some (.val x))) else none) = some env' := e1
      split at e1
      · cases e1
        refine q _ (eo.set (s := .val x) rv) fun j hj => ?_
        have hij : i ≠ j := by
          intro z
          rw [z] at hj
          have : (j == j) = false := hj
          simp at this
        rw [List.getElem?_set_ne hij]
      · cases e1
    · cases h
  | .tp qs, e, h => by
    have h : (match (generalizing := false) e with | .Tuple es _ _ => agPs A qs es | _ => false) = true := h
    split at h
    · obtain ⟨h1, h2⟩ := each_plain X.env h
      refine PG.imp (pg_tup o.calm (snd_ps o qs _ h) h1 h2) fun v sg H Q ⟨F, b, ρ, env, x, env', sf, eo, rv, e1, q⟩ => ?_
      cases x with
      | tup xs =>
        obtain ⟨a, vs, rfl, ha, ra⟩ := rv.tup_inv
        have e1 : bindPs qs xs env = some env' := e1
        exact ⟨a, vs, rfl, sub_t sf ha, by rw [ra.length]; exact (bindPs_len e1).symm, F, b, ρ, env, xs, env', sf, eo, ra, e1, q⟩
      | _ => cases e1
    · cases h
theorem snd_ps (o : XOk xr T fa fd ps k A E X) : ∀ (p : List Pt) (es : List Expr), agPs A p es = true → PGs X es (tPs X.K p)
  | [], es, h => by
    cases es with
    | cons _ _ => cases h
    | nil =>
      refine PGs.imp pgs_nil fun v sg H Q ⟨F, b, ρ, env, x, env', sf, eo, rv, e1, q⟩ => ?_
      cases rv with
      | cons _ _ => cases e1
      | nil =>
        cases e1
        exact ⟨rfl, q sg eo fun _ _ => rfl⟩
  | p :: qs, es, h => by
    cases es with
    | nil => cases h
    | cons e es =>
      have h : (agP A p e && agPs A qs es) = true := h
      rw [Bool.and_eq_true] at h
      refine PGs.imp (pgs_cons (snd_p o p e h.1) (snd_ps o qs es h.2) (by rw [each_cons (agP_plain h.1)]; rfl)) fun v sg H Q ⟨F, b, ρ, env, x, env', sf, eo, rv, e1, q⟩ => ?_
      cases rv with
      | nil => cases e1
      | @cons v vs d ds rv rvs =>
        have e1 : (match bindP p d env with | some env' => bindPs qs ds env' | none => none) = some env' := e1
        split at e1
        · rename_i env1 h1
          refine ⟨v, vs, rfl, F, b, ρ, env, d, env1, sf, eo, rv, h1, fun σ1 eo1 k1 => ⟨F, b, ρ, env1, ds, env', sf, eo1, rvs, e1, fun σ2 eo2 k2 => q σ2 eo2 fun j hj => ?_⟩⟩
          have hj : (p.in j || Pt.ins qs j) = false := hj
          rw [Bool.or_eq_false_iff] at hj
          rw [k2 j hj.2, k1 j hj.1]
        · cases e1
end
end
end Fy

/-! Fy10: the loops of a comprehension of any number of clauses, on the model's side. -/
namespace Fy
open PySem
open PySem.Spec
open PyProof.Rows
open L2

/-- the turns of a comprehension e over the clauses gs, that does emit behind the last -/
structure CmpE (e : Expr) (gs : List Comprehension) (emit : Value → PySem.Env → Sem Unit) : Prop where
  cl : clausesOf e = gs
  den : ∀ (prog : Program) (w : World) (d : Nat) (it acc : Value) (env : PySem.Env), (model prog w).den (.compLoop e d it acc env) = (compTurn e d it acc env).onRaise (fun x => do noteFrame x env; theTreesLotGoes x)
  den0 : ∀ (prog : Program) (w : World) (d : Nat) (it acc : Value) (env : PySem.Env), (model prog w).den (.compStart e d it acc env) = (compStart e d it acc env).onRaise (fun x => do noteFrame x env; standAt theWindowsPlace)
  und : ∀ (A : Around) (d : Nat) (it acc : Value) (env : PySem.Env), A.under (.compLoop e d it acc env) = A ∧ A.under (.compStart e d it acc env) = A
  inner : ∀ (d : Nat) (g g' : Comprehension) (it acc : Value) (env : PySem.Env), gs[d]? = some g → gs[d + 1]? = some g' → g.is_async = 0 → g'.is_async = 0 → compTurn e d it acc env = (do
    standAt g.iter.pos
    match ← pyNext it with
    | none => pure (.done .next)
    | some v =>
      letOwnedTupleGo g.target it v
      assign g.target env v
      let mut yes := true
      for c in g.ifs do
        if yes then yes ← isTrue c env (eval c env)
      if yes then
        let x ← eval g'.iter env
        standAt g'.iter.pos
        let x ← foldedSetIterable g'.iter env x
        let _ ← runOwn (.compStart e (d + 1) (← holding [x] (pyIter x)) acc env) env
      again (.compLoop e d it acc env))
  last : ∀ (d : Nat) (g : Comprehension) (it acc : Value) (env : PySem.Env), gs[d]? = some g → gs[d + 1]? = none → g.is_async = 0 → compTurn e d it acc env = (do
    standAt g.iter.pos
    match ← pyNext it with
    | none => pure (.done .next)
    | some v =>
      letOwnedTupleGo g.target it v
      assign g.target env v
      let mut yes := true
      for c in g.ifs do
        if yes then yes ← isTrue c env (eval c env)
      if yes then
        emit acc env
      again (.compLoop e d it acc env))
theorem cmp_list {elt : Expr} {gs : List Comprehension} {scope : Scope} {pos : Pos} : CmpE (.ListComp elt gs scope pos) gs (fun acc env => do let _ ← call (.builtin "list.append") [acc, ← eval elt env]) := by
  refine ⟨rfl, fun _ _ _ _ _ _ => rfl, fun _ _ _ _ _ _ => rfl, fun _ _ _ _ _ => ⟨rfl, rfl⟩, fun d g g' it acc env h1 h2 h3 h4 => ?_, fun d g it acc env h1 h2 h3 => ?_⟩
  · unfold compTurn
    simp [h1, h2, h3, h4]
    rfl
  · unfold compTurn
    simp [h1, h2, h3]
    rfl
theorem cmp_dict {kw vw : Expr} {gs : List Comprehension} {scope : Scope} {pos : Pos} : CmpE (.DictComp kw vw gs scope pos) gs (fun acc env => do
    let ky ← eval kw env
    let vy ← holding [ky] (eval vw env)
    match acc with
    | .ref d => do
      standAt { kw.pos with endLine := vw.pos.endLine, endCol := vw.pos.endCol }
      holding [ky, vy] (dictSet d ky vy)
    | _ => unsupported "internal:dictcomp") := by
  refine ⟨rfl, fun _ _ _ _ _ _ => rfl, fun _ _ _ _ _ _ => rfl, fun _ _ _ _ _ => ⟨rfl, rfl⟩, fun d g g' it acc env h1 h2 h3 h4 => ?_, fun d g it acc env h1 h2 h3 => ?_⟩
  · unfold compTurn
    simp [h1, h2, h3, h4]
    rfl
  · unfold compTurn
    simp [h1, h2, h3]
    rfl
section
variable {prog : Program} {w : World} {A : Around} {R : Result → Shared → Prop} {s : Shared} {e : Expr} {gs : List Comprehension} {emit : Value → PySem.Env → Sem Unit} {it acc : Value} {env : PySem.Env} {d : Nat} {g g' : Comprehension}
theorem cmp_inner (ce : CmpE e gs emit) (h1 : gs[d]? = some g) (h2 : gs[d + 1]? = some g') (h3 : g.is_async = 0) (h4 : g'.is_async = 0) (hs : ∀ x, foldedSetIterable g'.iter env x = pure x) (I : Nat → Shared → Prop)
    (trn : ∀ n s, I n s → wpAny (model prog w) A (pyNext it) (fun r s₁ => match r with
      | none => R (.ok .next) s₁
      | some v => wpAny (model prog w) A (letOwnedTupleGo g.target it v) (fun _ s₁' => wpAny (model prog w) A (assign g.target env v) (fun _ s₂ =>
          wpAny (model prog w) A (forIn g.ifs true fun c r => if r = true then do let yes ← isTrue c env (eval c env); pure (ForInStep.yield yes) else pure (ForInStep.yield r)) (fun yes sC =>
            if yes = true then wpAny (model prog w) A (eval g'.iter env) (fun x s₄ => wpAny (model prog w) A (pyIter x) (fun it1 sE =>
              codeAny (model prog w) A (.compStart e (d + 1) it1 acc env) (fun r s' => match r with
                | .ok _ => ∃ j, j < n ∧ I j s'
                | .error _ => False) sE) (notedBy (model prog w) A env fun e s' => R (.error e) s') s₄) (notedBy (model prog w) A env fun e s' => R (.error e) s') sC
            else ∃ m, m < n ∧ I m sC) (notedBy (model prog w) A env fun e s' => R (.error e) s') s₂) (notedBy (model prog w) A env fun e s' => R (.error e) s') s₁') (notedBy (model prog w) A env fun e s' => R (.error e) s') s₁) (notedBy (model prog w) A env fun e s' => R (.error e) s') s)
    (n : Nat) (h : I n s) : codeAny (model prog w) A (.compLoop e d it acc env) R s := by
  (refine codeAny_loop rfl I (fun n s hI => ?_) n h)
  rw [(ce.und A d it acc env).1]
  rw [ce.den]
  refine wpAny_noted ?_
  rw [ce.inner d g g' it acc env h1 h2 h3 h4]
  refine wpAny_bind (wpAny_standAt (wpAny_bind (wpAny_mono (trn n s hI) (fun r s₁ h₁ => ?_) fun _ _ h' => h')))
  cases r with
  | none => exact wpAny_pure h₁
  | some v =>
    (refine wpAny_bind (wpAny_mono h₁ (fun _ s₁' h₁' => ?_) fun _ _ h' => h'))
    refine wpAny_bind (wpAny_mono h₁' (fun _ s₂ h₂ => wpAny_bind (wpAny_mono h₂ (fun yes sC h₃ => ?_) fun _ _ h' => h')) fun _ _ h' => h')
    cases yes with
    | false => (exact wpAny_pure ⟨rfl, h₃⟩)
    | true =>
      (refine wpAny_bind (wpAny_mono h₃ (fun x s₄ h₄ => ?_) fun _ _ h' => h'))
      refine wpAny_bind (wpAny_standAt (wpAny_bind (wpAny_of_eq (hs x) (wpAny_bind (wpAny_holding (wpAny_mono h₄ (fun it1 sE h₅ => ?_) fun _ _ h' => h'))))))
      (refine wpAny_bind (wpAny_runOwn ?_))
      rw [Around.mark_none]
      (refine codeAny_mono h₅ fun r s' hr => ?_)
      cases r with
      | ok f =>
        first
          | exact wpAny_pure ⟨rfl, hr⟩
          | (exact wpAny_bind (wpAny_pure (wpAny_pure ⟨rfl, hr⟩)))
      | error e => exact hr.elim
theorem cmp_last (ce : CmpE e gs emit) (h1 : gs[d]? = some g) (h2 : gs[d + 1]? = none) (h3 : g.is_async = 0) (I : Nat → Shared → Prop)
    (trn : ∀ n s, I n s → wpAny (model prog w) A (pyNext it) (fun r s₁ => match r with
      | none => R (.ok .next) s₁
      | some v => wpAny (model prog w) A (letOwnedTupleGo g.target it v) (fun _ s₁' => wpAny (model prog w) A (assign g.target env v) (fun _ s₂ =>
          wpAny (model prog w) A (forIn g.ifs true fun c r => if r = true then do let yes ← isTrue c env (eval c env); pure (ForInStep.yield yes) else pure (ForInStep.yield r)) (fun yes sC =>
            if yes = true then wpAny (model prog w) A (emit acc env) (fun _ sE => ∃ m, m < n ∧ I m sE) (notedBy (model prog w) A env fun e s' => R (.error e) s') sC
            else ∃ m, m < n ∧ I m sC) (notedBy (model prog w) A env fun e s' => R (.error e) s') s₂) (notedBy (model prog w) A env fun e s' => R (.error e) s') s₁') (notedBy (model prog w) A env fun e s' => R (.error e) s') s₁) (notedBy (model prog w) A env fun e s' => R (.error e) s') s)
    (n : Nat) (h : I n s) : codeAny (model prog w) A (.compLoop e d it acc env) R s := by
  (refine codeAny_loop rfl I (fun n s hI => ?_) n h)
  rw [(ce.und A d it acc env).1]
  rw [ce.den]
  refine wpAny_noted ?_
  rw [ce.last d g it acc env h1 h2 h3]
  refine wpAny_bind (wpAny_standAt (wpAny_bind (wpAny_mono (trn n s hI) (fun r s₁ h₁ => ?_) fun _ _ h' => h')))
  cases r with
  | none => exact wpAny_pure h₁
  | some v =>
    (refine wpAny_bind (wpAny_mono h₁ (fun _ s₁' h₁' => ?_) fun _ _ h' => h'))
    refine wpAny_bind (wpAny_mono h₁' (fun _ s₂ h₂ => wpAny_bind (wpAny_mono h₂ (fun yes sC h₃ => ?_) fun _ _ h' => h')) fun _ _ h' => h')
    cases yes with
    | false => (exact wpAny_pure ⟨rfl, h₃⟩)
    | true => exact wpAny_bind (wpAny_mono h₃ (fun _ sE h₅ => wpAny_pure ⟨rfl, h₅⟩) fun _ _ h' => h')
theorem cmp_start (ce : CmpE e gs emit) (h1 : gs[d]? = some g) (h3 : g.is_async = 0) (h0 : codeAny (model prog w) A (.compLoop e d it acc env) R s)
    (h : wpAny (model prog w) A (pyIter it) (fun it' s' => codeAny (model prog w) A (.compLoop e d it' acc env) R s') (notedBy (model prog w) A env fun x s' => R (.error x) s') s) : codeAny (model prog w) A (.compStart e d it acc env) R s := by
  refine codeAny_of_tree ?_
  rw [(ce.und A d it acc env).2]
  rw [ce.den0]
  refine wpAny_notedAt ?_
  unfold compStart
  rw [ce.cl, h1]
  have e0 : (some g).elim false (·.is_async != 0) = false := by
    show (g.is_async != 0) = false
    rw [h3]
    rfl
  rw [if_neg (by rw [e0]; exact Bool.false_ne_true)]
  (refine wpAny_bind (wpAny_askSetting (wpAny_ite ?_)))
  split
  · first
      | (exact wpAny_bind (wpAny_pure (wpAny_pure (And.intro rfl h0))))
      | (exact wpAny_pure (And.intro rfl h0))
  · (refine wpAny_bind (wpAny_rule ?_))
    show wpAny _ _ (standAt g.iter.pos >>= _) _ _ s
    exact wpAny_bind (wpAny_standAt (wpAny_bind (wpAny_mono h (fun it' s' h' => wpAny_pure (And.intro rfl h')) fun _ _ x => x)))
theorem tests_no {cs : List Expr} {Q : Bool → Shared → Prop} {E : Value → Shared → Prop} (h : Q false s) : wpAny (model prog w) A (forIn cs false fun c r => if r = true then do let yes ← isTrue c env (eval c env); pure (ForInStep.yield yes) else pure (ForInStep.yield r)) Q E s := by
  induction cs with
  | nil => exact wpAny_pure h
  | cons c cs ih =>
    rw [List.forIn_cons]
    exact wpAny_bind (wpAny_pure ih)
theorem tests_cons {c : Expr} {cs : List Expr} {Q : Bool → Shared → Prop} {E : Value → Shared → Prop} (h : wpAny (model prog w) A (isTrue c env (eval c env)) (fun b s' => if b = true then wpAny (model prog w) A (forIn cs true fun c r => if r = true then do let yes ← isTrue c env (eval c env); pure (ForInStep.yield yes) else pure (ForInStep.yield r)) Q E s' else Q false s') E s) :
    wpAny (model prog w) A (forIn (c :: cs) true fun c r => if r = true then do let yes ← isTrue c env (eval c env); pure (ForInStep.yield yes) else pure (ForInStep.yield r)) Q E s := by
  rw [List.forIn_cons]
  refine wpAny_bind (wpAny_bind (wpAny_mono h (fun b s' hb => ?_) fun _ _ x => x))
  cases b with
  | true => exact wpAny_pure hb
  | false => exact wpAny_pure (tests_no hb)
end
end Fy

/-! Fy11: comprehensions: what their loops do is what our language says. -/
namespace Fy
open PySem
open PySem.Spec
open PyProof.Rows
open L2

/-! ### exceptions that cannot be -/
def XF : XK := fun _ _ _ => False
section
variable {α β : Type} {K : PySem.W.Frag} {xr : XR} {E : XK} {F F1 : Hp} {ρ ρ1 : List Addr} {st st1 : Sto} {H H1 : Hp}
theorem Post.nox {m : M α} {Q : α → Hp → List Addr → Sto → Hp → Prop} (h : Post K xr E F ρ st H (nox m st) Q) : Post K xr XF F ρ st H (m st) Q := by
  unfold Fy.nox at h
  cases e : m st with
  | ok a t =>
    rw [e] at h
    exact h
  | exc x t =>
    rw [e] at h
    exact h.elim
  | bad =>
    rw [e] at h
    exact h.elim
theorem Post.bnox {m : M α} {f : α → M β} {Q : β → Hp → List Addr → Sto → Hp → Prop} (h : Post K xr E F ρ st H (Fy.bnd (Fy.nox m) f st1) Q) : Post K xr E F ρ st H (Fy.bnd m f st1) Q := by
  unfold Fy.bnd Fy.nox at h
  unfold Fy.bnd
  cases e : m st1 with
  | ok a t =>
    rw [e] at h
    exact h
  | exc x t =>
    rw [e] at h
    exact h.elim
  | bad =>
    rw [e] at h
    exact h.elim
/-- a first step, seen from where it starts; the rest from the anchor -/
theorem Post.at {m : M α} {f : α → M β} {Q : β → Hp → List Addr → Sto → Hp → Prop} (h : Post K xr E F ρ st H (Fy.bnd m f st1) Q) (sp : Step st.length F ρ st H F1 ρ1 st1 H1) :
    Post K xr E F1 ρ1 st1 H1 (m st1) fun a F2 ρ2 st2 H2 => Step st.length F ρ st H F2 ρ2 st2 H2 ∧ Post K xr E F ρ st H (f a st2) Q := by
  unfold Fy.bnd at h
  cases e : m st1 with
  | ok a t =>
    rw [e] at h
    exact fun F2 ρ2 H2 rl s => ⟨sp.trans s sp.len, h⟩
  | exc x t =>
    rw [e] at h
    exact fun F2 ρ2 H2 c d rl s => h F2 ρ2 H2 c d rl (sp.trans s sp.len)
  | bad =>
    rw [e] at h
    exact h
theorem Post.bnd0 {m : M α} {f : α → M β} {Q : β → Hp → List Addr → Sto → Hp → Prop} (h : Post K xr E F ρ st H (Fy.bnd m f st1) Q) :
    Post K xr E F ρ st H (m st1) fun a _ _ st2 _ => Post K xr E F ρ st H (f a st2) Q := by
  unfold Fy.bnd at h
  cases e : m st1 with
  | ok a t =>
    rw [e] at h
    exact fun _ _ _ _ _ => h
  | exc x t =>
    rw [e] at h
    exact h
  | bad =>
    rw [e] at h
    exact h
end

/-! ### the object that grows on the side -/
/-- D holds ho; it is none of ours -/
structure Side (F : Hp) (ρ : List Addr) (st : Sto) (H : Hp) (D : Addr) (ho : HO) : Prop where
  at_ : H D = some ho
  no : ¬ Own F ρ st D
section
variable {F F' : Hp} {ρ ρ' : List Addr} {st st' : Sto} {H H' : Hp} {D : Addr} {ho ho' : HO} {b : Nat}
theorem Side.step (d : Side F ρ st H D ho) (s : Step b F ρ st H F' ρ' st' H') : Side F' ρ' st' H' D ho := ⟨s.keep D ho d.at_ d.no, fun z => d.no (s.own D (by rw [d.at_]; exact fun z => nomatch z) z)⟩
theorem Side.put (d : Side F ρ st H D ho) : Side F ρ st (upd H D ho') D ho' := ⟨upd_same, d.no⟩
theorem Side.rel {K : PySem.W.Frag} (d : Side F ρ st H D ho) (rl : Rel K F ρ st H) : Rel K F ρ st (upd H D ho') := by
  refine ⟨rl.len, fun a o e => ?_, fun n c e hl => ?_, rl.inj⟩
  · have : a ≠ D := by
      rintro rfl
      exact d.no (.inl (by rw [e]; exact fun z => nomatch z))
    rw [upd_ne this]
    exact rl.sub a o e
  · obtain ⟨a, h, h1, h2, h3, h4⟩ := rl.cell n c e hl
    have : a ≠ D := by
      rintro rfl
      exact d.no (.inr ⟨n, c, e, hl, h1⟩)
    exact ⟨a, h, h1, h2, by rw [upd_ne this]; exact h3, h4⟩
end
theorem Step.side {b : Nat} {Fa F : Hp} {ρa ρ : List Addr} {sta st : Sto} {Ha H : Hp} {D : Addr} {ho : HO} (s : Step b Fa ρa sta Ha F ρ st H) (hd : Ha D = none) : Step b Fa ρa sta Ha F ρ st (upd H D ho) := by
  refine ⟨s.ext, s.pre, s.len, fun a o e n => ?_, s.own, fun a e => ?_⟩
  · have : a ≠ D := by
      rintro rfl
      rw [hd] at e
      cases e
    rw [upd_ne this]
    exact s.keep a o e n
  · by_cases q : a = D
    · subst q
      rw [upd_same]
      exact fun z => nomatch z
    · rw [upd_ne q]
      exact s.there a e

/-! ### in the block -/
section
variable {xr : XR} {T : Tab} {fa : Nat → Addr} {fd : Nat → FuncData} {ps : Nat → List Str} {k : Nat} {A : Agr} {E : L2.St → XK} {X : Cx} {C : Ev}
theorem XOk.blk (o : XOk xr T fa fd ps k A E X) {scope : Scope} {s : Shared} {H : Hp} {cl : List (Str × Addr)} {D : Addr} {fp : List Addr} : XOk xr T fa fd ps k (A.blk scope) (fun _ => XF) (X.blk s H scope (compEnvC scope cl D X.env) fp) := by
  refine ⟨o.N, o.nd, ?_, fun x h => h, o.calm, o.room, ?_, o.blt, o.fns, o.gls⟩
  · show relabel scope X.env = relS scope A.sc
    rw [← o.sc]
    rfl
  · rintro u s' ⟨a, B, sI, pz, sg, H, cls, d, e, I, nb, up, sky, na, os, ag, w⟩
    exact w
/-- expressions of the text and ours, wherever they stand as A says -/
def OkE (xr : XR) (T : Tab) (fa : Nat → Addr) (fd : Nat → FuncData) (ps : Nat → List Str) (k : Nat) (C : Ev) (A : Agr) (x : Ex) (e : Expr) : Prop := ∀ E X, XOk xr T fa fd ps k A E X → PE X e (tE X xr E C x) ∧ PT X e (tT X xr E C x)
def OkEs (xr : XR) (T : Tab) (fa : Nat → Addr) (fd : Nat → FuncData) (ps : Nat → List Str) (k : Nat) (C : Ev) (A : Agr) (x : Exs) (e : List Expr) : Prop := ∀ E X, XOk xr T fa fd ps k A E X → AllE X xr E C x e
def OkI (xr : XR) (T : Tab) (fa : Nat → Addr) (fd : Nat → FuncData) (ps : Nat → List Str) (k : Nat) (C : Ev) (A : Agr) (i : It) (e t : Expr) : Prop := ∀ E X, XOk xr T fa fd ps k A E X → PI X t e (tI X xr E C i)
/-- the clauses: the first source stands in A, all else in B -/
def OkG (xr : XR) (T : Tab) (fa : Nat → Addr) (fd : Nat → FuncData) (ps : Nat → List Str) (k : Nat) (C : Ev) (A B : Agr) : Gen → List Comprehension → Prop
  | .nil, cs => cs = []
  | .cons p i ifs g, cs => ∃ c cs', cs = c :: cs' ∧ agP B p c.target = true ∧ OkI xr T fa fd ps k C A i c.iter c.target ∧ OkEs xr T fa fd ps k C B ifs c.ifs ∧ c.is_async = 0 ∧ (∀ env x, foldedSetIterable c.iter env x = pure x) ∧ OkG xr T fa fd ps k C B B g cs'
theorem pts_all : ∀ {xs : Exs} {es : List Expr}, AllE X xr E C xs es → PTs X es (tTs X xr E C xs)
  | .nil, [], _ => ⟨fun pz s sg H Q I ⟨env, F, ρ, st, rl, eo, q⟩ => wpAny_tests_nil ⟨H, I, q.ret rl⟩⟩
  | .nil, _ :: _, h => h.elim
  | .cons x xs, [], h => h.elim
  | .cons x xs, e :: es, ⟨pl, _, h1, h2⟩ => by
    refine ⟨fun pz s sg H Q I ⟨env, F, ρ, st, rl, eo, q⟩ => tests_cons ?_⟩
    have q : Post X.K xr (E sg) F ρ st H (bnd (evE C x env) (fun x => bnd (tru x) fun k => if k then evTs C xs env else ret false) st) (fun k _ _ _ H' => Q k H') := q
    rw [← bnd_assoc] at q
    refine thn (h1.run pz s sg H (fun b H1 => if b = true then tTs X xr E C xs sg H1 Q else Q false H1) I ⟨env, F, ρ, st, rl, eo, q.bnd.imp fun k F1 ρ1 st1 H1 rl1 sp1 q => ?_⟩) fun b s1 ⟨H1, I1, q1⟩ => ?_
    · cases k with
      | true => exact ⟨env, F1, ρ1, st1, rl1, eo.step sp1, q⟩
      | false => exact q.ret rl1
    · cases b with
      | true => exact (pts_all h2).run pz s1 sg H1 Q I1 q1
      | false => exact ⟨H1, I1, q1⟩

/-- what a turn does -/
def turnF (C : Ev) (p : Pt) (ifs : Exs) (g : Gen) (f : Env → List P → M (List P)) (env : Env) (x : P) (acc : List P) : M (List P) :=
  match bindP p x env with
  | none => stuck
  | some env' => bnd (evTs C ifs env') fun k => if k then evG C g f env' env' acc else ret acc
theorem evG_cons (p : Pt) (i : It) (ifs : Exs) (g : Gen) (f : Env → List P → M (List P)) (ei env : Env) (acc : List P) :
    evG C (.cons p i ifs g) f ei env acc = bnd (evI C i ei) fun xs => if freeP p env then nox (foldP xs acc (turnF C p ifs g f env)) else stuck := rfl
/-- the end of a comprehension's clauses: f -/
structure Emit (X : Cx) (xr : XR) (emit : Value → PySem.Env → Sem Unit) (D : Addr) (AO : Hp → HO → List P → Prop) (f : Env → List P → M (List P)) : Prop where
  run : ∀ (pz : List (Addr × Obj)) (s : Shared) (sg : L2.St) (H : Hp) (Q : Hp → Prop) (env : Env) (F : Hp) (ρ : List Addr) (st : Sto) (ho : HO) (acc : List P), Inv X pz sg H s → Rel X.K F ρ st H → EnvOk X.K F ρ st.length env sg → Side F ρ st H D ho → AO F ho acc →
    Post X.K xr XF F ρ st H (f env acc st) (fun acc' F' ρ' st' H' => ∀ ho', AO F' ho' acc' → Side F' ρ' st' H' D ho → Q (upd H' D ho')) → wpAny (model X.prog X.w) X.A (emit (.ref D) X.env) (fun _ s' => ∃ H', Inv X pz sg H' s' ∧ Q H') X.xe s
mutual
/-- a free target's slots change nothing that is known -/
theorem free_in : ∀ (p : Pt) {env : Env} {j : Nat} {s : Sl}, freeP p env = true → env[j]? = some (some s) → p.in j = false
  | .nm i, env, j, s, h, e => by
    cases q : Pt.in (.nm i) j with
    | false => rfl
    | true =>
      have q : (i == j) = true := q
      have q := beq_iff_eq.mp q
      subst q
      have h : (match (generalizing := false) env[i]? with | some none => true | _ => false) = true := h
      rw [e] at h
      cases h
  | .tp ps, env, j, s, h, e => free_ins ps (env := env) h e
theorem free_ins : ∀ (p : List Pt) {env : Env} {j : Nat} {s : Sl}, freePs p env = true → env[j]? = some (some s) → Pt.ins p j = false
  | [], _, _, _, _, _ => rfl
  | p :: ps, env, j, s, h, e => by
    have h : (freeP p env && freePs ps env) = true := h
    rw [Bool.and_eq_true] at h
    show (p.in j || Pt.ins ps j) = false
    rw [free_in p h.1 e, free_ins ps h.2 e]
    rfl
end
mutual
/-- .. and a target changes its own slots only -/
theorem bind_out : ∀ (p : Pt) {x : P} {env env' : Env} {j : Nat}, bindP p x env = some env' → p.in j = false → env'[j]? = env[j]?
  | .nm i, x, env, env', j, e, h => by
    have e : (if i < env.length then some (env.set i (some (.val x))) else none) = some env' := e
    split at e
    · cases e
      have hij : i ≠ j := by
        rintro rfl
        have h : (i == i) = false := h
        simp at h
      rw [List.getElem?_set_ne hij]
    · cases e
  | .tp ps, x, env, env', j, e, h => by
    cases x with
    | tup xs => exact bind_outs ps (x := xs) e h
    | _ => cases e
theorem bind_outs : ∀ (p : List Pt) {x : List P} {env env' : Env} {j : Nat}, bindPs p x env = some env' → Pt.ins p j = false → env'[j]? = env[j]?
  | [], x, env, env', j, e, h => by
    cases x with
    | nil =>
      cases e
      rfl
    | cons _ _ => cases e
  | p :: ps, x, env, env', j, e, h => by
    cases x with
    | nil => cases e
    | cons x xs =>
      have e : (match (generalizing := false) bindP p x env with | some env' => bindPs ps xs env' | none => none) = some env' := e
      have h : (p.in j || Pt.ins ps j) = false := h
      rw [Bool.or_eq_false_iff] at h
      split at e
      · rename_i env1 h1
        rw [bind_outs ps e h.2, bind_out p h1 h.1]
      · cases e
end
mutual
theorem bind_len : ∀ (p : Pt) {x : P} {env env' : Env}, bindP p x env = some env' → env.length = env'.length
  | .nm i, x, env, env', e => by
    have e : (if i < env.length then some (env.set i (some (.val x))) else none) = some env' := e
    split at e
    · cases e
      rw [List.length_set]
    · cases e
  | .tp ps, x, env, env', e => by
    cases x with
    | tup xs => exact bind_lens ps (x := xs) e
    | _ => cases e
theorem bind_lens : ∀ (p : List Pt) {x : List P} {env env' : Env}, bindPs p x env = some env' → env.length = env'.length
  | [], x, env, env', e => by
    cases x with
    | nil =>
      cases e
      rfl
    | cons _ _ => cases e
  | p :: ps, x, env, env', e => by
    cases x with
    | nil => cases e
    | cons x xs =>
      have e : (match (generalizing := false) bindP p x env with | some env' => bindPs ps xs env' | none => none) = some env' := e
      split at e
      · rename_i env1 h1
        rw [bind_len p h1, bind_lens ps e]
      · cases e
end
theorem EnvOk.back {K : PySem.W.Frag} {F : Hp} {ρ : List Addr} {b : Nat} {p : Pt} {x : P} {env env' : Env} {sg : L2.St} (h : EnvOk K F ρ b env' sg) (e : bindP p x env = some env') (hf : freeP p env = true) : EnvOk K F ρ b env sg :=
  ⟨(bind_len p e).trans h.1, fun j s es => h.2 j s (by rw [bind_out p e (free_in p hf es)]; exact es)⟩
end
/-! ### the loop of one clause and all within -/
section
variable {xr : XR} {T : Tab} {fa : Nat → Addr} {fd : Nat → FuncData} {ps : Nat → List Str} {k : Nat} {B : Agr} {E : L2.St → XK} {X : Cx} {C : Ev} {e : Expr} {gs : List Comprehension} {emit : Value → PySem.Env → Sem Unit} {D : Addr} {AO : Hp → HO → List P → Prop} {f : Env → List P → M (List P)}
/-- where a loop stands -/
structure Lp (X : Cx) (AO : Hp → HO → List P → Prop) (D : Addr) (Fa : Hp) (ρa : List Addr) (sta : Sto) (Ha : Hp) (F0 : Hp) (env : Env) (acc : List P) (F : Hp) (ρ : List Addr) (st : Sto) (H : Hp) (sg : L2.St) (ho : HO) : Prop where
  s0 : Sub F0 F
  rl : Rel X.K F ρ st H
  eo : EnvOk X.K F ρ st.length env sg
  an : Step sta.length Fa ρa sta Ha F ρ st H
  sd : Side F ρ st H D ho
  ao : AO F ho acc
/-- the loop's invariant, m turns ahead -/
def LpI (X : Cx) (xr : XR) (C : Ev) (AO : Hp → HO → List P → Prop) (D : Addr) (Fa : Hp) (ρa : List Addr) (sta : Sto) (Ha : Hp) (F0 : Hp) (env : Env) (pz : List (Addr × Obj)) (fp : List Addr) (tn : Nat → Heap → Prop) (xs : List P) (tf : P → List P → M (List P)) (Qf : List P → Hp → List Addr → Sto → Hp → Prop) (m : Nat) (s : Shared) : Prop :=
  ∃ (i : Nat) (acc : List P) (F : Hp) (ρ : List Addr) (st : Sto) (H : Hp) (sg : L2.St) (ho : HO), m = xs.length - i ∧ i ≤ xs.length ∧ Inv X pz sg H s ∧ Lp X AO D Fa ρa sta Ha F0 env acc F ρ st H sg ho ∧ tn i s.heap ∧ (∀ b ∈ fp, FpOk X pz H b) ∧
    Post X.K xr XF Fa ρa sta Ha (foldP (xs.drop i) acc tf st) Qf
theorem lp_turn (o : XOk xr T fa fd ps k B (fun _ => XF) X) (hxe : X.xe = fun _ _ => False) (am : ∀ F F' ho acc, Sub F F' → AO F ho acc → AO F' ho acc) {Fa : Hp} {ρa : List Addr} {sta : Sto} {Ha : Hp} {g : Gen} {c : Comprehension} {p : Pt} {ifs : Exs} (hp : agP B p c.target = true) (hifs : OkEs xr T fa fd ps k C B ifs c.ifs)
    {pz : List (Addr × Obj)} {R : Result → Shared → Prop} {it : Addr} {fp : List Addr} {tn : Nat → Heap → Prop} {J : L2.It} {xs : List P} {F0 : Hp} {env : Env} {Qf : List P → Hp → List Addr → Sto → Hp → Prop} (Tn : Turn X.prog X.w X.K c.target J fp it tn) (wk : Wk X.K J xs F0) (hf : freeP p env = true)
    (hR : ∀ acc F ρ st H sg ho s', Inv X pz sg H s' → Lp X AO D Fa ρa sta Ha F0 env acc F ρ st H sg ho → Qf acc F ρ st H → R (.ok .next) s') {NB : Value → Shared → Prop} {n : Nat} {s : Shared} (hI : LpI X xr C AO D Fa ρa sta Ha F0 env pz fp tn xs (turnF C p ifs g f env) Qf n s) {Body : Shared → Prop}
    (hb : ∀ (pl : List (Addr × Obj)) (rest : List P) (env' : Env) (acc : List P) (F : Hp) (ρ : List Addr) (st : Sto) (H : Hp) (sg : L2.St) (ho : HO) (s3 : Shared), Inv X (pz ++ pl) sg H s3 → Lp X AO D Fa ρa sta Ha F0 env' acc F ρ st H sg ho →
      Post X.K xr XF Fa ρa sta Ha (bnd (evG C g f env' env' acc) (fun a => foldP rest a (turnF C p ifs g f env)) st) Qf →
      (∀ (acc' : List P) (F' : Hp) (ρ' : List Addr) (st' : Sto) (H' : Hp) (σ' : L2.St) (ho' : HO) (s' : Shared), Inv X (pz ++ pl) σ' H' s' → Lp X AO D Fa ρa sta Ha F0 env' acc' F' ρ' st' H' σ' ho' →
        Post X.K xr XF Fa ρa sta Ha (foldP rest acc' (turnF C p ifs g f env) st') Qf → ∃ m, m < n ∧ LpI X xr C AO D Fa ρa sta Ha F0 env pz fp tn xs (turnF C p ifs g f env) Qf m s') → Body s3) :
    wpAny (model X.prog X.w) X.A (pyNext (.ref it)) (fun r s₁ => match r with
      | none => R (.ok .next) s₁
      | some v => wpAny (model X.prog X.w) X.A (letOwnedTupleGo c.target (.ref it) v) (fun _ s₁' => wpAny (model X.prog X.w) X.A (assign c.target X.env v) (fun _ s₂ =>
          wpAny (model X.prog X.w) X.A (forIn c.ifs true fun c r => if r = true then do let ok ← isTrue c X.env (eval c X.env); pure (ForInStep.yield ok) else pure (ForInStep.yield r)) (fun ok s₃ =>
            if ok = true then Body s₃ else ∃ m, m < n ∧ LpI X xr C AO D Fa ρa sta Ha F0 env pz fp tn xs (turnF C p ifs g f env) Qf m s₃) NB s₂) NB s₁') NB s₁) NB s := by
  obtain ⟨i, acc, F, ρ, st, H, sg, ho, rfl, hi, I, lp, ht, hfp, q⟩ := hI
  by_cases hlt : i < xs.length
  · -- one more
    have ti := Tn.item X rfl rfl rfl o.calm i pz s sg H (fun _ _ => False) I hfp ht (wk.go i F H hlt lp.s0 lp.rl.sub)
    (refine thnF ti fun r s6 ⟨u, hr, h6⟩ => ?_)
    subst hr
    (refine thnF h6 fun _ s7 ⟨x, H7, I7, r7, y7, st7, n7⟩ => ?_)
    have stat7 : ∀ b ∈ fp, FpOk X pz H7 b := fun b hb => ⟨n7 b hb, (hfp b hb).2⟩
    have I7' := I7.pinned stat7 (Tn.obj _ _ st7)
    obtain ⟨F7, px, ex, nw, rx⟩ := wk.yld i F H x H7 hlt lp.s0 lp.rl.sub y7
    have hdrop : xs.drop i = px :: xs.drop (i + 1) := by
      (rw [List.drop_eq_getElem_cons hlt])
      have : xs[i] = px := by
        have := List.getElem?_eq_getElem hlt
        rw [ex] at this
        (exact (Option.some.inj this).symm)
      rw [this]
    rw [hdrop] at q
    have sp7 : Step st.length F ρ st H F7 ρ st H7 := .new nw
    have rl7 := lp.rl.new nw
    have q : Post X.K xr XF Fa ρa sta Ha (bnd (turnF C p ifs g f env px acc) (fun a => foldP (xs.drop (i + 1)) a (turnF C p ifs g f env)) st) Qf := q
    cases eb : bindP p px env with
    | none =>
      have e1 : turnF C p ifs g f env px acc = stuck := by
        unfold turnF
        rw [eb]
      rw [e1] at q
      exact q.elim
    | some env' =>
      have e1 : turnF C p ifs g f env px acc = bnd (evTs C ifs env') fun k => if k then evG C g f env' env' acc else ret acc := by
        unfold turnF
        rw [eb]
      rw [e1, bnd_assoc] at q
      have pg := snd_p o p c.target hp
      have pt := pts_all (hifs _ X o)
      have x0 : ∀ {α : Type} {t : Sem α} {Q Q' : α → Shared → Prop} {s : Shared}, wpAny (model X.prog X.w) X.A t Q X.xe s → (∀ a s, Q a s → Q' a s) → wpAny (model X.prog X.w) X.A t Q' NB s := fun {α t Q Q' s} h hq => by
        rw [hxe] at h
        exact thnF h hq
      refine x0 (pg.run _ s7 sg H7 x u (fun σ8 H8 => H8 = H7 ∧ EnvOk X.K F7 ρ st.length env' σ8) I7' r7 ⟨F7, st.length, ρ, env, px, env', rl7.sub, lp.eo.step sp7, rx, eb, fun σ' eo' _ => ⟨rfl, eo'⟩⟩) fun _ s8 ⟨σ8, H8, I8, e8, eo8⟩ => ?_
      subst e8
      have q1 := q.at (lp.an.trans sp7 lp.an.len)
      refine x0 (pt.run _ s8 σ8 H8 (fun b H9 => ∃ F9 ρ9 st9, Lp X AO D Fa ρa sta Ha F0 env' acc F9 ρ9 st9 H9 σ8 ho ∧ Post X.K xr XF Fa ρa sta Ha (bnd (if b then evG C g f env' env' acc else ret acc) (fun a => foldP (xs.drop (i + 1)) a (turnF C p ifs g f env)) st9) Qf) I8 ⟨env', F7, ρ, st, rl7, eo8, ?_⟩) fun b s9 ⟨H9, I9, F9, ρ9, st9, lp9, q9⟩ => ?_
      · refine q1.imp fun b F9 ρ9 st9 H9 rl9 sp9 ⟨an9, q9⟩ => ⟨F9, ρ9, st9, ⟨(lp.s0.trans sp7.ext).trans sp9.ext, rl9, eo8.step sp9, an9, (lp.sd.step sp7).step sp9, am _ _ _ _ (sp7.ext.trans sp9.ext) lp.ao⟩, q9⟩
      · have fin : ∀ (acc' : List P) (F' : Hp) (ρ' : List Addr) (st' : Sto) (H' : Hp) (σ' : L2.St) (ho' : HO) (s' : Shared), Inv X (pz ++ pinsAt fp s7.heap) σ' H' s' → Lp X AO D Fa ρa sta Ha F0 env' acc' F' ρ' st' H' σ' ho' →
            Post X.K xr XF Fa ρa sta Ha (foldP (xs.drop (i + 1)) acc' (turnF C p ifs g f env) st') Qf → ∃ m, m < xs.length - i ∧ LpI X xr C AO D Fa ρa sta Ha F0 env pz fp tn xs (turnF C p ifs g f env) Qf m s' := fun acc' F' ρ' st' H' σ' ho' s' I' lp' q' => by
          have pin' : ∀ b ∈ fp, ∀ ob, s7.heap.get? b = some ob → s'.heap.get? b = some ob ∧ H' b = none := fun b hb ob e =>
            let z := I'.pin (b, ob) (List.mem_append_right _ (List.mem_append_right _ (mem_pinsAt hb e)))
            ⟨z.1, z.2.1⟩
          refine ⟨xs.length - (i + 1), by omega, i + 1, acc', F', ρ', st', H', σ', ho', rfl, hlt, I'.unpinned, ⟨lp'.s0, lp'.rl, lp'.eo.back eb hf, lp'.an, lp'.sd, lp'.ao⟩, Tn.keep _ _ _ st7 fun b hb ob e => (pin' b hb ob e).1, fun b hb => ⟨?_, (hfp b hb).2⟩, q'⟩
          obtain ⟨ob, e, _⟩ := Tn.obj _ _ st7 b hb
          exact (pin' b hb ob e).2
        cases b with
        | true =>
          rw [if_pos rfl]
          exact hb _ _ env' acc F9 ρ9 st9 H9 σ8 ho s9 I9 lp9 q9 fin
        | false =>
          (rw [if_neg Bool.false_ne_true])
          exact fin acc F9 ρ9 st9 H9 σ8 ho s9 I9 lp9 q9
  · (have e : i = xs.length := by omega)
    subst e
    have td := Tn.done X rfl rfl rfl o.calm xs.length pz s sg H (fun _ _ => False) I hfp ht (wk.stop F H lp.s0 lp.rl.sub)
    (refine thnF td fun r s6 ⟨hr, I6⟩ => ?_)
    subst hr
    rw [List.drop_of_length_le (Nat.le_refl _)] at q
    refine hR acc F ρ st H sg ho s6 I6 lp ?_
    exact q F ρ H lp.rl lp.an
theorem comp_loop (o : XOk xr T fa fd ps k B (fun _ => XF) X) (hxe : X.xe = fun _ _ => False) (ce : CmpE e gs emit) (am : ∀ F F' ho acc, Sub F F' → AO F ho acc → AO F' ho acc) (em : Emit X xr emit D AO f) {Fa : Hp} {ρa : List Addr} {sta : Sto} {Ha : Hp} (hD : Ha D = none) :
    ∀ (g : Gen) (cs : List Comprehension) (d : Nat) (c : Comprehension) (p : Pt) (ifs : Exs), gs[d]? = some c → gs.drop (d + 1) = cs → agP B p c.target = true → OkEs xr T fa fd ps k C B ifs c.ifs → c.is_async = 0 → OkG xr T fa fd ps k C B B g cs →
    ∀ (pz : List (Addr × Obj)) (R : Result → Shared → Prop) (it : Addr) (fp : List Addr) (tn : Nat → Heap → Prop) (J : L2.It) (xs : List P) (F0 : Hp) (env : Env) (Qf : List P → Hp → List Addr → Sto → Hp → Prop),
      Turn X.prog X.w X.K c.target J fp it tn → Wk X.K J xs F0 → freeP p env = true →
      (∀ acc F ρ st H sg ho s', Inv X pz sg H s' → Lp X AO D Fa ρa sta Ha F0 env acc F ρ st H sg ho → Qf acc F ρ st H → R (.ok .next) s') →
      ∀ (s : Shared) (n : Nat), LpI X xr C AO D Fa ρa sta Ha F0 env pz fp tn xs (turnF C p ifs g f env) Qf n s → codeAny (model X.prog X.w) X.A (.compLoop e d (.ref it) (.ref D) X.env) R s
  | .nil, cs, d, c, p, ifs, h1, h2, hp, hifs, ha, hg, pz, R, it, fp, tn, J, xs, F0, env, Qf, Tn, wk, hf, hR, s, n, hI => by
    have hg : cs = [] := hg
    subst hg
    have hl : gs[d + 1]? = none := by
      have z : (gs.drop (d + 1))[0]? = gs[d + 1]? := List.getElem?_drop ..
      rw [← z, h2]
      rfl
    refine cmp_last ce h1 hl ha (LpI X xr C AO D Fa ρa sta Ha F0 env pz fp tn xs (turnF C p ifs .nil f env) Qf) (fun n s hI => ?_) n hI
    refine lp_turn o hxe am hp hifs Tn wk hf hR hI fun pl rest env' acc F ρ st H sg ho s3 I3 lp3 q3 fin => ?_
    have q3 : Post X.K xr XF Fa ρa sta Ha (bnd (f env' acc) (fun a => foldP rest a (turnF C p ifs .nil f env)) st) Qf := q3
    have r := em.run _ s3 sg H (fun H' => ∃ acc' F' ρ' st' ho', Lp X AO D Fa ρa sta Ha F0 env' acc' F' ρ' st' H' sg ho' ∧ Post X.K xr XF Fa ρa sta Ha (foldP rest acc' (turnF C p ifs .nil f env) st') Qf) env' F ρ st ho acc I3 lp3.rl lp3.eo lp3.sd lp3.ao
      ((q3.at lp3.an).imp fun acc' F' ρ' st' H' rl' sp' ⟨an', q'⟩ ho' ao' sd' => ⟨acc', F', ρ', st', ho', ⟨lp3.s0.trans sp'.ext, sd'.rel rl', lp3.eo.step sp', an'.side hD, sd'.put, ao'⟩, q'⟩)
    rw [hxe] at r
    exact thnF r fun _ s4 ⟨H', I', acc', F', ρ', st', ho', lp', q'⟩ => fin acc' F' ρ' st' H' sg ho' s4 I' lp' q'
  | .cons p2 i2 ifs2 g2, cs, d, c, p, ifs, h1, h2, hp, hifs, ha, hg, pz, R, it, fp, tn, J, xs, F0, env, Qf, Tn, wk, hf, hR, s, n, hI => by
    obtain ⟨c2, cs2, rfl, hp2, hi2, hifs2, ha2, hs2, hg2⟩ := hg
    have hl : gs[d + 1]? = some c2 := by
      have z : (gs.drop (d + 1))[0]? = gs[d + 1]? := List.getElem?_drop ..
      rw [← z, h2]
      rfl
    have hdr : gs.drop (d + 1 + 1) = cs2 := by
      rw [← List.drop_drop, h2]
      rfl
    refine cmp_inner ce h1 hl ha ha2 (hs2 X.env) (LpI X xr C AO D Fa ρa sta Ha F0 env pz fp tn xs (turnF C p ifs (.cons p2 i2 ifs2 g2) f env) Qf) (fun n s hI => ?_) n hI
    refine lp_turn o hxe am hp hifs Tn wk hf hR hI fun pl rest env' acc F ρ st H sg ho s3 I3 lp3 q3 fin => ?_
    rw [evG_cons, bnd_assoc] at q3
    have r := (hi2 _ X o).run _ s3 sg H (fun J2 H4 => ∃ (xs2 : List P) (F4 : Hp) (ρ4 : List Addr) (st4 : Sto), Wk X.K J2 xs2 F4 ∧ Lp X AO D Fa ρa sta Ha F0 env' acc F4 ρ4 st4 H4 sg ho ∧
      Post X.K xr XF Fa ρa sta Ha (bnd (if freeP p2 env' then nox (foldP xs2 acc (turnF C p2 ifs2 g2 f env')) else stuck) (fun a => foldP rest a (turnF C p ifs (.cons p2 i2 ifs2 g2) f env)) st4) Qf) I3 ⟨env', F, ρ, st, lp3.rl, lp3.eo,
      (q3.at lp3.an).imp fun xs2 F4 ρ4 st4 H4 rl4 sp4 ⟨an4, q4⟩ J2 wk2 => ⟨xs2, F4, ρ4, st4, wk2, ⟨lp3.s0.trans sp4.ext, rl4, lp3.eo.step sp4, an4, lp3.sd.step sp4, am _ _ _ _ sp4.ext lp3.ao⟩, q4⟩⟩
    rw [hxe] at r
    refine thnF r fun xv s4 hx => thnF hx fun itv s5 h5 => ?_
    obtain ⟨it2, fp2, tn2, J2, H5, e5, I5, T2, st5, f5, xs2, F4, ρ4, st4, wk2, lp4, q4⟩ := h5
    subst e5
    cases hfree : freeP p2 env' with
    | false =>
      rw [hfree] at q4
      exact q4.elim
    | true =>
      rw [hfree, if_pos rfl] at q4
      have q5 := q4.bnox.bnd0
      have hI2 : LpI X xr C AO D Fa ρa sta Ha F4 env' (pz ++ pl) fp2 tn2 xs2 (turnF C p2 ifs2 g2 f env') (fun acc' F' ρ' st' H' => Post X.K xr XF Fa ρa sta Ha (foldP rest acc' (turnF C p ifs (.cons p2 i2 ifs2 g2) f env) st') Qf) xs2.length s5 :=
        ⟨0, acc, F4, ρ4, st4, H5, sg, ho, rfl, Nat.zero_le _, I5, ⟨.refl _, lp4.rl, lp4.eo, lp4.an, lp4.sd, lp4.ao⟩, st5, f5, q5⟩
      have loop := comp_loop o hxe ce am em hD g2 cs2 (d + 1) c2 p2 ifs2 hl hdr hp2 hifs2 ha2 hg2 (pz ++ pl)
        (fun r s' => match r with
          | .ok _ => ∃ m, m < n ∧ LpI X xr C AO D Fa ρa sta Ha F0 env pz fp tn xs (turnF C p ifs (.cons p2 i2 ifs2 g2) f env) Qf m s'
          | .error _ => False) it2 fp2 tn2 J2 xs2 F4 env' _ T2 wk2 hfree (fun acc' F' ρ' st' H' σ' ho' s' I' lp' q' => fin acc' F' ρ' st' H' σ' ho' s' I' ⟨lp4.s0.trans lp'.s0, lp'.rl, lp'.eo, lp'.an, lp'.sd, lp'.ao⟩ q') s5 _ hI2
      exact cmp_start ce hl ha2 loop (T2.self X.A 0 _ _ _ st5 loop)
end
end Fy

/-! Fy12: comprehensions as values, stored. -/
namespace Fy
open PySem
open PySem.Spec
open PyProof.Rows
open L2

theorem ownS_snd (N : List Str) : ∀ own : List Nat, (ownS N own).map (·.2) = own
  | [] => rfl
  | i :: is => congrArg (i :: ·) (ownS_snd N is)
theorem wipe_len (env : Env) : ∀ own : List Nat, (wipeE env own).length = env.length
  | [] => rfl
  | v :: vs => by
    show ((wipeE env vs).set v none).length = _
    rw [List.length_set, wipe_len env vs]
theorem EnvOk.wipe {K : PySem.W.Frag} {F : Hp} {ρ : List Addr} {b : Nat} {env : Env} {sg : L2.St} (h : EnvOk K F ρ b env sg) : ∀ own : List Nat, EnvOk K F ρ b (wipeE env own) (L2.wipe sg own)
  | [] => h
  | v :: vs => by
    have ih := EnvOk.wipe h vs
    refine ⟨by rw [wipe_len, wipe_length]; exact h.1, fun i s e => ?_⟩
    have e : ((wipeE env vs).set v none)[i]? = some (some s) := e
    show ∃ w, ((L2.wipe sg vs).set v none)[i]? = some (some w) ∧ _
    by_cases q : v = i
    · subst q
      by_cases hl : v < (wipeE env vs).length
      · rw [List.getElem?_set_self hl] at e
        cases e
      · rw [List.getElem?_eq_none (by rw [List.length_set]; omega)] at e
        cases e
    · rw [List.getElem?_set_ne q] at e
      rw [List.getElem?_set_ne q]
      exact ih.2 i s e
theorem Rel.side {K : PySem.W.Frag} {F : Hp} {ρ : List Addr} {st : Sto} {H : Hp} {D : Addr} {ho' : HO} (rl : Rel K F ρ st H) (no : ¬ Own F ρ st D) : Rel K F ρ st (upd H D ho') := by
  refine ⟨rl.len, fun a o e => ?_, fun n c e hl => ?_, rl.inj⟩
  · have : a ≠ D := by
      rintro rfl
      exact no (.inl (by rw [e]; exact fun z => nomatch z))
    rw [upd_ne this]
    exact rl.sub a o e
  · obtain ⟨a, h, h1, h2, h3, h4⟩ := rl.cell n c e hl
    have : a ≠ D := by
      rintro rfl
      exact no (.inr ⟨n, c, e, hl, h1⟩)
    exact ⟨a, h, h1, h2, by rw [upd_ne this]; exact h3, h4⟩
theorem Rel.noOwn {K : PySem.W.Frag} {F : Hp} {ρ : List Addr} {st : Sto} {H : Hp} {D : Addr} (rl : Rel K F ρ st H) (h : H D = none) : ¬ Own F ρ st D := by
  rintro (z | ⟨n, c, e, hl, h1⟩)
  · exact z (rl.sub.back h)
  · obtain ⟨a, ho, g1, g2, g3, g4⟩ := rl.cell n c e hl
    rw [h1] at g1
    cases g1
    rw [h] at g3
    cases g3
/-- a side object becomes data -/
theorem Side.data {K : PySem.W.Frag} {F : Hp} {ρ : List Addr} {st : Sto} {H : Hp} {D : Addr} {ho : HO} (d : Side F ρ st H D ho) (rl : Rel K F ρ st H) : Rel K (upd F D ho) ρ st H := by
  have hF : F D = none := by
    cases e : F D with
    | none => rfl
    | some o => exact absurd (.inl (by rw [e]; exact fun z => nomatch z)) d.no
  refine ⟨rl.len, fun a o e => ?_, fun n c e hl => ?_, rl.inj⟩
  · by_cases q : a = D
    · subst q
      rw [upd_same] at e
      cases e
      exact d.at_
    · rw [upd_ne q] at e
      exact rl.sub a o e
  · obtain ⟨a, h, h1, h2, h3, h4⟩ := rl.cell n c e hl
    have : a ≠ D := by
      rintro rfl
      exact d.no (.inr ⟨n, c, e, hl, h1⟩)
    exact ⟨a, h, h1, by rw [upd_ne this]; exact h2, h3, h4.mono (Sub.new hF)⟩
theorem Step.data {b : Nat} {Fa F : Hp} {ρa ρ : List Addr} {sta st : Sto} {Ha H : Hp} {D : Addr} {ho : HO} (s : Step b Fa ρa sta Ha F ρ st H) (hd : Ha D = none) (d : Side F ρ st H D ho) : Step b Fa ρa sta Ha (upd F D ho) ρ st H := by
  have hF : F D = none := by
    cases e : F D with
    | none => rfl
    | some o => exact absurd (.inl (by rw [e]; exact fun z => nomatch z)) d.no
  refine ⟨s.ext.trans (Sub.new hF), s.pre, s.len, s.keep, fun a e z => ?_, s.there⟩
  have q : a ≠ D := by
    rintro rfl
    exact e hd
  refine s.own a e ?_
  rcases z with z | z
  · rw [upd_ne q] at z
    exact .inl z
  · exact .inr z
section
variable {xr : XR} {T : Tab} {fa : Nat → Addr} {fd : Nat → FuncData} {ps : Nat → List Str} {k : Nat} {A : Agr} {E : L2.St → XK} {X : Cx} {C : Ev}
/-- what a comprehension of ours asks -/
def tCm (X : Cx) (xr : XR) (E : L2.St → XK) (C : Ev) (g : Gen) (own : List Nat) (f : Env → List P → M (List P)) (fin : List P → P) (sg : L2.St) (H : Hp) (QF : Sl → Hp → List Addr → Sto → Hp → Prop) : Prop := ∃ env F ρ st, Rel X.K F ρ st H ∧ EnvOk X.K F ρ st.length env sg ∧
  Post X.K xr (E sg) F ρ st H (bnd (evG C g f env (wipeE env own) []) (fun ps => ret (.val (fin ps))) st) QF
theorem cmp_gen (o : XOk xr T fa fd ps k A E X) {e : Expr} {c : Comprehension} {cs : List Comprehension} {emit : Value → PySem.Env → Sem Unit} {AO : Addr → Hp → HO → List P → Prop} {f : Env → List P → M (List P)} {fin : List P → P} {g : Gen} {own : List Nat} {scope : Scope} {pos' : Pos} {ho0 : Addr → HO} {ob : Obj} {newAcc : Sem Value} {use : Option (Value → Sem Unit)} {Qf : Value → Shared → Prop}
    {pz : List (Addr × Obj)} {s : Shared} {sg : L2.St} {H : Hp} {Q : VK} (ce : CmpE e (c :: cs) emit) (am : ∀ D F F' ho acc, Sub F F' → AO D F ho acc → AO D F' ho acc) (em : ∀ (X' : Cx) (D : Addr), X'.K = X.K → X'.w = X.w → XOk xr T fa fd ps k (A.blk scope) (fun _ => XF) X' → X'.xe = (fun _ _ => False) → Emit X' xr emit D (AO D) f)
    (hb : blkC A.N A.sc scope (ownS A.N own) = true) (hg : OkG xr T fa fd ps k C A (A.blk scope) g (c :: cs)) (h00 : ∀ D F, AO D F (ho0 D) []) (hnew : ∀ {E : Value → Shared → Prop} {Q : Value → Shared → Prop} {s : Shared}, Q (.ref s.heap.objs.size) { s with heap := s.heap.push ob } → wpAny (model X.prog X.w) X.A newAcc Q E s)
    (hlaid : ∀ {pz : List (Addr × Obj)} {sg : L2.St} {H : Hp} {s : Shared}, Inv X pz sg H s → Inv X pz sg (upd H s.heap.objs.size (ho0 s.heap.objs.size)) { s with heap := s.heap.push ob })
    {QF : Sl → Hp → List Addr → Sto → Hp → Prop} (hq : ∀ (Fa : Hp) (ρa : List Addr) (sta : Sto) (Ha : Hp) (acc : List P) (F : Hp) (ρ : List Addr) (st : Sto) (H : Hp) (ho : HO) (D : Addr), Ha D = none → Rel X.K F ρ st H → Step sta.length Fa ρa sta Ha F ρ st H → Side F ρ st H D ho → AO D F ho acc → Post X.K xr (E sg) Fa ρa sta Ha (.ok (.val (fin acc)) st) QF → Q (.ref D) H) (I : Inv X pz sg H s) (h : tCm X xr E C g own f fin sg H QF)
    (hRR : ∀ D C s' m H', Inv X pz sg H' s' → Q (.ref D) H' → s'.heap.Ns C m → FpOk X pz H' C → compPost (model X.prog X.w) X.A X.xe use Qf (.ref D) C (.ok .next) s') :
    wpAny (model X.prog X.w) X.A (comprehension e scope X.env pos' newAcc false (eval c.iter X.env) use) Qf X.xe s := by
  have ok : BlkOk X.N X.env.scope scope (ownS A.N own) := by
    rw [o.N, o.sc]
    exact blkOk_by hb
  cases g with
  | nil => cases hg
  | cons p i ifs g =>
    obtain ⟨c', cs', ec, hp, hi, hifs, ha, hs, hg⟩ := hg
    cases ec
    obtain ⟨env, F, ρ, st, rl, eo, q⟩ := h
    rw [evG_cons, bnd_assoc] at q
    have hfr : ∀ y ∈ scope.names, y.2 = .free → ∃ c, X.env.cells.lookup y.1 = some c := fun y hy e => by
      (rcases ok.free y hy e with k | k)
      · exact I.ok.has _ (.inl k)
      · exact I.ok.has _ (.inr k)
    refine wpAny_comprehension_free (use := use) ce.cl (hs X.env) (closure_ok hfr) ok.kind (fun y hy e => by rw [ok.uniq y hy, e])
      (thn ((hi _ X o).run pz s sg H (fun J H1 => ∃ (xs : List P) (F1 : Hp) (ρ1 : List Addr) (st1 : Sto), Wk X.K J xs F1 ∧ Rel X.K F1 ρ1 st1 H1 ∧ EnvOk X.K F1 ρ1 st1.length env sg ∧
        Post X.K xr (E sg) F1 ρ1 st1 H1 (bnd (if freeP p (wipeE env own) then nox (foldP xs [] (turnF C p ifs g f (wipeE env own))) else stuck) (fun ps => ret (.val (fin ps))) st1) QF) I
        ⟨env, F, ρ, st, rl, eo, q.bnd.imp fun xs F1 ρ1 st1 H1 rl1 sp1 q J wk => ⟨xs, F1, ρ1, st1, wk, rl1, eo.step sp1, q⟩⟩) fun xv s1 hx => thn hx fun itv s2 h2 => ?_)
    obtain ⟨it, fp, tn, J, H2, e, I2, Tn, st2, f2, xs, F1, ρ1, st1, wk, rl1, eo1, q1⟩ := h2
    subst e
    cases hfr : freeP p (wipeE env own) with
    | false =>
      rw [hfr] at q1
      exact q1.elim
    | true =>
      rw [hfr, if_pos rfl] at q1
      refine hnew (newEnv_comp ?_)
      have I3 := hlaid I2
      generalize hD : s2.heap.objs.size = D at I3
      (have hDn : H2 D = none := I2.hok.fresh (Nat.le_of_eq hD))
      have no := rl1.noOwn hDn
      generalize hs3 : ({ s2 with heap := s2.heap.push ob } : Shared) = s3 at I3
      have h3 : s3.heap = s2.heap.push ob := by rw [← hs3]
      have szz : ∀ b ∈ fp, b < s2.heap.objs.size := fun b hb => by
        obtain ⟨o, e, _⟩ := Tn.obj _ _ st2 b hb
        exact Heap.lt_size e
      have f3 : ∀ b ∈ fp, FpOk X pz (upd H2 D (ho0 D)) b ∧ b < s3.heap.objs.size := fun b hb => by
        have hlt := szz b hb
        (refine ⟨⟨?_, (f2 b hb).2⟩, by rw [h3, Heap.size_push]; exact Nat.lt_succ_of_lt hlt⟩)
        (rw [upd_ne (by rw [← hD]; exact Nat.ne_of_lt hlt)])
        exact (f2 b hb).1
      have st3 : tn 0 s3.heap := Tn.keep _ _ _ st2 fun b _ o e => by rw [h3]; exact Heap.get?_push_of_some _ e
      have I4 := block_start I3 ok (by rw [o.N]; exact o.nd) f3
      rw [ownS_snd] at I4
      have ob' := o.blk (scope := scope) (s := s3) (H := upd H2 D (ho0 D)) (cl := cellsFrom (s3.heap.objs.size + 1) scope.names (cloFrom X.env.cells scope.names [])) (D := s3.heap.objs.size) (fp := fp)
      show codeAny _ _ (.compStart e 0 (.ref it) (.ref D) (compEnvC scope (cellsFrom (s3.heap.objs.size + 1) scope.names (cloFrom X.env.cells scope.names [])) s3.heap.objs.size X.env)) (compPost (model X.prog X.w) X.A X.xe use Qf (.ref D) s3.heap.objs.size) { s3 with heap := pushCells (s3.heap.push { cls := .type "dict", data := .dict #[] }) scope.names }
      generalize hce : compEnvC scope (cellsFrom (s3.heap.objs.size + 1) scope.names (cloFrom X.env.cells scope.names [])) s3.heap.objs.size X.env = cv at I4 ob' ⊢
      have cL : cv.locals = s3.heap.objs.size := by subst hce; rfl
      (generalize hs4 : ({ s3 with heap := pushCells (s3.heap.push { cls := .type "dict", data := .dict #[] }) scope.names } : Shared) = s4 at I4 ⊢)
      have st4 : tn 0 s4.heap := Tn.keep _ _ _ st3 fun b _ o e => by rw [← hs4]; exact pushCells_keeps _ _ _ _ (Heap.get?_push_of_some _ e)
      have stat : ∀ b ∈ fp, FpOk (X.blk s3 (upd H2 D (ho0 D)) scope cv fp) [] (upd H2 D (ho0 D)) b := fun b hb =>
        ⟨(f3 b hb).1.1, (I4.ok.exf b hb).1, I4.ok.exfs b hb, .inl hb, fun x c e => (I4.ok.exf b hb).2 x c e, fun p hp => absurd (show p ∈ ([] : List (Addr × Obj)) ++ [] from hp) (by simp)⟩
      have q2 := q1.bnox.bnd0
      have q2 : Post X.K xr XF F1 ρ1 st1 H2 (foldP xs [] (turnF C p ifs g f (wipeE env own)) st1) (fun a _ _ st2 _ => Post X.K xr (E sg) F1 ρ1 st1 H2 (ret (.val (fin a)) st2) QF) := by
        refine Post.nox (E := E sg) ?_
        unfold Fy.nox
        cases e : foldP xs [] (turnF C p ifs g f (wipeE env own)) st1 with
        | ok a t =>
          rw [e] at q2
          exact q2
        | exc y t =>
          unfold Fy.bnd Fy.nox at q1
          rw [e] at q1
          exact q1.elim
        | bad =>
          rw [e] at q2
          exact q2
      have loop : codeAny (model X.prog X.w) X.A (.compLoop e 0 (.ref it) (.ref D) cv) (compPost (model X.prog X.w) X.A X.xe use Qf (.ref D) s3.heap.objs.size) s4 := by
        refine comp_loop (X := X.blk s3 (upd H2 D (ho0 D)) scope cv fp) ob' rfl ce (am D) (em _ D rfl rfl ob' rfl) hDn g cs 0 c p ifs rfl rfl hp hifs ha hg [] _ it fp tn J xs F1 (wipeE env own) _ Tn wk hfr (fun acc F6 ρ6 st6 H6 σ6 ho6 s6 I6 lp6 q6 => ?_) s4 xs.length
          ⟨0, [], F1, ρ1, st1, upd H2 D (ho0 D), L2.wipe sg own, ho0 D, rfl, Nat.zero_le _, I4, ⟨.refl _, rl1.side no, eo1.wipe own, (Step.refl (Nat.le_refl _)).side hDn, ⟨upd_same, no⟩, h00 D _⟩, st4, stat, q2⟩
        have I7 : Inv X pz sg H6 s6 := I3.call' (ch := fp) I6.os I6.base I6.hok I6.bare fun b hb => ⟨(f3 b hb).1.2.2.2.1, (f3 b hb).1.2.1, (f3 b hb).1.2.2.2.2.1, (f3 b hb).1.2.2.2.2.2⟩
        have nC : H6 s3.heap.objs.size = none := by
          have z : H6 cv.locals = none := I6.free
          rw [cL] at z
          exact z
        obtain ⟨m, hn, _⟩ := I6.loc
        have hn : s6.heap.Ns cv.locals m := hn
        rw [cL] at hn
        refine hRR D s3.heap.objs.size s6 m H6 I7 ?_ hn (I3.fpOk (Nat.le_refl _) nC)
        exact hq F1 ρ1 st1 H2 acc F6 ρ6 st6 H6 ho6 D hDn lp6.rl lp6.an lp6.sd lp6.ao q6
      exact cmp_start ce rfl ha loop (Tn.self X.A 0 _ _ _ st4 loop)
/-- the new object is data -/
theorem cmp_data {AO : Hp → HO → List P → Prop} {fin : List P → P} {E : XK} {Q : VK} (am : ∀ F F' ho acc, Sub F F' → AO F ho acc → AO F' ho acc) (hfin : ∀ F ho acc D, AO F ho acc → F D = some ho → Rep X.K F (.ref D) (fin acc)) (Fa : Hp) (ρa : List Addr) (sta : Sto) (Ha : Hp) (acc : List P) (F : Hp) (ρ : List Addr) (st : Sto) (H : Hp) (ho : HO) (D : Addr) (hD : Ha D = none) (rl : Rel X.K F ρ st H) (an : Step sta.length Fa ρa sta Ha F ρ st H) (sd : Side F ρ st H D ho) (ao : AO F ho acc) (q : Post X.K xr E Fa ρa sta Ha (.ok (.val (fin acc)) st) (QV X.K Q)) : Q (.ref D) H := by
  have hF : F D = none := by
    cases e : F D with
    | none => rfl
    | some o => exact absurd (.inl (by rw [e]; exact fun z => nomatch z)) sd.no
  exact q (upd F D ho) ρ H (sd.data rl) (an.data hD sd) (.ref D) (hfin _ _ _ _ (am _ _ _ _ (Sub.new hF) ao) upd_same)
end
end Fy

/-! Fy13: lists and dicts by comprehension. -/
namespace Fy
open PySem
open PySem.Spec
open PyProof.Rows
open L2

def AOl (K : PySem.W.Frag) : Hp → HO → List P → Prop := fun F ho acc => ∃ vs, ho = .lst vs ∧ Reps K F vs acc
def fLc (C : Ev) (e : Ex) : Env → List P → M (List P) := fun env acc => bnd (evE C e env) fun x => bnd (asP x) fun p => if acc.length < lenMost then ret (acc ++ [p]) else stuck
def kvF (ps : List P) : List (P × P) := ps.foldl (fun kvs pr => match pr with | .tup [k, v] => putKv kvs k v | _ => kvs) []
def AOd (K : PySem.W.Frag) : Hp → HO → List P → Prop := fun F ho acc => ∃ vs, ho = .dK vs ∧ RepK K F vs (kvF acc) ∧ vs.length ≤ acc.length
def fDc (C : Ev) (k v : Ex) : Env → List P → M (List P) := fun env acc => bnd (evE C k env) fun x => bnd (asP x) fun p => bnd (evE C v env) fun y => bnd (asP y) fun q => if keyOk p && decide (acc.length < lenMost) then ret (acc ++ [.tup [p, q]]) else stuck
section
variable {xr : XR} {T : Tab} {fa : Nat → Addr} {fd : Nat → FuncData} {ps : Nat → List Str} {k : Nat} {A : Agr} {E : L2.St → XK} {X : Cx} {C : Ev}
theorem em_list (hxe : X.xe = fun _ _ => False) {x : Ex} {elt : Expr} {D : Addr} (h : PE X elt (tE X xr (fun _ => XF) C x)) : Emit X xr (fun acc env => do let _ ← call (.builtin "list.append") [acc, ← eval elt env]) D (AOl X.K) (fLc C x) := by
  refine ⟨fun pz s sg H Q env F ρ st ho acc I rl eo sd ⟨vs, e0, ra⟩ q => ?_⟩
  subst e0
  have r := h.run pz s sg H (fun v H1 => ∃ vs, H1 D = some (.lst vs) ∧ vs.length < sizeLine ∧ Q (upd H1 D (.lst (vs ++ [v])))) I ⟨env, F, ρ, st, rl, eo, ?_⟩
  · refine wpAny_bind ?_
    rw [hxe] at r ⊢
    refine thnF r fun u s1 ⟨v, H1, I1, r1, vs1, h1, h2, h3⟩ => wpAny_bind ?_
    exact app_ok I1 h1 h2 r1 fun s2 I2 => wpAny_pure ⟨_, I2, h3⟩
  · have q : Post X.K xr XF F ρ st H (bnd (evE C x env) (fun x => bnd (asP x) fun p => if acc.length < lenMost then ret (acc ++ [p]) else stuck) st) _ := q
    refine q.bnd.imp fun s1 F1 ρ1 st1 H1 rl1 sp1 q v rv => ?_
    obtain ⟨p, ep, q1⟩ := q.asP
    subst ep
    split at q1
    · rename_i hl
      have q2 := q1.ret rl1
      have sd1 := sd.step sp1
      exact ⟨vs, sd1.at_, by rw [ra.length]; exact lenMost_lt' hl, q2 _ ⟨_, rfl, (ra.mono sp1.ext).append (.cons rv .nil)⟩ sd1⟩
    · exact q1.elim
theorem kvF_snoc (acc : List P) (k v : P) : kvF (acc ++ [.tup [k, v]]) = putKv (kvF acc) k v := by
  unfold kvF
  rw [List.foldl_append]
  rfl
theorem em_dict (hxe : X.xe = fun _ _ => False) {x y : Ex} {kw vw : Expr} {D : Addr} (h : PE X kw (tE X xr (fun _ => XF) C x)) (h2 : PE X vw (tE X xr (fun _ => XF) C y)) : Emit X xr (fun acc env => do
    let ky ← eval kw env
    let vy ← holding [ky] (eval vw env)
    match acc with
    | .ref d => do
      standAt { kw.pos with endLine := vw.pos.endLine, endCol := vw.pos.endCol }
      holding [ky, vy] (dictSet d ky vy)
    | _ => unsupported "internal:dictcomp") D (AOd X.K) (fDc C x y) := by
  refine ⟨fun pz s sg H Q env F ρ st ho acc I rl eo sd ⟨vs, e0, ra, hl⟩ q => ?_⟩
  subst e0
  have r := h.run pz s sg H (fun v H1 => tE X xr (fun _ => XF) C y sg H1 fun w H2 => ∃ vs k, v = kV k ∧ H2 D = some (.dK vs) ∧ vs.length < sizeLine ∧ Q (upd H2 D (.dK (putK vs k w)))) I ⟨env, F, ρ, st, rl, eo, ?_⟩
  · refine wpAny_bind ?_
    rw [hxe] at r ⊢
    refine thnF r fun u s1 ⟨v, H1, I1, r1, h1⟩ => wpAny_bind (wpAny_holding ?_)
    have r2 := h2.run pz s1 sg H1 _ I1 h1
    rw [hxe] at r2
    refine thnF r2 fun u2 s2 ⟨w, H2, I2, rw2, vs2, kk, e1, e2, e3, e4⟩ => ?_
    subst e1
    refine wpAny_bind (wpAny_standAt (wpAny_holding ?_))
    exact d_dictSet I2 e2 e3 r1 rw2 fun s3 I3 => ⟨_, I3, e4⟩
  · have q : Post X.K xr XF F ρ st H (bnd (evE C x env) (fun x => bnd (asP x) fun p => bnd (evE C y env) fun y => bnd (asP y) fun q => if keyOk p && decide (acc.length < lenMost) then ret (acc ++ [.tup [p, q]]) else stuck) st) _ := q
    refine q.bnd.imp fun s1 F1 ρ1 st1 H1 rl1 sp1 q v rv => ?_
    obtain ⟨p, ep, q1⟩ := q.asP
    subst ep
    refine ⟨env, F1, ρ1, st1, rl1, eo.step sp1, q1.bnd.imp fun s2 F2 ρ2 st2 H2 rl2 sp2 q w rw2 => ?_⟩
    obtain ⟨p2, ep, q2⟩ := q.asP
    subst ep
    split at q2
    · rename_i hc
      (rw [Bool.and_eq_true, decide_eq_true_eq] at hc)
      have q3 := q2.ret rl2
      have sd1 := (sd.step sp1).step sp2
      obtain ⟨kk, rfl⟩ := keyOk_inv hc.1
      have hv : v = kV kk := Rep.key rv
      have rw2 : Rep X.K F2 w p2 := rw2
      refine ⟨vs, kk, hv, sd1.at_, Nat.lt_of_le_of_lt hl (lenMost_lt' hc.2), q3 _ ⟨_, rfl, ?_, ?_⟩ sd1⟩
      · rw [kvF_snoc]
        exact RepK.put rw2 (ra.mono (sp1.ext.trans sp2.ext))
      · have := length_putK vs kk w
        rw [List.length_append]
        have h1 : [P.tup [keyP kk, p2]].length = 1 := rfl
        omega
    · exact q2.elim
theorem AOl_mono {K : PySem.W.Frag} (F F' : Hp) (ho : HO) (acc : List P) (sf : Sub F F') (h : AOl K F ho acc) : AOl K F' ho acc := let ⟨vs, e, r⟩ := h; ⟨vs, e, r.mono sf⟩
theorem AOd_mono {K : PySem.W.Frag} (F F' : Hp) (ho : HO) (acc : List P) (sf : Sub F F') (h : AOd K F ho acc) : AOd K F' ho acc := let ⟨vs, e, r, l⟩ := h; ⟨vs, e, r.mono sf, l⟩
/-- [..] by clauses -/
theorem lcm_core0 (o : XOk xr T fa fd ps k A E X) {x : Ex} {elt : Expr} {c : Comprehension} {cs : List Comprehension} {g : Gen} {own : List Nat} {scope : Scope} {pos pos' : Pos} {use : Option (Value → Sem Unit)} {Qf : Value → Shared → Prop} {pz : List (Addr × Obj)} {s : Shared} {sg : L2.St} {H : Hp} {Q : VK}
    (hb : blkC A.N A.sc scope (ownS A.N own) = true) (hg : OkG xr T fa fd ps k C A (A.blk scope) g (c :: cs)) (he : OkE xr T fa fd ps k C (A.blk scope) x elt) (I : Inv X pz sg H s) {QF : Sl → Hp → List Addr → Sto → Hp → Prop} (hq : ∀ (Fa : Hp) (ρa : List Addr) (sta : Sto) (Ha : Hp) (acc : List P) (F : Hp) (ρ : List Addr) (st : Sto) (H : Hp) (ho : HO) (D : Addr), Ha D = none → Rel X.K F ρ st H → Step sta.length Fa ρa sta Ha F ρ st H → Side F ρ st H D ho → AOl X.K F ho acc → Post X.K xr (E sg) Fa ρa sta Ha (.ok (.val (.lst acc)) st) QF → Q (.ref D) H) (h : tCm X xr E C g own (fLc C x) (fun ps => .lst ps) sg H QF)
    (hRR : ∀ D C s' m H', Inv X pz sg H' s' → Q (.ref D) H' → s'.heap.Ns C m → FpOk X pz H' C → compPost (model X.prog X.w) X.A X.xe use Qf (.ref D) C (.ok .next) s') :
    wpAny (model X.prog X.w) X.A (comprehension (.ListComp elt (c :: cs) scope pos) scope X.env pos' (newList []) false (eval c.iter X.env) use) Qf X.xe s := by
  refine cmp_gen o (AO := fun _ => AOl X.K) (f := fLc C x) (fin := fun ps => .lst ps) (ho0 := fun _ => .lst []) (ob := { cls := .type "list", data := .seq ([] : List Value).toArray }) cmp_list (fun _ => AOl_mono) (fun X' D hK _ o' hx => ?_) hb hg (fun _ F => ⟨[], rfl, .nil⟩) (fun {E Q s} h => ?_) (fun {pz sg H s} I => ?_) hq I h hRR
  · rw [← hK]
    exact em_list hx (he _ X' o').1
  · exact wpAny_newObj_type h (by show 0 ≤ sizeLine; decide)
  · exact I.laid (t' := s.toks) (fun b o e => Heap.get?_push_of_some _ e) (Nat.le_refl _) ⟨Nat.zero_le _, [], 0, .nil, Heap.get?_push_size _ rfl⟩
theorem lcm_core (o : XOk xr T fa fd ps k A E X) {x : Ex} {elt : Expr} {c : Comprehension} {cs : List Comprehension} {g : Gen} {own : List Nat} {scope : Scope} {pos pos' : Pos} {use : Option (Value → Sem Unit)} {Qf : Value → Shared → Prop} {pz : List (Addr × Obj)} {s : Shared} {sg : L2.St} {H : Hp} {Q : VK}
    (hb : blkC A.N A.sc scope (ownS A.N own) = true) (hg : OkG xr T fa fd ps k C A (A.blk scope) g (c :: cs)) (he : OkE xr T fa fd ps k C (A.blk scope) x elt) (I : Inv X pz sg H s) (h : tE X xr E C (.lcm x own g) sg H Q)
    (hRR : ∀ D C s' m H', Inv X pz sg H' s' → Q (.ref D) H' → s'.heap.Ns C m → FpOk X pz H' C → compPost (model X.prog X.w) X.A X.xe use Qf (.ref D) C (.ok .next) s') :
    wpAny (model X.prog X.w) X.A (comprehension (.ListComp elt (c :: cs) scope pos) scope X.env pos' (newList []) false (eval c.iter X.env) use) Qf X.xe s :=
  lcm_core0 o hb hg he I (cmp_data (fin := fun ps => .lst ps) AOl_mono fun F ho acc D ⟨vs, e, r⟩ hD => by
    subst e
    exact .lst hD r) h hRR
theorem dcm_core0 (o : XOk xr T fa fd ps k A E X) {x y : Ex} {kw vw : Expr} {c : Comprehension} {cs : List Comprehension} {g : Gen} {own : List Nat} {scope : Scope} {pos pos' : Pos} {use : Option (Value → Sem Unit)} {Qf : Value → Shared → Prop} {pz : List (Addr × Obj)} {s : Shared} {sg : L2.St} {H : Hp} {Q : VK}
    (hb : blkC A.N A.sc scope (ownS A.N own) = true) (hg : OkG xr T fa fd ps k C A (A.blk scope) g (c :: cs)) (he : OkE xr T fa fd ps k C (A.blk scope) x kw) (hv : OkE xr T fa fd ps k C (A.blk scope) y vw) (I : Inv X pz sg H s) {QF : Sl → Hp → List Addr → Sto → Hp → Prop} (hq : ∀ (Fa : Hp) (ρa : List Addr) (sta : Sto) (Ha : Hp) (acc : List P) (F : Hp) (ρ : List Addr) (st : Sto) (H : Hp) (ho : HO) (D : Addr), Ha D = none → Rel X.K F ρ st H → Step sta.length Fa ρa sta Ha F ρ st H → Side F ρ st H D ho → AOd X.K F ho acc → Post X.K xr (E sg) Fa ρa sta Ha (.ok (.val (.dct (kvF acc))) st) QF → Q (.ref D) H) (h : tCm X xr E C g own (fDc C x y) (fun ps => .dct (kvF ps)) sg H QF)
    (hRR : ∀ D C s' m H', Inv X pz sg H' s' → Q (.ref D) H' → s'.heap.Ns C m → FpOk X pz H' C → compPost (model X.prog X.w) X.A X.xe use Qf (.ref D) C (.ok .next) s') :
    wpAny (model X.prog X.w) X.A (comprehension (.DictComp kw vw (c :: cs) scope pos) scope X.env pos' newDict false (eval c.iter X.env) use) Qf X.xe s := by
  refine cmp_gen o (AO := fun _ => AOd X.K) (f := fDc C x y) (fin := fun ps => .dct (kvF ps)) (ho0 := fun _ => .dK []) (ob := { cls := .type "dict", data := .dict #[] }) cmp_dict (fun _ => AOd_mono) (fun X' D hK _ o' hx => ?_) hb hg (fun _ F => ⟨[], rfl, .nil, Nat.le_refl _⟩) (fun {E Q s} h => ?_) (fun {pz sg H s} I => ?_) hq I h hRR
  · rw [← hK]
    exact em_dict hx (he _ X' o').1 (hv _ X' o').1
  · exact wpAny_newObj_type h
  · exact I.laid (t' := s.toks) (fun b o e => Heap.get?_push_of_some _ e) (Nat.le_refl _) (dk_empty s.heap I.big)
theorem dcm_core (o : XOk xr T fa fd ps k A E X) {x y : Ex} {kw vw : Expr} {c : Comprehension} {cs : List Comprehension} {g : Gen} {own : List Nat} {scope : Scope} {pos pos' : Pos} {use : Option (Value → Sem Unit)} {Qf : Value → Shared → Prop} {pz : List (Addr × Obj)} {s : Shared} {sg : L2.St} {H : Hp} {Q : VK}
    (hb : blkC A.N A.sc scope (ownS A.N own) = true) (hg : OkG xr T fa fd ps k C A (A.blk scope) g (c :: cs)) (he : OkE xr T fa fd ps k C (A.blk scope) x kw) (hv : OkE xr T fa fd ps k C (A.blk scope) y vw) (I : Inv X pz sg H s) (h : tE X xr E C (.dcm x y own g) sg H Q)
    (hRR : ∀ D C s' m H', Inv X pz sg H' s' → Q (.ref D) H' → s'.heap.Ns C m → FpOk X pz H' C → compPost (model X.prog X.w) X.A X.xe use Qf (.ref D) C (.ok .next) s') :
    wpAny (model X.prog X.w) X.A (comprehension (.DictComp kw vw (c :: cs) scope pos) scope X.env pos' newDict false (eval c.iter X.env) use) Qf X.xe s :=
  dcm_core0 o hb hg he hv I (cmp_data (fin := fun ps => .dct (kvF ps)) AOd_mono fun F ho acc D ⟨vs, e, r, _⟩ hD => by
    subst e
    exact .dct hD r) h hRR
theorem async_no {c : Comprehension} {cs : List Comprehension} (h : c.is_async = 0) : firstAsync (c :: cs) = false := by
  obtain ⟨a, b, d, e⟩ := c
  show (e != 0) = false
  rw [show e = 0 from h]
  rfl
theorem first_it {c : Comprehension} {cs : List Comprehension} {env : PySem.Env} : firstIter (c :: cs) env = eval c.iter env := by
  obtain ⟨a, b, d, e⟩ := c
  rfl
theorem snd_lcm (o : XOk xr T fa fd ps k A E X) {x : Ex} {elt : Expr} {c : Comprehension} {cs : List Comprehension} {g : Gen} {own : List Nat} {scope : Scope} {pos : Pos} (hz : c.is_async = 0)
    (hb : blkC A.N A.sc scope (ownS A.N own) = true) (hg : OkG xr T fa fd ps k C A (A.blk scope) g (c :: cs)) (he : OkE xr T fa fd ps k C (A.blk scope) x elt) : PE X (.ListComp elt (c :: cs) scope pos) (tE X xr E C (.lcm x own g)) := by
  refine ⟨fun pz s sg H Q I h => ?_⟩
  rw [eval_ListComp]
  have e1 := async_no (cs := cs) hz
  have e2 := first_it (c := c) (cs := cs) (env := X.env)
  rw [e1, e2]
  refine lcm_core (use := none) (Qf := EP X pz sg Q) o hb hg he I h fun D C s' m H' I' q hn f => ⟨m, hn, fun h'' sb => ?_⟩
  (obtain ⟨f0, f1, f2, f3, f4, f5⟩ := f)
  (exact ⟨.ref D, H', I'.turned (t' := s'.toks) (fun b o hb e => (sb.2 b hb).trans e) f0 f1 f3 f4 f5, rfl, q⟩)
theorem snd_dcm (o : XOk xr T fa fd ps k A E X) {x y : Ex} {kw vw : Expr} {c : Comprehension} {cs : List Comprehension} {g : Gen} {own : List Nat} {scope : Scope} {pos : Pos} (hz : c.is_async = 0)
    (hb : blkC A.N A.sc scope (ownS A.N own) = true) (hg : OkG xr T fa fd ps k C A (A.blk scope) g (c :: cs)) (he : OkE xr T fa fd ps k C (A.blk scope) x kw) (hv : OkE xr T fa fd ps k C (A.blk scope) y vw) : PE X (.DictComp kw vw (c :: cs) scope pos) (tE X xr E C (.dcm x y own g)) := by
  refine ⟨fun pz s sg H Q I h => ?_⟩
  have e1 := async_no (cs := cs) hz
  have e2 := first_it (c := c) (cs := cs) (env := X.env)
  show wpAny _ _ (comprehension (.DictComp kw vw (c :: cs) scope pos) scope X.env (firstIterPos (c :: cs) pos) newDict (firstAsync (c :: cs)) (firstIter (c :: cs) X.env)) _ _ _
  rw [e1, e2]
  refine dcm_core (use := none) (Qf := EP X pz sg Q) o hb hg he hv I h fun D C s' m H' I' q hn f => ⟨m, hn, fun h'' sb => ?_⟩
  (obtain ⟨f0, f1, f2, f3, f4, f5⟩ := f)
  (exact ⟨.ref D, H', I'.turned (t' := s'.toks) (fun b o hb e => (sb.2 b hb).trans e) f0 f1 f3 f4 f5, rfl, q⟩)
/-- name = [..], name = {..} on one line -/
def tAsgE (te : TE) (i : Nat) : TS := fun D sg H => te sg H fun x H1 => D.nx (sg.set i (some x)) H1
theorem ss_used {i : Nat} {y : Str} {py spos : Pos} {v : Expr} {te : TE} (o : XOk xr T fa fd ps k A E X) (hy : A.N[i]? = some y) (hyl : A.sc.names.lookup y = some .local) (hsw : swapsWith v (some (.Name y py)) spos.line X.env = pure true)
    (h : ∀ {pz : List (Addr × Obj)} {s : Shared} {sg : L2.St} {H : Hp} {Q : VK} {G : Shared → Prop}, Inv X pz sg H s → te sg H Q →
      (∀ D C s' m H', Inv X pz sg H' s' → Q (.ref D) H' → s'.heap.Ns C m → FpOk X pz H' C → compPost (model X.prog X.w) X.A X.xe (some (assign (.Name y py) X.env)) (fun _ s' => G s') (.ref D) C (.ok .next) s') →
      wpAny (model X.prog X.w) X.A (evalThenUse v X.env (assign (.Name y py) X.env)) (fun _ s' => G s') X.xe s) :
    PS X (.Assign [.Name y py] v spos) (tAsgE te i) := by
  refine ⟨fun pz s sg H D I hh => ?_⟩
  (rw [exec_Assign_Name_used _ _ _ _ hsw])
  (refine wpAny_bind (wpAny_standAt (wpAny_bind ?_)))
  have hyl' : X.env.scope.names.lookup y = some .local := by rw [o.sc]; exact hyl
  refine thn (h (G := fun s' => SP X pz D .next s') I hh fun L C s' m H' I' q hn f => ?_) fun _ s' hq => wpAny_pure hq
  (show wpAny _ _ (assign (.Name y py) X.env (.ref L)) _ _ _)
  refine wpAny_assign_Name (store_ok2 (v := V.ref L) I' (by rw [o.N]; exact o.nd) (by rw [o.N]; exact hy) (.inl hyl') rfl (fun s2 I2 ⟨a, sb, ha⟩ => ?_) (.inr hyl'))
  (obtain ⟨f0, f1, f2, f3, f4, f5⟩ := f)
  have haC : C ≠ a := by
    rcases ha with z | z
    · rw [z]; exact f1
    · (exact fun e => f4 y a z e.symm)
  (refine ⟨m, hn.sameBut sb haC, fun h3 sb3 => ?_⟩)
  (exact ⟨_, H', I2.turned (t' := s2.toks) (fun b o hb e => (sb3.2 b hb).trans e) f0 f1 f3 f4 f5, q⟩)
theorem swaps_comp {v : Expr} {scope : Scope} {py pos : Pos} {y : Str} {l : Nat} {env : PySem.Env} (hv : (∃ e g, v = .ListComp e g scope pos) ∨ ∃ a b g, v = .DictComp a b g scope pos) (hk : env.scope.kind = .function) (hy : env.scope.names.lookup y = some .local) (hl : (py.line == pos.line) = true)
    (ha : (scope.names.any fun (n, k) => n == y && (k == .local || k == .cell)) = false) : swapsWith v (some (.Name y py)) l env = pure true := by
  (have ky : env.kindOf y = some .local := hy)
  (have hb : env.blockKind = .function := by unfold Env.blockKind; rw [hk]; rfl)
  unfold swapsWith
  rcases hv with ⟨_, _, rfl⟩ | ⟨_, _, _, rfl⟩
  · simp only [hb, ky, ha, Expr.pos, hl]
    rfl
  · simp only [hb, ky, ha, Expr.pos, hl]
    rfl
theorem swaps_not {v : Expr} {scope : Scope} {py pos : Pos} {y : Str} {l : Nat} {env : PySem.Env} (hv : (∃ e g, v = .ListComp e g scope pos) ∨ ∃ a b g, v = .DictComp a b g scope pos) (hl : (py.line == pos.line) = false) : swapsWith v (some (.Name y py)) l env = pure false := by
  unfold swapsWith
  rcases hv with ⟨_, _, rfl⟩ | ⟨_, _, _, rfl⟩
  · simp only [Expr.pos, hl, Bool.and_false, Bool.false_and]
  · simp only [Expr.pos, hl, Bool.and_false, Bool.false_and]
theorem ss_lcm {i : Nat} {y : Str} {py spos : Pos} (o : XOk xr T fa fd ps k A E X) {x : Ex} {elt : Expr} {c : Comprehension} {cs : List Comprehension} {g : Gen} {own : List Nat} {scope : Scope} {pos : Pos} (hz : c.is_async = 0)
    (hb : blkC A.N A.sc scope (ownS A.N own) = true) (hg : OkG xr T fa fd ps k C A (A.blk scope) g (c :: cs)) (he : OkE xr T fa fd ps k C (A.blk scope) x elt) (hy : A.N[i]? = some y) (hyl : A.sc.names.lookup y = some .local) (hk : A.sc.kind = .function) (hl : (py.line == pos.line) = true)
    (ha : (scope.names.any fun (n, k) => n == y && (k == .local || k == .cell)) = false) : PS X (.Assign [.Name y py] (.ListComp elt (c :: cs) scope pos) spos) (tAsgE (tE X xr E C (.lcm x own g)) i) := by
  refine ss_used o hy hyl (swaps_comp (.inl ⟨_, _, rfl⟩) (by rw [o.sc]; exact hk) (by rw [o.sc]; exact hyl) hl ha) fun {pz s sg H Q G} I h hRR => ?_
  show wpAny _ X.A (do let _ ← comprehension (.ListComp elt (c :: cs) scope pos) scope X.env (firstIterPos (c :: cs) pos) (newList []) (firstAsync (c :: cs)) (firstIter (c :: cs) X.env) (some (assign (.Name y py) X.env))) _ _ _
  rw [async_no hz, first_it]
  exact wpAny_bind (thn (lcm_core o hb hg he I h hRR) fun v s' hq => wpAny_pure hq)
theorem ss_dcm {i : Nat} {y : Str} {py spos : Pos} (o : XOk xr T fa fd ps k A E X) {x1 x2 : Ex} {kw vw : Expr} {c : Comprehension} {cs : List Comprehension} {g : Gen} {own : List Nat} {scope : Scope} {pos : Pos} (hz : c.is_async = 0)
    (hb : blkC A.N A.sc scope (ownS A.N own) = true) (hg : OkG xr T fa fd ps k C A (A.blk scope) g (c :: cs)) (he : OkE xr T fa fd ps k C (A.blk scope) x1 kw) (hv : OkE xr T fa fd ps k C (A.blk scope) x2 vw) (hy : A.N[i]? = some y) (hyl : A.sc.names.lookup y = some .local) (hk : A.sc.kind = .function) (hl : (py.line == pos.line) = true)
    (ha : (scope.names.any fun (n, k) => n == y && (k == .local || k == .cell)) = false) : PS X (.Assign [.Name y py] (.DictComp kw vw (c :: cs) scope pos) spos) (tAsgE (tE X xr E C (.dcm x1 x2 own g)) i) := by
  refine ss_used o hy hyl (swaps_comp (.inr ⟨_, _, _, rfl⟩) (by rw [o.sc]; exact hk) (by rw [o.sc]; exact hyl) hl ha) fun {pz s sg H Q G} I h hRR => ?_
  show wpAny _ X.A (do let _ ← comprehension (.DictComp kw vw (c :: cs) scope pos) scope X.env (firstIterPos (c :: cs) pos) newDict (firstAsync (c :: cs)) (firstIter (c :: cs) X.env) (some (assign (.Name y py) X.env))) _ _ _
  rw [async_no hz, first_it]
  exact wpAny_bind (thn (dcm_core o hb hg he hv I h hRR) fun v s' hq => wpAny_pure hq)
end
end Fy

/-! Fy21: sets of ints and texts: what stands in them, put in, walked, counted, sorted. -/
namespace Fy
open PySem
open PySem.Spec
open PyProof.Rows
open L2

def keyV : Value → Key
  | .int i _ => .inl i
  | .str x _ => .inr x
  | _ => .inl 0
theorem keyV_of {k : Key} {v : Value} (h : keyIs k v = true) : keyV v = k := by
  (rcases keyIs_shape h with ⟨i, t, rfl, rfl⟩ | ⟨x, t, rfl, rfl⟩ <;> rfl)
theorem key_scans {k : Key} {v : Value} (h : keyIs k v = true) : v.scannable = true := by
  (rcases keyIs_shape h with ⟨i, t, rfl, rfl⟩ | ⟨x, t, rfl, rfl⟩ <;> rfl)
/-- an entry that is a key, with its hash -/
def KeyE (w : World) (e : Int × Value) : Prop := ∃ k, keyIs k e.2 = true ∧ e.1 = keyH w k
/-- the set at a, of the keys L -/
def SetW (w : World) (h : Heap) (a : Addr) (L : List Key) : Prop :=
  ∃ o es ep t, h.get? a = some o ∧ o.ExactSet ∧ o.data = .set es ep t ∧ (∀ e ∈ es.toList, KeyE w e) ∧ (es.toList.map fun e => keyV e.2).Perm L ∧ L.Nodup ∧ es.size < scanBound ∧ t.fits es.size = true ∧ Ris t.place.toList ∧
    (w.params.followText "set-order" = true ∨ t.led = true)
def SetWO (w : World) (a : Addr) (L : List Key) : HO := .ext fun h => SetW w h a L
section
variable {P : Program} {w : World} {A : Around} {E : Value → Shared → Prop} {s : Shared} {a : Addr} {L : List Key}
theorem SetW.keep {h h' : Heap} (R : SetW w h a L) (k : ∀ o, h.get? a = some o → h'.get? a = some o) : SetW w h' a L := by
  obtain ⟨o, es, ep, t, e, r⟩ := R
  exact ⟨o, es, ep, t, k o e, r⟩
theorem setw_new {H : Hp} {h : Heap} (R : SetW w h a L) : ObjOk P w H h a (SetWO w a L) := by
  have ⟨o, _, _, _, e, _⟩ := R
  exact ⟨R, ⟨o, e⟩, fun h1 h2 p k => SetW.keep p k⟩
theorem setw_at {X : Cx} {pz : List (Addr × Obj)} {sg : L2.St} {H : Hp} (I : Inv X pz sg H s) (h : H a = some (SetWO X.w a L)) : SetW X.w s.heap a L := (I.hok a _ h).1
theorem key_elems {l : List (Int × Value)} (g : ∀ e ∈ l, KeyE w e) : ElemsOf (mixKind P w) l := fun e he => by
  obtain ⟨k, h1, h2⟩ := g e he
  exact ⟨⟨k, h1, h2⟩, key_scans h1⟩
theorem key_in {l : List (Int × Value)} (g : ∀ e ∈ l, KeyE w e) (k : Key) : k ∈ l.map (fun e => keyV e.2) ↔ ∃ e ∈ l, keyIs k e.2 = true := by
  rw [List.mem_map]
  refine ⟨fun ⟨e, he, q⟩ => ⟨e, he, ?_⟩, fun ⟨e, he, q⟩ => ⟨e, he, keyV_of q⟩⟩
  obtain ⟨k', h1, _⟩ := g e he
  rw [keyV_of h1] at q
  rw [← q]
  exact h1
/-- what follows once the new entry has its place -/
theorem setw_lay {g : Bool → Sem Unit} (hg : ∀ (b : Bool) (s₁ : Shared) (Q' : Unit → Shared → Prop), Q' () s₁ → wpAny (model P w) A (g b) Q' E s₁)
    {o : Obj} {es ez1 : Array (Int × Value)} {ep : Nat} {t t2 : SetTable} (ho : s.heap.get? a = some o) (hex : o.ExactSet) (hd : o.data = .set es ep t) {L' : List Key} (g1 : ∀ e ∈ ez1.toList, KeyE w e)
    (p1 : (ez1.toList.map fun e => keyV e.2).Perm L') (nd : L'.Nodup) (small : ez1.size < scanBound) (fit : t2.fits ez1.size = true) (ris : Ris t2.place.toList) (led : w.params.followText "set-order" = true ∨ t2.led = true) {gave : Bool} {R : Option Bool → Shared → Prop}
    (hR : ∀ h', Heap.SameBut a s.heap h' → SetW w h' a L' → R (some true) { s with heap := h' }) :
    wpAny (model P w) A (do
        storeSet a ez1 t2
        if (!gave && t2.tooFull) = true then do
            g (relayAll t2 ez1 (SetTable.grown ez1.size)).2.2
            storeSet a (relayAll t2 ez1 (SetTable.grown ez1.size)).1 (relayAll t2 ez1 (SetTable.grown ez1.size)).2.1
            pure (some true)
          else (pure (some true))) R E s := by
  refine wpAny_bind (wpAny_storeSet_of ho hd ?_ (fits_of_scanBound small))
  have at1 := store_at (es' := ez1) (t' := t2) ho hd
  have but1 := Heap.SameBut.update s.heap a (Obj.putSet ez1 t2)
  split
  · have q1 := relayAll_perm t2 ez1 (SetTable.grown ez1.size)
    have q2 := relayAll_fits t2 ez1 (SetTable.grown ez1.size)
    have q3 := relayAll_ris t2 ez1 (SetTable.grown ez1.size)
    have q4 := relayAll_led t2 ez1 (SetTable.grown ez1.size)
    generalize relayAll t2 ez1 (SetTable.grown ez1.size) = Z at q1 q2 q3 q4 ⊢
    obtain ⟨es2, t3, gave2⟩ := Z
    dsimp only at q1 q2 q3 q4 ⊢
    have same : es2.size = ez1.size := by
      rw [← Array.length_toList, q1.length_eq, Array.length_toList]
    have small2 : es2.size < scanBound := by
      rw [same]
      exact small
    (refine wpAny_bind (hg _ _ _ ?_))
    refine wpAny_bind (wpAny_storeSet_of at1 rfl ?_ (fits_of_scanBound small2))
    have at2 := store_at (es' := es2) (t' := t3) at1 rfl
    refine wpAny_pure (hR _ (but1.trans (Heap.SameBut.update _ a _)) ⟨_, es2, _, t3, at2, hex, rfl, fun e he => g1 e (q1.mem_iff.mp he), (q1.map _).trans p1, nd, small2, q2, q3, ?_⟩)
    exact led.imp id fun z => by
      rw [q4]
      exact z
  · exact wpAny_pure (hR _ but1 ⟨_, ez1, _, t2, at1, hex, rfl, g1, p1, nd, small, fit, ris, led⟩)
def putKey (L : List Key) (k : Key) : List Key := if (L.any fun j => decide (j = k)) = true then L else L ++ [k]
theorem putKey_in {L : List Key} {k : Key} (h : k ∈ L) : putKey L k = L := if_pos (by rw [List.any_eq_true]; exact ⟨k, h, decide_eq_true rfl⟩)
theorem putKey_out {L : List Key} {k : Key} (h : k ∉ L) : putKey L k = L ++ [k] := if_neg (by
  rw [List.any_eq_true]
  rintro ⟨j, hj, e⟩
  exact h (of_decide_eq_true e ▸ hj))
theorem setw_put {k : Key} {x : Value} {Q : Bool → Shared → Prop} (hx : keyIs k x = true) (R : SetW w s.heap a L) (room : L.length + 1 < scanBound)
    (hQ : ∀ h' b, Heap.SameBut a s.heap h' → SetW w h' a (putKey L k) → Q b { s with heap := h' }) : wpAny (model P w) A (setAddHashed a x (keyH w k)) Q E s := by
  obtain ⟨o, es, ep, t, ho, hex, hd, g, pm, nd, small, fit, ris, led⟩ := R
  have hsc := key_scans hx
  have el : ElemsOf (mixKind P w) es.toList := key_elems g
  have n0 : es.size = L.length := by
    rw [← pm.length_eq, List.length_map, Array.length_toList]
  (unfold setAddHashed setAddHashedIn)
  refine wpAny_holding (wpAny_bind (wpAny_setState_of ho hd fit ?_))
  dsimp only
  rw [byScan_of hsc small el]
  simp only [↓reduceIte]
  unfold setAddByScan
  refine wpAny_bind ?_
  (refine wpAny_bind (wpAny_rule ?_))
  refine wpAny_bind (wpAny_setScan_of (knd := mixKind P w) hx ho hd fit el ?_)
  cases fi : List.findIdx? (fun e => (mixKind P w).is k e.2) es.toList with
  | some j =>
    dsimp only
    obtain ⟨hj, pj, _⟩ := List.findIdx?_eq_some_iff_getElem.mp fi
    have hm : k ∈ L := pm.mem_iff.mp ((key_in g k).2 ⟨es.toList[j], List.getElem_mem hj, pj⟩)
    have e1 : putKey L k = L := putKey_in hm
    refine wpAny_pure (wpAny_pure (hQ s.heap _ (Heap.SameBut.refl a s.heap) ?_))
    rw [e1]
    exact ⟨o, es, ep, t, ho, hex, hd, g, pm, nd, small, fit, ris, led⟩
  | none =>
    dsimp only
    have hm : k ∉ L := fun z => by
      obtain ⟨e, he, q⟩ := (key_in g k).1 (pm.mem_iff.mpr z)
      have c := List.findIdx?_eq_none_iff.mp fi e he
      rw [show (mixKind P w).is k e.2 = true from q] at c
      cases c
    have e1 : putKey L k = L ++ [k] := putKey_out hm
    have gw : ∀ (b : Bool) {s₁ : Shared} {Q' : Unit → Shared → Prop}, Q' () s₁ → wpAny (model P w) A (match b with | true => rule "set.scan.the-table-gave-way" | false => pure ()) Q' E s₁ :=
      fun b s₁ Q' q => by
        cases b
        · exact wpAny_pure q
        · exact wpAny_rule q
    have q1 := layNew_perm t es ((mixKind P w).hash k) x
    have q2 := layNew_fits t es ((mixKind P w).hash k) x
    have q3 := layNew_ris t es ((mixKind P w).hash k) x ris
    have q4 := layNew_led t es ((mixKind P w).hash k) x
    show wpAny _ _ _ _ _ _
    have hh : keyH w k = (mixKind P w).hash k := rfl
    rw [hh]
    generalize layNew t es ((mixKind P w).hash k) x = Z at q1 q2 q3 q4 ⊢
    obtain ⟨ez1, t1, gave, gave'⟩ := Z
    dsimp only at q1 q2 q3 q4 ⊢
    rw [Array.toList_push] at q1
    have pk : (ez1.toList.map fun e => keyV e.2).Perm (L ++ [k]) := by
      have z := q1.map fun e => keyV e.2
      rw [List.map_append, List.map_singleton, show keyV x = k from keyV_of hx] at z
      exact z.trans (pm.append_right _)
    have g1 : ∀ e ∈ ez1.toList, KeyE w e := fun e he => by
      rcases List.mem_append.mp (q1.mem_iff.mp he) with z | z
      · exact g e z
      · (rw [List.mem_singleton.mp z])
        exact ⟨k, hx, rfl⟩
    have nd1 : (L ++ [k]).Nodup := List.nodup_append.mpr ⟨nd, (by simp), fun u hu v hv e => by
      rw [List.mem_singleton.mp hv] at e
      exact hm (e ▸ hu)⟩
    have n1 : ez1.size = L.length + 1 := by
      rw [← Array.length_toList, q1.length_eq, List.length_append, Array.length_toList, n0]
      rfl
    have small1 : ez1.size < scanBound := by
      rw [n1]
      exact room
    have led1 : w.params.followText "set-order" = true ∨ t1.led = true := led.imp id fun z => by
      rw [q4]
      exact z
    have fin : ∀ h', Heap.SameBut a s.heap h' → SetW w h' a (L ++ [k]) → Q true { s with heap := h' } := fun h' b r => hQ h' true b (by rw [e1]; exact r)
    refine wpAny_bind (gw _ ?_)
    split
    · refine wpAny_bind ?_
      (rw [hashByValue_scannable 8 hsc])
      refine wpAny_pure ?_
      refine setw_lay ?_ ho hex hd g1 pk nd1 small1 ?_ ?_ ?_ ?_
      · intro b s₁ Q' q
        cases b
        · exact wpAny_pure q
        · exact wpAny_rule q
      · first
          | (split <;> first | exact q2 | exact SetTable.fits_plain_off q2)
          | exact q2
      · first
          | (split <;> exact q3)
          | exact q3
      · first
          | (split <;> exact led1)
          | exact led1
      · intro h' b r
        exact wpAny_pure (fin h' b r)
    · (refine wpAny_bind (wpAny_pure ?_))
      simp only [↓reduceIte]
      refine setw_lay ?_ ho hex hd g1 pk nd1 small1 q2 q3 led1 ?_
      · intro b s₁ Q' q
        cases b
        · exact wpAny_pure q
        · exact wpAny_rule q
      · intro h' b r
        exact wpAny_pure (fin h' b r)
end
end Fy

/-! Fy22: set(..) of a list, of a tuple; a set's members in a list, sorted, counted. -/
namespace Fy
open PySem
open PySem.Spec
open PyProof.Rows
open L2

def putAll (ks : List Key) : List Key := ks.foldl putKey []
theorem putKey_len (L : List Key) (k : Key) : (putKey L k).length ≤ L.length + 1 := by
  unfold putKey
  split
  · exact Nat.le_succ _
  · rw [List.length_append]
    exact Nat.le_refl _
theorem fold_len : ∀ (ks L : List Key), (ks.foldl putKey L).length ≤ L.length + ks.length
  | [], L => Nat.le_refl _
  | k :: ks, L => by
    have h1 := fold_len ks (putKey L k)
    have h2 := putKey_len L k
    (rw [List.foldl_cons, List.length_cons])
    omega
theorem putAll_take {ks : List Key} {i : Nat} {k : Key} (h : ks[i]? = some k) : putAll (ks.take (i + 1)) = putKey (putAll (ks.take i)) k := by
  unfold putAll
  (rw [List.take_add_one, h, List.foldl_append])
  rfl
theorem putAll_len (ks : List Key) (i : Nat) : (putAll (ks.take i)).length ≤ i := by
  have h := fold_len (ks.take i) []
  have e : (ks.take i).length ≤ i := List.length_take_le ..
  simp only [List.length_nil, Nat.zero_add] at h
  exact Nat.le_trans h e
section
variable {P : Program}
variable {w : World}
variable {A : Around}
variable {E : Value → Shared → Prop}
variable {s : Shared}
abbrev newS (w : World) : Obj := { cls := .type "set", dict := none, data := .set #[] 0 (.fresh 0 0 (!w.params.followText "set-order")) }
theorem setw_fresh {h : Heap} {a : Addr} (e : h.get? a = some { cls := .type "set", dict := none, data := .set #[] 0 (.fresh 0 0 (!w.params.followText "set-order")) }) : SetW w h a [] := by
  refine ⟨_, #[], 0, _, e, ⟨rfl, rfl, rfl⟩, rfl, fun e he => by simp at he, List.Perm.nil, List.nodup_nil, by decide, rfl, List.Pairwise.nil, ?_⟩
  (show _ ∨ (!w.params.followText "set-order") = true)
  (cases w.params.followText "set-order")
  · exact .inr rfl
  · exact .inl rfl
/-- the loop of set's update -/
theorem upd_keys {I : Addr} {fp wr : List Addr} {G : Array GenState → Array GenState → Prop} {n : Nat} {Pv : Nat → Value → Prop} {St : Nat → Shared → Prop} {R : Result → Shared → Prop}
    (W : WalksS P w A.in1 I fp wr G n Pv St) (S : Addr) (hS : S ∉ fp) (ks : List Key) (hn : n = ks.length) (few : ks.length + 1 < scanBound) (hv : ∀ i v, Pv i v → ∃ k, ks[i]? = some k ∧ keyIs k v = true) :
    ∀ (d i : Nat) (s : Shared), n - i = d → i ≤ n → St i s → SetW w s.heap S (putAll (ks.take i)) → (∀ s', Moved (S :: wr) G s s' → SetW w s'.heap S (putAll ks) → R (.ok (.ret .none)) s') → codeAny (model P w) A (.builtin "set.update.loop" ⟨[.ref S, .ref I], []⟩) R s := by
  have nw : S ∉ wr := fun h => hS (W.sub _ h)
  have up : ∀ b ∈ wr, b ∈ S :: wr := fun b hb => List.mem_cons_of_mem _ hb
  intro d
  induction d with
  | zero =>
    intro i s hd hi st R0 hR
    have e : i = n := by omega
    subst e
    (refine codeAny_builtin F.entry_set_update_loop ?_)
    (rw [Around.under_plainId F.plain_set_update_loop _])
    (show wpAny _ A.in1 (pyNext (.ref I) >>= _) _ _ s)
    refine wpAny_bind (W.done s _ _ st fun s' hm => ?_)
    show wpAny _ A.in1 (PySem.ret Value.none) _ _ s'
    refine wpAny_pure (hR s' (hm.mono up) ?_)
    rw [hn, List.take_of_length_le (Nat.le_refl _)] at R0
    exact R0.keep fun o e => hm.heap S o nw e
  | succ d ih =>
    intro i s hd hi st R0 hR
    have lt : i < n := by omega
    (refine codeAny_builtin F.entry_set_update_loop ?_)
    (rw [Around.under_plainId F.plain_set_update_loop _])
    (show wpAny _ A.in1 (pyNext (.ref I) >>= _) _ _ s)
    refine wpAny_bind (W.item i s _ _ lt st fun v s' hP st' hm => ?_)
    obtain ⟨k, hk, hkv⟩ := hv i v hP
    have R1 : SetW w s'.heap S (putAll (ks.take i)) := R0.keep fun o e => hm.heap S o nw e
    show wpAny _ A.in1 (holding [v] (setAdd S v) >>= _) _ _ s'
    (refine wpAny_bind (wpAny_holding ?_))
    unfold setAdd
    refine wpAny_holding ?_
    refine wpAny_bind ((mixKind P w).pyHash (k := k) hkv ?_)
    have room : (putAll (ks.take i)).length + 1 < scanBound := by
      have := putAll_len ks i
      omega
    refine setw_put (s := { s' with toks := s'.toks + 1 }) hkv R1 room fun h' b but R2 => ?_
    rw [← putAll_take hk] at R2
    refine wpAny_pure ⟨plainId_quiet F.plain_set_update_loop _, ih (i + 1) _ (by omega) lt (W.frame _ s' _ _ st' (Nat.le_succ _) fun b hb o e => ?_) R2 fun s'' hm'' R3 => ?_⟩
    · rw [but.2 b (fun h : b = S => hS (by rw [← h]; exact hb))]
      exact e
    · refine hR s'' (Moved.trans W.gtrans ((hm.mono up).then_heap (Nat.le_succ _) fun b o hb e => ?_) hm'') R3
      rw [but.2 b (fun h : b = S => hb (by rw [h]; exact List.mem_cons_self))]
      exact e
set_option maxHeartbeats 3300000 in
/-- set(xs), xs a list of keys -/
theorem call_set_list {l : Addr} {items : Array Value} (ks : List Key) {Q : Value → Shared → Prop} (calm : A.handled = none) (hl : s.heap.IsList l items) (hks : ∀ (i : Nat) (v : Value), items[i]? = some v → ∃ k, ks[i]? = some k ∧ keyIs k v = true) (hn : items.size = ks.length) (few : ks.length + 1 < scanBound)
    (h : ∀ (h' : Heap) (tk : Nat), SetW w h' s.heap.objs.size (putAll ks) → (∀ b o, s.heap.get? b = some o → h'.get? b = some o) → Q (.ref s.heap.objs.size) { s with heap := h', toks := tk }) : wpAny (model P w) A (call (.type "set") [.ref l]) Q E s := by
  obtain ⟨c, tl, mro⟩ := F.called_set.mro
  have made := F.called_set.made
  have subs := F.called_set.sub
  (refine wpAny_call (codeAny_of_tree ?_))
  (show wpAny _ _ (callAny (.type "set") _) _ _ _)
  (refine wpAny_pure ⟨Code.quiet_builtin _ (by decide +kernel), codeAny_builtin F.entry_type_call ?_⟩)
  (rw [Around.under_plain (weight_type_call_type "set" [.ref l] []) rfl])
  have noT := F.called_set.notType
  have can := F.called_set.canCreate
  have chk := F.typeCall_set_1 (.ref l)
  (repeat (any_goals (first | assumption | wp_step)))
  refine codeAny_mono (code_set_led1 (.ref l) (E := E) (Q₁ := fun v s₁ => v = .ref s.heap.objs.size ∧ s₁ = { s with heap := s.heap.push (newS w) }) ⟨rfl, rfl⟩) fun r s₁ hr => ?_
  cases r with
  | error e => exact hr
  | ok fl =>
    cases fl with
    | ret v =>
      obtain ⟨rfl, rfl⟩ := hr
      have atS : (s.heap.push (newS w)).get? s.heap.objs.size = some (newS w) := Heap.get?_push_size _ rfl
      have tyS : Shared.TypeIs { s with heap := s.heap.push (newS w) } (.ref s.heap.objs.size) "set" := ⟨_, atS, rfl⟩
      have look := F.called_set.init.lookup
      have bind := F.called_set.init.bind (.ref s.heap.objs.size)
      (repeat (any_goals (first | assumption | wp_step)))
      refine codeAny_mono (codeAny_call_builtin (R := wants (fun r s₂ => r = .none ∧ ∃ h' tk, s₂ = { s with heap := h', toks := tk } ∧ SetW w h' s.heap.objs.size (putAll ks) ∧ (∀ b o, s.heap.get? b = some o → h'.get? b = some o)) E) F.called_set.init.plain F.entry_set_init (check_set_init_1 tyS ?_)) fun r₂ s₂ hr₂ => ?_
      · (obtain ⟨ol, hol, hcl, nl, hdl⟩ := hl)
        (obtain ⟨ocls, odict, odata, oslots⟩ := ol)
        simp only at hcl hdl
        subst hcl
        subst hdl
        have hol' : (s.heap.push (newS w)).get? l = some { cls := .type "list", dict := odict, data := .seq items nl, slots := oslots } := Heap.get?_push_of_some _ hol
        have ns1 := F.sub_list_set
        have ns2 := F.sub_list_frozenset
        have nd : (Value.type "list" == Value.type "dict") = false := by decide
        have isl : (s.heap.push (newS w)).IsList l items := ⟨_, hol', rfl, nl, rfl⟩
        (unfold Builtin.«set.__init__» noKeywords Builtin.Frozenset.updateFrom)
        generalize hPI : pyIter = PI
        wp_walk
        subst hPI
        refine wpAny_pyIter_list (s := { s with heap := s.heap.push (newS w) }) isl ?_
        (refine wpAny_bind (wpAny_runValue ?_))
        have ll : l < s.heap.objs.size := Heap.lt_size hol
        have calm3 : A.in1.in1.in1.handled = none := by simp [calm]
        have z1 : (s.heap.push (newS w)).objs.size = s.heap.objs.size + 1 := Heap.size_push ..
        have ne : l ≠ (s.heap.push (newS w)).objs.size := by
          rw [z1]
          exact Nat.ne_of_lt (Nat.lt_succ_of_lt ll)
        have off : s.heap.objs.size ∉ [(s.heap.push (newS w)).objs.size, l] := by
          rw [z1]
          simp only [List.mem_cons, List.mem_singleton, List.not_mem_nil, or_false, not_or]
          exact ⟨Nat.ne_of_lt (Nat.lt_succ_self _), Nat.ne_of_gt ll⟩
        refine upd_keys (w := w) ((Walks.list calm3 _ l ne items).toS) s.heap.objs.size off ks hn few hks (items.size - 0) 0 _ (by omega) (Nat.zero_le _) ⟨⟨_, Heap.get?_push_size _ rfl, rfl, rfl⟩, (isl.push _)⟩ ?start ?stop
        case start => exact setw_fresh (Heap.get?_push_of_some _ atS)
        case stop =>
          intro s' hm R'
          (obtain ⟨h', g2, d', tk', os'⟩ := s')
          obtain rfl : g2 = s.gens := hm.gens
          obtain rfl : d' = s.drawn := hm.drawn
          obtain rfl : os' = s.os := hm.os
          show wpAny _ _ _ _ _ _
          refine wpAny_pure ?_
          show wpAny _ _ (PySem.ret Value.none) _ _ _
          refine wpAny_pure ⟨rfl, h', tk', rfl, R', fun b o e => ?_⟩
          have hb := Heap.lt_size e
          refine hm.heap b o ?_ (Heap.get?_push_of_some _ (Heap.get?_push_of_some _ e))
          rw [z1]
          simp only [List.mem_cons, List.mem_singleton, List.not_mem_nil, or_false, not_or]
          exact ⟨Nat.ne_of_lt hb, Nat.ne_of_lt (Nat.lt_succ_of_lt hb)⟩
      · cases r₂ with
        | error e => exact hr₂
        | ok fl₂ =>
          cases fl₂ with
          | ret r =>
            obtain ⟨rfl, h', tk, rfl, R', hk'⟩ := hr₂
            (repeat (any_goals (first | assumption | wp_step)))
            exact h _ _ R' hk'
          | _ => exact hr₂.elim
    | _ => exact hr.elim
set_option maxHeartbeats 3300000 in
/-- set(xs), xs a tuple of keys -/
theorem call_set_tuple {l : Addr} {items : Array Value} (ks : List Key) {Q : Value → Shared → Prop} (calm : A.handled = none) (hl : s.heap.IsTuple l items) (hks : ∀ (i : Nat) (v : Value), items[i]? = some v → ∃ k, ks[i]? = some k ∧ keyIs k v = true) (hn : items.size = ks.length) (few : ks.length + 1 < scanBound)
    (h : ∀ (h' : Heap) (tk : Nat), SetW w h' s.heap.objs.size (putAll ks) → (∀ b o, s.heap.get? b = some o → h'.get? b = some o) → Q (.ref s.heap.objs.size) { s with heap := h', toks := tk }) : wpAny (model P w) A (call (.type "set") [.ref l]) Q E s := by
  obtain ⟨c, tl, mro⟩ := F.called_set.mro
  have made := F.called_set.made
  have subs := F.called_set.sub
  (refine wpAny_call (codeAny_of_tree ?_))
  (show wpAny _ _ (callAny (.type "set") _) _ _ _)
  (refine wpAny_pure ⟨Code.quiet_builtin _ (by decide +kernel), codeAny_builtin F.entry_type_call ?_⟩)
  (rw [Around.under_plain (weight_type_call_type "set" [.ref l] []) rfl])
  have noT := F.called_set.notType
  have can := F.called_set.canCreate
  have chk := F.typeCall_set_1 (.ref l)
  (repeat (any_goals (first | assumption | wp_step)))
  refine codeAny_mono (code_set_led1 (.ref l) (E := E) (Q₁ := fun v s₁ => v = .ref s.heap.objs.size ∧ s₁ = { s with heap := s.heap.push (newS w) }) ⟨rfl, rfl⟩) fun r s₁ hr => ?_
  cases r with
  | error e => exact hr
  | ok fl =>
    cases fl with
    | ret v =>
      obtain ⟨rfl, rfl⟩ := hr
      have atS : (s.heap.push (newS w)).get? s.heap.objs.size = some (newS w) := Heap.get?_push_size _ rfl
      have tyS : Shared.TypeIs { s with heap := s.heap.push (newS w) } (.ref s.heap.objs.size) "set" := ⟨_, atS, rfl⟩
      have look := F.called_set.init.lookup
      have bind := F.called_set.init.bind (.ref s.heap.objs.size)
      (repeat (any_goals (first | assumption | wp_step)))
      refine codeAny_mono (codeAny_call_builtin (R := wants (fun r s₂ => r = .none ∧ ∃ h' tk, s₂ = { s with heap := h', toks := tk } ∧ SetW w h' s.heap.objs.size (putAll ks) ∧ (∀ b o, s.heap.get? b = some o → h'.get? b = some o)) E) F.called_set.init.plain F.entry_set_init (check_set_init_1 tyS ?_)) fun r₂ s₂ hr₂ => ?_
      · (obtain ⟨ol, hol, hcl, nl, hdl⟩ := hl)
        (obtain ⟨ocls, odict, odata, oslots⟩ := ol)
        simp only at hcl hdl
        subst hcl
        subst hdl
        have hol' : (s.heap.push (newS w)).get? l = some { cls := .type "tuple", dict := odict, data := .seq items nl, slots := oslots } := Heap.get?_push_of_some _ hol
        have ns1 := F.sub_tuple_set
        have ns2 := F.sub_tuple_frozenset
        have nd : (Value.type "tuple" == Value.type "dict") = false := by decide
        have isl : (s.heap.push (newS w)).IsTuple l items := ⟨_, hol', rfl, nl, rfl⟩
        (unfold Builtin.«set.__init__» noKeywords Builtin.Frozenset.updateFrom)
        generalize hPI : pyIter = PI
        wp_walk
        subst hPI
        refine wpAny_pyIter_tuple (s := { s with heap := s.heap.push (newS w) }) isl ?_
        (refine wpAny_bind (wpAny_runValue ?_))
        have ll : l < s.heap.objs.size := Heap.lt_size hol
        have calm3 : A.in1.in1.in1.handled = none := by simp [calm]
        have z1 : (s.heap.push (newS w)).objs.size = s.heap.objs.size + 1 := Heap.size_push ..
        have ne : l ≠ (s.heap.push (newS w)).objs.size := by
          rw [z1]
          exact Nat.ne_of_lt (Nat.lt_succ_of_lt ll)
        have off : s.heap.objs.size ∉ [(s.heap.push (newS w)).objs.size, l] := by
          rw [z1]
          simp only [List.mem_cons, List.mem_singleton, List.not_mem_nil, or_false, not_or]
          exact ⟨Nat.ne_of_lt (Nat.lt_succ_self _), Nat.ne_of_gt ll⟩
        refine upd_keys (w := w) ((Walks.tuple calm3 _ l ne items).toS) s.heap.objs.size off ks hn few hks (items.size - 0) 0 _ (by omega) (Nat.zero_le _) ⟨⟨_, Heap.get?_push_size _ rfl, rfl, rfl⟩, (isl.push _)⟩ ?start ?stop
        case start => exact setw_fresh (Heap.get?_push_of_some _ atS)
        case stop =>
          intro s' hm R'
          (obtain ⟨h', g2, d', tk', os'⟩ := s')
          obtain rfl : g2 = s.gens := hm.gens
          obtain rfl : d' = s.drawn := hm.drawn
          obtain rfl : os' = s.os := hm.os
          show wpAny _ _ _ _ _ _
          refine wpAny_pure ?_
          show wpAny _ _ (PySem.ret Value.none) _ _ _
          refine wpAny_pure ⟨rfl, h', tk', rfl, R', fun b o e => ?_⟩
          have hb := Heap.lt_size e
          refine hm.heap b o ?_ (Heap.get?_push_of_some _ (Heap.get?_push_of_some _ e))
          rw [z1]
          simp only [List.mem_cons, List.mem_singleton, List.not_mem_nil, or_false, not_or]
          exact ⟨Nat.ne_of_lt hb, Nat.ne_of_lt (Nat.lt_succ_of_lt hb)⟩
      · cases r₂ with
        | error e => exact hr₂
        | ok fl₂ =>
          cases fl₂ with
          | ret r =>
            obtain ⟨rfl, h', tk, rfl, R', hk'⟩ := hr₂
            (repeat (any_goals (first | assumption | wp_step)))
            exact h _ _ R' hk'
          | _ => exact hr₂.elim
    | _ => exact hr.elim
end
end Fy

/-! Fy23: sorted(set(..)), len(set(..)), sorted({..}). -/
namespace Fy
open PySem
open PySem.Spec
open PyProof.Rows
open L2

/-! ### keys and data -/
theorem keys_of : ∀ {xs : List P}, xs.all keyOk = true → ∃ ks : List Key, xs = ks.map keyP
  | [], _ => ⟨[], rfl⟩
  | x :: xs, h => by
    (rw [List.all_cons, Bool.and_eq_true] at h)
    obtain ⟨k, rfl⟩ := keyOk_inv h.1
    obtain ⟨ks, rfl⟩ := keys_of h.2
    exact ⟨k :: ks, rfl⟩
theorem putKey_map (L : List Key) (k : Key) : (putKey L k).map keyP = addU (L.map keyP) (keyP k) := by
  unfold putKey addU
  have e : ((L.map keyP).any fun y => y.eqv (keyP k)) = L.any fun j => decide (j = k) := by
    rw [List.any_map]
    congr 1
    funext j
    exact eqv_key j k
  rw [e]
  split
  · rfl
  · rw [List.map_append]
    rfl
theorem putAll_map (ks : List Key) : (putAll ks).map keyP = uniq (ks.map keyP) := by
  have go : ∀ (ks L : List Key), (ks.foldl putKey L).map keyP = (ks.map keyP).foldl addU (L.map keyP) := by
    intro ks
    induction ks with
    | nil => exact fun L => rfl
    | cons k ks ih =>
      intro L
      rw [List.foldl_cons, ih, putKey_map]
      rfl
  exact go ks []
theorem Reps.keys {K : PySem.W.Frag} {F : Hp} : ∀ {vs : List V} {ks : List Key}, Reps K F vs (ks.map keyP) → vs = ks.map kV
  | [], [], _ => rfl
  | [], _ :: _, h => by cases h
  | _ :: _, [], h => by cases h
  | v :: vs, k :: ks, .cons h t => by rw [h.key, Reps.keys t]; rfl
theorem reps_keys {K : PySem.W.Frag} {F : Hp} : ∀ (ks : List Key), Reps K F (ks.map kV) (ks.map keyP)
  | [] => .nil
  | .inl i :: ks => .cons (.int i) (reps_keys ks)
  | .inr x :: ks => .cons (.str x) (reps_keys ks)

/-! ### what is sorted does not remember its order -/
theorem perm_sorted {α : Type} {r : α → α → Prop} (anti : ∀ a b, r a b → r b a → a = b) : ∀ {l m : List α}, l.Perm m → l.Pairwise r → m.Pairwise r → l = m
  | [], m, p, _, _ => (List.Perm.nil_eq p)
  | a :: l, m, p, h1, h2 => by
    cases m with
    | nil => (exact absurd p.length_eq (by simp))
    | cons b m =>
      obtain ⟨a1, a2⟩ := List.pairwise_cons.mp h1
      obtain ⟨b1, b2⟩ := List.pairwise_cons.mp h2
      have e : a = b := by
        rcases List.mem_cons.mp (p.mem_iff.mp (List.mem_cons_self ..)) with e | e
        · exact e
        · rcases List.mem_cons.mp (p.mem_iff.mpr (List.mem_cons_self (a := b) (l := m))) with e' | e'
          · exact e'.symm
          · exact anti a b (a1 b e') (b1 a e)
      subst e
      rw [perm_sorted anti (List.Perm.cons_inv p) a2 b2]
theorem sort_perm {α : Type} {le : α → α → Bool} (tr : ∀ a b c, le a b = true → le b c = true → le a c = true) (to : ∀ a b, (le a b || le b a) = true) (anti : ∀ a b, le a b = true → le b a = true → a = b) {l m : List α} (p : l.Perm m) : l.mergeSort le = m.mergeSort le :=
  perm_sorted (r := fun a b => le a b = true) anti ((List.mergeSort_perm l le).trans (p.trans (List.mergeSort_perm m le).symm)) (List.pairwise_mergeSort tr to l) (List.pairwise_mergeSort tr to m)
def intLe (a b : Int) : Bool := !decide (b < a)
def strLe (a b : Str) : Bool := !strLt b a
theorem strLe_tr (a b c : Str) (h1 : strLe a b = true) (h2 : strLe b c = true) : strLe a c = true := by
  unfold strLe strLt at *
  simp only [Bool.not_eq_true', decide_eq_false_iff_not] at *
  exact List.not_lt.mpr (List.le_trans (List.not_lt.mp h1) (List.not_lt.mp h2))
theorem strLe_to (a b : Str) : (strLe a b || strLe b a) = true := by
  unfold strLe strLt
  by_cases h : b.cps.toList < a.cps.toList
  · have : ¬ a.cps.toList < b.cps.toList := List.lt_asymm h
    simp [this]
  · simp [h]
theorem strLe_anti (a b : Str) (h1 : strLe a b = true) (h2 : strLe b a = true) : a = b := by
  unfold strLe strLt at *
  simp only [Bool.not_eq_true', decide_eq_false_iff_not] at *
  have e : a.cps.toList = b.cps.toList := List.le_antisymm (List.not_lt.mp h1) (List.not_lt.mp h2)
  obtain ⟨x⟩ := a
  obtain ⟨y⟩ := b
  exact congrArg Str.mk (Array.toList_inj.mp e)
theorem all_ints : ∀ {ks : List Key} (k0 : Int), (∀ k ∈ ks, (P.int k0).alk (keyP k) = true) → ∃ is : List Int, ks = is.map Sum.inl
  | [], _, _ => ⟨[], rfl⟩
  | .inl i :: ks, k0, h => by
    obtain ⟨is, rfl⟩ := all_ints k0 fun k hk => h k (List.mem_cons_of_mem _ hk)
    exact ⟨i :: is, rfl⟩
  | .inr x :: ks, k0, h => by
    have := h (.inr x) (List.mem_cons_self ..)
    cases this
theorem all_strs : ∀ {ks : List Key} (k0 : Str), (∀ k ∈ ks, (P.str k0).alk (keyP k) = true) → ∃ is : List Str, ks = is.map Sum.inr
  | [], _, _ => ⟨[], rfl⟩
  | .inr i :: ks, k0, h => by
    obtain ⟨is, rfl⟩ := all_strs k0 fun k hk => h k (List.mem_cons_of_mem _ hk)
    exact ⟨i :: is, rfl⟩
  | .inl x :: ks, k0, h => by
    have := h (.inl x) (List.mem_cons_self ..)
    cases this
theorem alk_of {xs : List P} (h : canSort xs = true) {x y : P} (hx : x ∈ xs) (hy : y ∈ xs) : x.alk y = true := by
  unfold canSort at h
  simp only [Bool.and_eq_true, List.all_eq_true] at h
  exact h.1.1.1 x hx y hy
theorem perm_inl {is : List Int} {ks : List Key} (p : ks.Perm (is.map Sum.inl)) : ∃ js : List Int, ks = js.map Sum.inl ∧ js.Perm is := by
  have h : ∀ k ∈ ks, ∃ i : Int, k = .inl i := fun k hk => by
    obtain ⟨i, _, e⟩ := List.mem_map.mp (p.mem_iff.mp hk)
    exact ⟨i, e.symm⟩
  have go : ∀ ks : List Key, (∀ k ∈ ks, ∃ i : Int, k = .inl i) → ∃ js : List Int, ks = js.map Sum.inl := by
    intro ks
    induction ks with
    | nil => exact fun _ => ⟨[], rfl⟩
    | cons k ks ih =>
      intro h
      obtain ⟨i, rfl⟩ := h k (List.mem_cons_self ..)
      obtain ⟨js, rfl⟩ := ih fun k hk => h k (List.mem_cons_of_mem _ hk)
      exact ⟨i :: js, rfl⟩
  obtain ⟨js, rfl⟩ := go ks h
  refine ⟨js, rfl, ?_⟩
  have q := p.map fun k : Key => match k with | .inl i => i | .inr _ => 0
  simpa [List.map_map, Function.comp_def] using q
theorem perm_inr {is : List Str} {ks : List Key} (p : ks.Perm (is.map Sum.inr)) : ∃ js : List Str, ks = js.map Sum.inr ∧ js.Perm is := by
  have h : ∀ k ∈ ks, ∃ i : Str, k = .inr i := fun k hk => by
    obtain ⟨i, _, e⟩ := List.mem_map.mp (p.mem_iff.mp hk)
    exact ⟨i, e.symm⟩
  have go : ∀ ks : List Key, (∀ k ∈ ks, ∃ i : Str, k = .inr i) → ∃ js : List Str, ks = js.map Sum.inr := by
    intro ks
    induction ks with
    | nil => exact fun _ => ⟨[], rfl⟩
    | cons k ks ih =>
      intro h
      obtain ⟨i, rfl⟩ := h k (List.mem_cons_self ..)
      obtain ⟨js, rfl⟩ := ih fun k hk => h k (List.mem_cons_of_mem _ hk)
      exact ⟨i :: js, rfl⟩
  obtain ⟨js, rfl⟩ := go ks h
  refine ⟨js, rfl, ?_⟩
  have q := p.map fun k : Key => match k with | .inr i => i | .inl _ => Str.empty
  simpa [List.map_map, Function.comp_def] using q
theorem sortL_ints (is : List Int) : sortL (is.map P.int) = (is.mergeSort intLe).map P.int := (List.map_mergeSort (r := intLe) (s := leP) (f := P.int) fun a _ b _ => rfl).symm
theorem sortL_strs (is : List Str) : sortL (is.map P.str) = (is.mergeSort strLe).map P.str := (List.map_mergeSort (r := strLe) (s := leP) (f := P.str) fun a _ b _ => rfl).symm
theorem sortL_perm {ks L : List Key} (p : ks.Perm L) (h : canSort (L.map keyP) = true) : sortL (ks.map keyP) = sortL (L.map keyP) := by
  cases L with
  | nil => rw [List.Perm.eq_nil p]
  | cons k0 L0 =>
    have al : ∀ k ∈ k0 :: L0, (keyP k0).alk (keyP k) = true := fun k hk => alk_of h (List.mem_map.mpr ⟨k0, List.mem_cons_self .., rfl⟩) (List.mem_map.mpr ⟨k, hk, rfl⟩)
    cases k0 with
    | inl i0 =>
      obtain ⟨is, e⟩ := all_ints i0 al
      rw [e] at p ⊢
      obtain ⟨js, rfl, q⟩ := perm_inl p
      (rw [List.map_map, List.map_map])
      show sortL (js.map P.int) = sortL (is.map P.int)
      rw [sortL_ints, sortL_ints, sort_perm (le := intLe) (fun a b c h1 h2 => ?_) (fun a b => ?_) (fun a b h1 h2 => ?_) q]
      · unfold intLe at *
        simp only [Bool.not_eq_true', decide_eq_false_iff_not] at *
        omega
      · unfold intLe
        simp only [Bool.or_eq_true, Bool.not_eq_true', decide_eq_false_iff_not]
        omega
      · unfold intLe at *
        simp only [Bool.not_eq_true', decide_eq_false_iff_not] at *
        omega
    | inr s0 =>
      obtain ⟨is, e⟩ := all_strs s0 al
      rw [e] at p ⊢
      obtain ⟨js, rfl, q⟩ := perm_inr p
      (rw [List.map_map, List.map_map])
      show sortL (js.map P.str) = sortL (is.map P.str)
      rw [sortL_strs, sortL_strs, sort_perm (le := strLe) strLe_tr strLe_to strLe_anti q]
theorem canSort_perm {xs ys : List P} (p : xs.Perm ys) (h : canSort ys = true) : canSort xs = true := by
  unfold canSort at h ⊢
  have al : ∀ q : P → Bool, xs.all q = ys.all q := fun q => by
    (rw [Bool.eq_iff_iff, List.all_eq_true, List.all_eq_true])
    exact ⟨fun z x hx => z x (p.mem_iff.mpr hx), fun z x hx => z x (p.mem_iff.mp hx)⟩
  rw [al, al, al, al, p.length_eq]
  have : (fun x => xs.all fun y => P.alk x y) = fun x => ys.all fun y => P.alk x y := by
    funext x
    exact al _
  rw [this]
  exact h
end Fy

/-! Fy24: the rules for sets. -/
namespace Fy
open PySem
open PySem.Spec
open PyProof.Rows
open L2

section
variable {X : Cx}
/-- set(row of keys) -/
def rSetP (K : PySem.W.Frag) (w : World) : List V → Hp → VK → Prop := fun vs H Q => ∃ F v p xs, vs = [v] ∧ Sub F H ∧ Pk K F H v p ∧ rowP p = some xs ∧ allKeys xs = true ∧
  ∃ ks, xs = ks.map keyP ∧ ∀ a, H a = none → Q (.ref a) (upd H a (SetWO w a (putAll ks)))
theorem key_rel : ∀ {k : Key} {u : Value}, RelV (kV k) u → keyIs k u = true
  | .inl i, _, ⟨tk, e⟩ => by
    subst e
    exact keyIs_int i tk
  | .inr x, _, ⟨tk, e⟩ => by
    subst e
    exact keyIs_str x tk
theorem vals_keys : ∀ {ks : List Key} {its : List Value}, Vals (ks.map kV) its → ∀ (i : Nat) (v : Value), its.toArray[i]? = some v → ∃ k, ks[i]? = some k ∧ keyIs k v = true
  | [], _, .nil, i, v, e => by simp at e
  | k :: ks, _, .cons (b := u) h t, i, v, e => by
    cases i with
    | zero =>
      simp at e
      subst e
      exact ⟨k, rfl, key_rel h⟩
    | succ i =>
      obtain ⟨k', h1, h2⟩ := vals_keys t i v (by simpa using e)
      exact ⟨k', by simpa using h1, h2⟩
theorem b_set (hc : X.calm = true) : CallR X (.type "set") (rSetP X.K X.w) := by
  intro pz s sg H vs us Q I r h
  obtain ⟨F, v, p, xs, rfl, sf, hp, hrow, hall, ks, rfl, q⟩ := h
  have few : ks.length + 1 < scanBound := by
    have h2 : (decide ((ks.map keyP).length < 4000)) = true := (Bool.and_eq_true_iff.mp hall).2
    rw [decide_eq_true_eq, List.length_map] at h2
    have : scanBound = 4096 := rfl
    omega
  have fin : ∀ (h' : Heap) (tk : Nat), SetW X.w h' s.heap.objs.size (putAll ks) → (∀ b o, s.heap.get? b = some o → h'.get? b = some o) → EP X pz sg Q (.ref s.heap.objs.size) { s with heap := h', toks := tk } := fun h' tk R k =>
    ⟨.ref _, upd H s.heap.objs.size (SetWO X.w s.heap.objs.size (putAll ks)), I.laid (t' := tk) (fun b u e => k b u e) (Nat.le_refl _) (setw_new R), rfl, q _ (I.hok.fresh (Nat.le_refl _))⟩
  cases p with
  | lst ys =>
    cases hrow
    obtain ⟨a, ws, rfl, ha, ra⟩ := hp.lst_inv sf
    obtain rfl := ra.keys
    obtain ⟨its, rv, pl, hz⟩ := I.list (.of ha)
    rw [Vals.ref1 r]
    exact call_set_list ks (I.ok.hd hc) pl.isList (vals_keys rv) (by rw [List.size_toArray, ← rv.length, List.length_map]) few fin
  | tup ys =>
    cases hrow
    obtain ⟨a, ws, rfl, ha, ra⟩ := hp.tup_inv sf
    obtain rfl := ra.keys
    obtain ⟨its, rv, pl, hz⟩ := I.tuple ha
    rw [Vals.ref1 r]
    exact call_set_tuple ks (I.ok.hd hc) pl (vals_keys rv) (by rw [List.size_toArray, ← rv.length, List.length_map]) few fin
  | _ => cases hrow
/-- len of a set -/
def rLenW (w : World) : List V → Hp → VK → Prop := fun vs H Q => ∃ a L, vs = [.ref a] ∧ H a = some (SetWO w a L) ∧ Q (.int (L.length : Nat)) H
theorem b_lenW : CallR X (.builtin "len") (rLenW X.w) := by
  intro pz s sg H vs us Q I r h
  obtain ⟨a, L, rfl, ha, q⟩ := h
  rw [Vals.ref1 r]
  obtain ⟨o, es, ep, t, ho, hex, hd, g, pm, nd, small, fit, ris, led⟩ := setw_at I ha
  have n0 : es.size = L.length := by
    rw [← pm.length_eq, List.length_map, Array.length_toList]
  have : scanBound = 4096 := rfl
  refine call_len_set ho hex hd fit (by omega) ⟨.int (L.length : Nat), H, I.tok _, ⟨s.toks + 1, by rw [n0]⟩, q⟩
/-- sorted(set) -/
def rSortW (K : PySem.W.Frag) (w : World) : List V → Hp → VK → Prop := fun vs H Q => ∃ a L, vs = [.ref a] ∧ H a = some (SetWO w a L) ∧ canSort (L.map keyP) = true ∧ ∀ p vs, H p = none → (∀ F, Reps K F vs (sortL (L.map keyP))) → Q (.ref p) (upd H p (.lst vs))
theorem each_keys {h : Heap} : ∀ {vs : List Value} {ks : List Key}, PySem.W.EachIs (fun u k => keyIs k u = true) vs ks → PySem.W.EachIs (fun u p => ∃ v, RelV v u ∧ v = kV (match p with | P.int i => .inl i | P.str x => .inr x | _ => .inl 0)) vs (ks.map keyP) ∧
    PySem.W.EachIs (fun u p => ∃ as, Reads h u (P.py p) as ∧ as = []) vs (ks.map keyP)
  | _, _, .nil => ⟨.nil, .nil⟩
  | _, _, .cons (a := u) (b := k) hk t => by
    obtain ⟨h1, h2⟩ := each_keys (h := h) t
    rcases keyIs_shape hk with ⟨i, tk, rfl, rfl⟩ | ⟨x, tk, rfl, rfl⟩
    · exact ⟨.cons ⟨.int i, ⟨tk, rfl⟩, rfl⟩ h1, .cons ⟨[], .int .., rfl⟩ h2⟩
    · exact ⟨.cons ⟨.str x, ⟨tk, rfl⟩, rfl⟩ h1, .cons ⟨[], .str .., rfl⟩ h2⟩
theorem each_keyV : ∀ {vs : List Value}, (∀ v ∈ vs, ∃ k, keyIs k v = true) → PySem.W.EachIs (fun u k => keyIs k u = true) vs (vs.map keyV)
  | [], _ => .nil
  | v :: vs, h => by
    obtain ⟨k, hk⟩ := h v (List.mem_cons_self ..)
    have e : keyV v = k := keyV_of hk
    exact .cons (by rw [e]; exact hk) (each_keyV fun u hu => h u (List.mem_cons_of_mem _ hu))
theorem reps_each {K : PySem.W.Frag} {F : Hp} : ∀ {us : List Value} {ps : List P}, PySem.W.EachIs (fun u p => ∃ v, RelV v u ∧ Rep K F v p) us ps → ∃ vs, Vals vs us ∧ Reps K F vs ps := fun h => of_each h
theorem b_sortW (hc : X.calm = true) (hu : X.A.units + 64 < cLine) : CallR X (.builtin "sorted") (rSortW X.K X.w) := by
  intro pz s sg H vs us Q I r h
  obtain ⟨a, L, rfl, ha, hs, q⟩ := h
  rw [Vals.ref1 r]
  obtain ⟨o, es, ep, t, ho, hex, hd, g, pm, nd, small, fit, ris, led⟩ := setw_at I ha
  (refine Calls.call_function_entry kind_sorted plain_sorted entry_sorted (args_sorted1 _) ?_)
  unfold Builtin.«sorted»
  (refine wpAny_bind (m := checkCount "sorted" 1 1 _) (wpAny_pure ?_))
  refine wpAny_bind (collect_set (A := X.A.in1) (I.ok.hd hc) ⟨o, ho, hex.1, hd⟩ fit small ris led fun s1 vs k1 hz g1 o1 vp => ?_)
  have hk : ∀ v ∈ vs, ∃ k, keyIs k v = true := fun v hv => by
    obtain ⟨e, he, q⟩ := List.mem_map.mp (vp.mem_iff.mp hv)
    obtain ⟨k, h1, _⟩ := g e he
    exact ⟨k, by rw [← q]; exact h1⟩
  have kp : (vs.map keyV).Perm L := by
    have z := vp.map keyV
    rw [List.map_map] at z
    exact z.trans pm
  have ps : canSort ((vs.map keyV).map keyP) = true := canSort_perm (kp.map keyP) hs
  have ok := sortOk_of ps
  have len : vs.length ≤ sizeLine := by
    rw [vp.length_eq, List.length_map, Array.length_toList]
    exact fits_of_scanBound small
  refine wpAny_bind (wpAny_newList ?_ len)
  have e1 := each_keyV hk
  obtain ⟨e2, e3⟩ := each_keys (h := s1.heap.push (seqObj "list" vs.toArray 0)) e1
  (have hoL : (s1.heap.push (seqObj "list" vs.toArray 0)).get? s1.heap.objs.size = some (seqObj "list" vs.toArray 0) := Heap.get?_push_size _ rfl)
  have e4 : PySem.W.EachIs (fun u p => ∃ v, RelV v u ∧ ∀ F, Rep X.K F v p) vs ((vs.map keyV).map keyP) := by
    have go : ∀ {us : List Value} {ks : List Key}, PySem.W.EachIs (fun u k => keyIs k u = true) us ks → PySem.W.EachIs (fun u p => ∃ v, RelV v u ∧ ∀ F, Rep X.K F v p) us (ks.map keyP) := by
      intro us ks h
      induction h with
      | nil => exact .nil
      | cons h _ ih =>
        rcases keyIs_shape h with ⟨i, tk, rfl, rfl⟩ | ⟨x, tk, rfl, rfl⟩
        · exact .cons ⟨.int i, ⟨tk, rfl⟩, fun _ => .int i⟩ ih
        · exact .cons ⟨.str x, ⟨tk, rfl⟩, fun _ => .str x⟩ ih
    exact go e1
  refine wpAny_bind (wpAny_holding (PySem.W.list_sort_data (enc := P.py) hoL e4 (e3.mono fun _ _ ⟨as, h1, h2⟩ => ⟨as, h1, by rw [h2]; exact fun z => nomatch z⟩) ok.allAlike ok.sortable (by rw [List.length_map, List.length_map]; exact len) (fun b hb => ?_) fun out ho2 eo => ?_))
  · rw [depth_py]
    have h1 := ok.depth b hb
    have : depthMost = 60 := rfl
    show X.A.units + 1 + 1 + _ < _
    omega
  · rw [ok.sort, sortL_perm kp hs] at eo
    obtain ⟨ws, hw1, hw2⟩ : ∃ ws, Vals ws out ∧ ∀ F, Reps X.K F ws (sortL (L.map keyP)) := by
      have go : ∀ {us : List Value} {ps : List P}, PySem.W.EachIs (fun u p => ∃ v, RelV v u ∧ ∀ F, Rep X.K F v p) us ps → ∃ vs, Vals vs us ∧ ∀ F, Reps X.K F vs ps := by
        intro us ps h
        induction h with
        | nil => exact ⟨[], .nil, fun _ => .nil⟩
        | cons h _ ih =>
          obtain ⟨v, h1, h2⟩ := h
          obtain ⟨vs, h3, h4⟩ := ih
          exact ⟨v :: vs, .cons h1 h3, fun F => .cons (h2 F) (h4 F)⟩
      exact go eo
    obtain ⟨c, hc2⟩ := sortedHeap_at (vs := vs) (out := out.toArray) hoL
    have hlen : ws.length ≤ sizeLine := by
      rw [hw1.length, ho2, List.length_map, List.length_map]
      exact len
    have sz : (s1.heap.push (seqObj "list" vs.toArray 0)).objs.size = s1.heap.objs.size + 1 := size_push' _ _
    have kk : ∀ b u, s.heap.get? b = some u → (sortedHeap (s1.heap.push (seqObj "list" vs.toArray 0)) s1.heap.objs.size vs out.toArray).get? b = some u := fun b u e => by
      have lt : b < s1.heap.objs.size := Heap.lt_size (k1 b u e)
      rw [sortedHeap_old (Nat.ne_of_lt lt) (by rw [sz]; exact Nat.lt_succ_of_lt lt), Heap.get?_push_ne _ _ _ (Nat.ne_of_lt lt)]
      exact k1 b u e
    have hn : H s1.heap.objs.size = none := I.hok.fresh hz
    refine wpAny_pure ⟨_, rfl, .ref s1.heap.objs.size, upd H s1.heap.objs.size (.lst ws), ?_, rfl, q _ _ hn hw2⟩
    exact I.call' (ch := []) o1 (Un.laid kk hz hn) (I.hok.laid kk hz ⟨hlen, out, c, hw1, hc2⟩) (by rw [g1]; exact I.bare) (fun _ z => nomatch z)
end
end Fy

/-! Fy25: sets in expressions: sorted(set(x)), len(set(x)), sorted({e for ..}). -/
namespace Fy
open PySem
open PySem.Spec
open PyProof.Rows
open L2

theorem cmp_sets {elt : Expr} {gs : List Comprehension} {scope : Scope} {pos : Pos} : CmpE (.SetComp elt gs scope pos) gs (fun acc env => do
    let v ← eval elt env
    standAt elt.pos
    let _ ← call (.builtin "set.add") [acc, v]) := by
  refine ⟨rfl, fun _ _ _ _ _ _ => rfl, fun _ _ _ _ _ _ => rfl, fun _ _ _ _ _ => ⟨rfl, rfl⟩, fun d g g' it acc env h1 h2 h3 h4 => ?_, fun d g it acc env h1 h2 h3 => ?_⟩
  · unfold compTurn
    simp [h1, h2, h3, h4]
    rfl
  · unfold compTurn
    simp [h1, h2, h3]
    rfl
/-- the set at D is of the keys met -/
def AOs (w : World) : Addr → Hp → HO → List P → Prop := fun D _ ho acc => ∃ ks, ho = SetWO w D (putAll ks) ∧ acc = ks.map keyP ∧ ks.length ≤ 4000
def fSc (C : Ev) (e : Ex) : Env → List P → M (List P) := fun env acc => bnd (evE C e env) fun x => bnd (asP x) fun p => if keyOk p && decide (acc.length < 4000) then ret (acc ++ [p]) else stuck
theorem put_call {P : Program} {w : World} {A : Around} {E : Value → Shared → Prop} {s : Shared} {a : Addr} {L : List Key} {k : Key} {x : Value} {Q : Value → Shared → Prop} (hx : keyIs k x = true) (R : SetW w s.heap a L) (room : L.length + 1 < scanBound)
    (hQ : ∀ h', Heap.SameBut a s.heap h' → SetW w h' a (putKey L k) → Q .none { s with heap := h', toks := s.toks + 1 }) : wpAny (model P w) A (call (.builtin "set.add") [.ref a, x]) Q E s := by
  have ty : s.TypeIs (.ref a) "set" := by
    obtain ⟨o, es, ep, t, ho, hex, _⟩ := R
    exact ⟨o, ho, hex.1⟩
  refine wpAny_call_entry F.slot_set_add ty F.entry_set_add ?_ (F.args_set_add_2 _ _)
  (unfold Builtin.«set.add» Builtin.Frozenset.oneOther)
  simp only [bind_assoc, List.isEmpty_nil]
  (unfold Builtin.Frozenset.addrOf setAdd)
  (refine wpAny_bind (wpAny_pure ?_))
  try dsimp only
  (refine wpAny_bind (wpAny_pure ?_))
  try dsimp only
  refine wpAny_bind (wpAny_holding (wpAny_bind ((mixKind P w).pyHash hx ?_)))
  refine setw_put (s := { s with toks := s.toks + 1 }) hx R room fun h' b sb r => ?_
  show wpAny _ _ (PySem.ret Value.none) _ _ _
  (exact wpAny_pure ⟨_, rfl, hQ h' sb r⟩)
theorem putAll_snoc (ks : List Key) (k : Key) : putAll (ks ++ [k]) = putKey (putAll ks) k := by
  unfold putAll
  rw [List.foldl_append]
  rfl
section
variable {xr : XR} {T : Tab} {fa : Nat → Addr} {fd : Nat → FuncData} {ps : Nat → List Str} {k : Nat} {A : Agr} {E : L2.St → XK} {X : Cx} {C : Ev}
theorem em_set (hxe : X.xe = fun _ _ => False) {x : Ex} {elt : Expr} {D : Addr} (h : PE X elt (tE X xr (fun _ => XF) C x)) : Emit X xr (fun acc env => do
    let v ← eval elt env
    standAt elt.pos
    let _ ← call (.builtin "set.add") [acc, v]) D (AOs X.w D) (fSc C x) := by
  refine ⟨fun pz s sg H Q env F ρ st ho acc I rl eo sd ⟨ks, e0, ra, hl⟩ q => ?_⟩
  have r := h.run pz s sg H (fun v H1 => ∃ k, v = kV k ∧ H1 D = some (SetWO X.w D (putAll ks)) ∧ ks.length < 4000 ∧ Q (upd H1 D (SetWO X.w D (putAll (ks ++ [k]))))) I ⟨env, F, ρ, st, rl, eo, ?_⟩
  · refine wpAny_bind ?_
    rw [hxe] at r ⊢
    refine thnF r fun u s1 ⟨v, H1, I1, r1, kk, e1, h1, h2, h3⟩ => wpAny_bind (wpAny_standAt (wpAny_bind ?_))
    subst e1
    have few := fold_len ks []
    refine put_call (key_rel r1) (setw_at I1 h1) ?_ fun h' sb new => ?_
    · have e : scanBound = 4096 := rfl
      have e2 : (putAll ks).length ≤ ([] : List Key).length + ks.length := few
      rw [List.length_nil] at e2
      omega
    · have he : ∃ u, h'.get? D = some u := by
        (have ⟨o, _, _, _, ho, _⟩ := new)
        exact ⟨o, ho⟩
      rw [← putAll_snoc] at new
      refine wpAny_pure ⟨_, I1.write (e := D) (t' := s1.toks + 1) (by rw [h1]; trivial) (.inl rfl) (fun b u hb hu => (sb.2 b hb).trans hu) he (setw_new new), h3⟩
  · have q : Post X.K xr XF F ρ st H (bnd (evE C x env) (fun x => bnd (asP x) fun p => if keyOk p && decide (acc.length < 4000) then ret (acc ++ [p]) else stuck) st) _ := q
    refine q.bnd.imp fun s1 F1 ρ1 st1 H1 rl1 sp1 q v rv => ?_
    obtain ⟨p, ep, q1⟩ := q.asP
    subst ep
    split at q1
    · rename_i hc
      (rw [Bool.and_eq_true, decide_eq_true_eq] at hc)
      have q2 := q1.ret rl1
      have sd1 := sd.step sp1
      obtain ⟨kk, rfl⟩ := keyOk_inv hc.1
      have hv : v = kV kk := Rep.key rv
      have hlt : ks.length < 4000 := by
        have := hc.2
        rw [ra, List.length_map] at this
        exact this
      refine ⟨kk, hv, by rw [← e0]; exact sd1.at_, hlt, q2 _ ⟨ks ++ [kk], rfl, by rw [ra, List.map_append]; rfl, ?_⟩ sd1⟩
      rw [List.length_append]
      exact hlt
    · exact q1.elim
/-- {e for ..}: a set that is then asked -/
def tScm (X : Cx) (xr : XR) (E : L2.St → XK) (C : Ev) (x : Ex) (own : List Nat) (g : Gen) : TE := fun sg H Q => ∃ QF : Sl → Hp → List Addr → Sto → Hp → Prop,
  (∀ (Fa : Hp) (ρa : List Addr) (sta : Sto) (Ha : Hp) (acc : List P) (F : Hp) (ρ : List Addr) (st : Sto) (H : Hp) (ho : HO) (D : Addr), Ha D = none → Rel X.K F ρ st H → Step sta.length Fa ρa sta Ha F ρ st H → Side F ρ st H D ho → AOs X.w D F ho acc → Post X.K xr (E sg) Fa ρa sta Ha (.ok (.val (.lst acc)) st) QF → Q (.ref D) H) ∧
  tCm X xr E C g own (fSc C x) (fun ps => .lst ps) sg H QF
theorem pe_scm (o : XOk xr T fa fd ps k A E X) {x : Ex} {elt : Expr} {c : Comprehension} {cs : List Comprehension} {g : Gen} {own : List Nat} {scope : Scope} {pos : Pos} (hz : c.is_async = 0)
    (hb : blkC A.N A.sc scope (ownS A.N own) = true) (hg : OkG xr T fa fd ps k C A (A.blk scope) g (c :: cs)) (he : OkE xr T fa fd ps k C (A.blk scope) x elt) : PE X (.SetComp elt (c :: cs) scope pos) (tScm X xr E C x own g) := by
  refine ⟨fun pz s sg H Q I ⟨QF, hq, h⟩ => ?_⟩
  have e1 := async_no (cs := cs) hz
  have e2 := first_it (c := c) (cs := cs) (env := X.env)
  show wpAny _ _ (comprehension (.SetComp elt (c :: cs) scope pos) scope X.env (firstIterPos (c :: cs) pos) (newSet (.type "set")) (firstAsync (c :: cs)) (firstIter (c :: cs) X.env)) _ _ _
  rw [e1, e2]
  refine cmp_gen o (use := none) (Qf := EP X pz sg Q) (AO := AOs X.w) (f := fSc C x) (fin := fun ps => .lst ps) (ho0 := fun D => SetWO X.w D []) (ob := newS X.w) cmp_sets (fun D F F' ho acc _ h => h) (fun X' D hK hw o' hx => ?_) hb hg (fun D F => ⟨[], rfl, rfl, Nat.zero_le _⟩) (fun {E Q s} h => ?_) (fun {pz sg H s} I => ?_) hq I h fun D C s' m H' I' q hn f => ⟨m, hn, fun h'' sb => ?_⟩
  · have e := em_set (C := C) (D := D) hx (he _ X' o').1
    rw [hw] at e
    exact e
  · refine PySem.wpAny_newSet_raw fun led e => ?_
    subst e
    exact h
  · exact I.laid (t' := s.toks) (fun b o e => Heap.get?_push_of_some _ e) (Nat.le_refl _) (setw_new (setw_fresh (Heap.get?_push_size _ rfl)))
  · obtain ⟨f0, f1, f2, f3, f4, f5⟩ := f
    (exact ⟨.ref D, H', I'.turned (t' := s'.toks) (fun b o hb e => (sb.2 b hb).trans e) f0 f1 f3 f4 f5, rfl, q⟩)
/-! ### the asked sets, as expressions of ours -/
theorem rel_side_new {K : PySem.W.Frag} {F : Hp} {ρ : List Addr} {st : Sto} {H : Hp} {a : Addr} {ho : HO} (rl : Rel K F ρ st H) (n : H a = none) : New F H F (upd H a ho) := by
  refine ⟨.refl _, Sub.new n, fun b o e => ?_, fun b h => .inl h⟩
  exact Sub.new n b o (rl.sub b o e)
abbrev tSet (X : Cx) (te : TE) : TE := tCB (rSetP X.K X.w) (tCons te tNil)
theorem pe_set1 (o : XOk xr T fa fd ps k A E X) {f : Str} {p pos : Pos} {e : Expr} {te : TE} (hf : f = PySem.Str.ofString "set") (hb : bltC A f = true) (pl : PlainE e) (h : PE X e te) : PE X (.Call (.Name f p) [e] [] pos) (tSet X te) := by
  obtain ⟨g1, g2, g3, g4⟩ := o.blt' hb
  exact pe_callTy (b_set o.calm) g1 g2 (by rw [hf]; decide +kernel) (pa_cons h pa_nil (pl.star _ _)) g4 g3 (pl.star _ _) rfl
theorem pe_asked (o : XOk xr T fa fd ps k A E X) {f : Str} {p pos : Pos} {e : Expr} {te : TE} (hf : f = PySem.Str.ofString "sorted") (hb : bltC A f = true) (pl : PlainE e) (h : PE X e te) : PE X (.Call (.Name f p) [e] [] pos) (tCB (rSortW X.K X.w) (tCons te tNil)) := by
  obtain ⟨g1, g2, g3, g4⟩ := o.blt' hb
  exact pe_callB (b_sortW o.calm o.hu) g1 g2 (by rw [hf]; decide +kernel) (pa_cons h pa_nil (pl.star _ _)) g4 g3 (pl.star _ _) rfl
theorem pe_count (o : XOk xr T fa fd ps k A E X) {f : Str} {p pos : Pos} {e : Expr} {te : TE} (hf : f = PySem.Str.ofString "len") (hb : bltC A f = true) (pl : PlainE e) (h : PE X e te) : PE X (.Call (.Name f p) [e] [] pos) (tCB (rLenW X.w) (tCons te tNil)) := by
  obtain ⟨g1, g2, g3, g4⟩ := o.blt' hb
  exact pe_callB b_lenW g1 g2 (by rw [hf]; decide +kernel) (pa_cons h pa_nil (pl.star _ _)) g4 g3 (pl.star _ _) rfl
theorem post_put {α β : Type} {K : PySem.W.Frag} {E : XK} {F : Hp} {ρ : List Addr} {st : Sto} {H : Hp} {m : M α} {g : α → β} {Q0 : α → Hp → List Addr → Sto → Hp → Prop} (h : Post K xr E F ρ st H (m st) Q0) :
    Post K xr E F ρ st H (bnd m (fun a => ret (g a)) st) (fun b F ρ st H => ∃ a, b = g a ∧ Q0 a F ρ st H) := by
  unfold Fy.bnd
  cases e : m st with
  | ok a t =>
    rw [e] at h
    exact fun F' ρ' H' rl s => ⟨a, rfl, h F' ρ' H' rl s⟩
  | exc y t =>
    rw [e] at h
    exact h
  | bad =>
    rw [e] at h
    exact h
/-- how a new list comes to what is asked -/
def Hands (K : PySem.W.Frag) (xr : XR) (E : XK) (QF : Sl → Hp → List Addr → Sto → Hp → Prop) (Q : VK) : Prop :=
  ∀ (F : Hp) (ρ : List Addr) (st : Sto) (H : Hp) (xs : List P) (vs : List V) (p : Addr), Rel K F ρ st H → H p = none → Reps K F vs xs → Post K xr E F ρ st H (.ok (.val (.lst xs)) st) QF → Q (.ref p) (upd H p (.lst vs))
theorem hands_qv {K : PySem.W.Frag} {E : XK} {Q : VK} : Hands K xr E (QV K Q) Q := fun F ρ st H xs vs p rl n r q => q.give rl (.ref p) _ _ (.laid rl.sub n) (.lst upd_same (r.mono (Sub.new (rl.sub.back n))))
/-- sorted(set(x)) -/
theorem sst_te {x : Ex} {sg : L2.St} {H : Hp} {Q : VK} {QF : Sl → Hp → List Addr → Sto → Hp → Prop} {env : Env} {F : Hp} {ρ : List Addr} {st : Sto} (hh : Hands X.K xr (E sg) QF Q) (rl : Rel X.K F ρ st H) (eo : EnvOk X.K F ρ st.length env sg) (q : Post X.K xr (E sg) F ρ st H (evE C (.sst x) env st) QF) :
    tCB (rSortW X.K X.w) (tCons (tSet X (tE X xr E C x)) tNil) sg H Q := by
  refine ⟨env, F, ρ, st, rl, eo, ?_⟩
  refine (Post.bnd (m := evE C x env) q).imp fun s F1 ρ1 st1 H1 rl1 sp1 q v rv => ?_
  obtain ⟨p, hp, q⟩ := q.peek rl1 rv
  obtain ⟨xs, e1, q⟩ := q.bndLift
  split at q
  · rename_i hc
    rw [Bool.and_eq_true] at hc
    obtain ⟨ks, ek⟩ := keys_of (Bool.and_eq_true_iff.mp hc.1).1
    refine ⟨F1, v, p, xs, rfl, rl1.sub, hp, e1, hc.1, ks, ek, fun a n => ⟨a, putAll ks, rfl, upd_same, ?_, fun pl vs n2 rs => ?_⟩⟩
    · rw [putAll_map, ← ek]
      exact hc.2
    · rw [putAll_map, ← ek] at rs
      have nw := rel_side_new (ho := SetWO X.w a (putAll ks)) rl1 n
      exact hh F1 ρ1 st1 _ _ vs pl (rl1.new nw) n2 (rs F1) (Post.shift q (.new nw))
  · exact q.elim
/-- len(set(x)) -/
theorem lsn_te {x : Ex} {sg : L2.St} {H : Hp} {Q : VK} {env : Env} {F : Hp} {ρ : List Addr} {st : Sto} (rl : Rel X.K F ρ st H) (eo : EnvOk X.K F ρ st.length env sg) (q : Post X.K xr (E sg) F ρ st H (evE C (.lsn x) env st) (QV X.K Q)) :
    tCB (rLenW X.w) (tCons (tSet X (tE X xr E C x)) tNil) sg H Q := by
  refine ⟨env, F, ρ, st, rl, eo, ?_⟩
  refine (Post.bnd (m := evE C x env) q).imp fun s F1 ρ1 st1 H1 rl1 sp1 q v rv => ?_
  obtain ⟨p, hp, q⟩ := q.peek rl1 rv
  obtain ⟨xs, e1, q⟩ := q.bndLift
  split at q
  · rename_i hc
    obtain ⟨ks, ek⟩ := keys_of (Bool.and_eq_true_iff.mp hc).1
    refine ⟨F1, v, p, xs, rfl, rl1.sub, hp, e1, hc, ks, ek, fun a n => ⟨a, putAll ks, rfl, upd_same, ?_⟩⟩
    have nw := rel_side_new (ho := SetWO X.w a (putAll ks)) rl1 n
    have e2 : (putAll ks).length = (uniq xs).length := by
      rw [ek, ← putAll_map, List.length_map]
    rw [e2]
    exact (Post.shift q (.new nw)).val (rl1.new nw) (.int _)
  · exact q.elim
/-- sorted({e for ..}) -/
theorem scm_te {x : Ex} {own : List Nat} {g : Gen} {sg : L2.St} {H : Hp} {Q : VK} {QF : Sl → Hp → List Addr → Sto → Hp → Prop} {env : Env} {F : Hp} {ρ : List Addr} {st : Sto} (hh : Hands X.K xr (E sg) QF Q) (rl : Rel X.K F ρ st H) (eo : EnvOk X.K F ρ st.length env sg) (q : Post X.K xr (E sg) F ρ st H (evE C (.scm x own g) env st) QF) :
    tCB (rSortW X.K X.w) (tCons (tScm X xr E C x own g) tNil) sg H Q := by
  refine ⟨fun s F ρ st H => ∃ ps, s = .val (.lst ps) ∧ Post X.K xr (E sg) F ρ st H ((if allKeys ps && canSort (uniq ps) then ret (.val (.lst (sortL (uniq ps)))) else stuck) st) QF, fun Fa ρa sta Ha acc F ρ st H ho D hD rl an sd ⟨ks, e0, ek, _⟩ q => ?_, env, F, ρ, st, rl, eo, ?_⟩
  · obtain ⟨ps, e1, q⟩ := q F ρ H rl an
    cases e1
    subst e0
    split at q
    · rename_i hc
      rw [Bool.and_eq_true] at hc
      refine ⟨D, putAll ks, rfl, sd.at_, ?_, fun pl vs n2 rs => ?_⟩
      · rw [putAll_map, ← ek]
        exact hc.2
      · rw [putAll_map, ← ek] at rs
        exact hh F ρ st H _ vs pl rl n2 (rs F) q
    · exact q.elim
  · have q := Post.bnd (m := evG C g (fSc C x) env (wipeE env own) []) q
    exact post_put q
end
end Fy

/-! Fy14: every expression that agrees does what our language says. -/
namespace Fy
open PySem
open PySem.Spec
open PyProof.Rows
open L2

section
variable {xr : XR} {T : Tab} {fa : Nat → Addr} {fd : Nat → FuncData} {ps : Nat → List Str} {k : Nat} {C : Ev}
theorem and_split {a b : Bool} (h : (a && b) = true) : a = true ∧ b = true := by
  rwa [Bool.and_eq_true] at h
theorem async_of {n : Nat} (h : (n == 0) = true) : n = 0 := beq_iff_eq.mp h
theorem dec_of {p : Prop} [Decidable p] (h : decide p = true) : p := of_decide_eq_true h
theorem isTup_of {t : Expr} (h : isTupE t = true) : ∃ es k p, t = .Tuple es k p := by
  cases t with
  | Tuple es k p => exact ⟨es, k, p, rfl⟩
  | _ => cases h
theorem okE_plain {A : Agr} {x : Ex} {e : Expr} (h : agE A x e = true) : PlainE e := plain_of (agE_plain A x e h)
/-! ### new objects of one's own -/
/-- what a new object gives: a place that nobody had -/
def GiveN (K : PySem.W.Frag) (F H : Hp) (Q : VK) : Sl → Prop
  | .val (.lst xs) => ∀ p vs, H p = none → Reps K F vs xs → Q (.ref p) (upd H p (.lst vs))
  | .val (.dct kvs) => ∀ p vs, H p = none → RepK K F vs kvs → Q (.ref p) (upd H p (.dK vs))
  | _ => False
def tF (X : Cx) (xr : XR) (E : L2.St → XK) (C : Ev) (x : Ex) : TE := fun sg H Q => ∃ env F ρ st, Rel X.K F ρ st H ∧ EnvOk X.K F ρ st.length env sg ∧ Post X.K xr (E sg) F ρ st H (evE C x env st) fun s F' _ _ H' => GiveN X.K F' H' Q s
theorem Rel.push {K : PySem.W.Frag} {F H : Hp} {ρ : List Addr} {st : Sto} (rl : Rel K F ρ st H) {p : Addr} (n : H p = none) {ho : HO} {c : Cell} (ok : CellOk K F ho c) (hl : c.live) : Rel K F (ρ ++ [p]) (st ++ [c]) (upd H p ho) := by
  have hF : F p = none := rl.sub.back n
  have no := rl.noOwn n
  have get : ∀ (k : Nat) (ck : Cell), (st ++ [c])[k]? = some ck → st[k]? = some ck ∨ (k = st.length ∧ ck = c) := fun k ck h => by
    by_cases q : k < st.length
    · rw [List.getElem?_append_left q] at h
      exact .inl h
    · rw [List.getElem?_append_right (by omega)] at h
      have : k - st.length = 0 := by
        by_cases z : k - st.length = 0
        · exact z
        · rw [List.getElem?_eq_none (by simp; omega)] at h
          cases h
      rw [this] at h
      cases h
      exact .inr ⟨by omega, rfl⟩
  have gρ : ∀ (k : Nat) (ck : Cell), st[k]? = some ck → (ρ ++ [p])[k]? = ρ[k]? := fun k ck h => by
    have := (List.getElem?_eq_some_iff.mp h).1
    rw [List.getElem?_append_left (by rw [rl.len]; exact this)]
  have gn : (ρ ++ [p])[st.length]? = some p := by
    rw [← rl.len]
    simp
  refine ⟨by rw [List.length_append, List.length_append, rl.len]; rfl, fun a o e => ?_, fun k ck hk hlk => ?_, fun m k cm ck a h1 h2 h3 h4 h5 h6 => ?_⟩
  · have : a ≠ p := by
      rintro rfl
      rw [hF] at e
      cases e
    rw [upd_ne this]
    exact rl.sub a o e
  · rcases get k ck hk with h | ⟨rfl, rfl⟩
    · obtain ⟨a, h', g1, g2, g3, g4⟩ := rl.cell k ck h hlk
      have : a ≠ p := by
        rintro rfl
        rw [n] at g3
        cases g3
      exact ⟨a, h', by rw [gρ k ck h]; exact g1, g2, by rw [upd_ne this]; exact g3, g4⟩
    · exact ⟨p, ho, gn, hF, upd_same, ok⟩
  · have old : ∀ (j : Nat) (cj : Cell), st[j]? = some cj → cj.live → (ρ ++ [p])[j]? = some p → False := fun j cj e hl z => by
      rw [gρ j cj e] at z
      exact no (.inr ⟨j, cj, e, hl, z⟩)
    rcases get m cm h1 with e1 | ⟨rfl, rfl⟩ <;> rcases get k ck h3 with e2 | ⟨rfl, rfl⟩
    · rw [gρ m cm e1] at h5
      rw [gρ k ck e2] at h6
      exact rl.inj m k cm ck a e1 h2 e2 h4 h5 h6
    · rw [gn] at h6
      cases h6
      exact (old m cm e1 h2 h5).elim
    · rw [gn] at h5
      cases h5
      exact (old k ck e2 h4 h6).elim
    · rfl
theorem Step.push {K : PySem.W.Frag} {F H : Hp} {ρ : List Addr} {st : Sto} (rl : Rel K F ρ st H) {p : Addr} (n : H p = none) {ho : HO} {c : Cell} : Step st.length F ρ st H F (ρ ++ [p]) (st ++ [c]) (upd H p ho) := by
  refine ⟨.refl _, fun k a hk e => ?_, by rw [List.length_append]; exact Nat.le_add_right _ _, fun a o e _ => ?_, fun a e z => ?_, fun a e => ?_⟩
  · rw [List.getElem?_append_left (by rw [rl.len]; exact hk)]
    exact e
  · rw [upd_ne (by rintro rfl; rw [n] at e; cases e)]
    exact e
  · have hap : a ≠ p := by
      rintro rfl
      exact e n
    rcases z with z | ⟨k, ck, h1, h2, h3⟩
    · exact .inl z
    · by_cases q : k < st.length
      · rw [List.getElem?_append_left q] at h1
        rw [List.getElem?_append_left (by rw [rl.len]; exact q)] at h3
        exact .inr ⟨k, ck, h1, h2, h3⟩
      · rw [List.getElem?_append_right (by rw [rl.len]; omega)] at h3
        have := List.mem_of_getElem? h3
        exact absurd (List.mem_singleton.mp this) hap
  · by_cases q : a = p
    · subst q
      exact absurd n e
    · rw [upd_ne q]
      exact e
theorem snd_new {E : L2.St → XK} {X : Cx} {x : Ex} {e : Expr} (h : PE X e (tF X xr E C x)) : PE X e (tE X xr E C (.new x)) := by
  refine PE.imp h fun sg H Q ⟨env, F, ρ, st, rl, eo, q⟩ => ⟨env, F, ρ, st, rl, eo, ?_⟩
  refine (Post.bnd (m := evE C x env) q).imp fun s F1 ρ1 st1 H1 rl1 sp1 q => ?_
  split at q
  · cases s with
    | ref n => exact q.elim
    | val p =>
      cases p with
      | lst xs =>
        intro a vs n rv
        refine q F1 (ρ1 ++ [a]) (upd H1 a (.lst vs)) (rl1.push n ⟨vs, rfl, rv⟩ trivial) (.push rl1 n) (.ref a) ⟨by rw [List.length_append]; exact Nat.lt_succ_self _, a, ?_, rfl⟩
        rw [← rl1.len]
        simp
      | dct xs =>
        intro a vs n rv
        refine q F1 (ρ1 ++ [a]) (upd H1 a (.dK vs)) (rl1.push n ⟨vs, rfl, rv⟩ trivial) (.push rl1 n) (.ref a) ⟨by rw [List.length_append]; exact Nat.lt_succ_self _, a, ?_, rfl⟩
        rw [← rl1.len]
        simp
      | _ => exact q.elim
  · exact q.elim
theorem snf_lst {A : Agr} {E : L2.St → XK} {X : Cx} {xs : Exs} {es : List Expr} {pos : Pos} (h : agE A (.lst xs) (.List es pos) = true) (hs : PA X es (tEs X xr E C xs)) : PE X (.List es pos) (tF X xr E C (.lst xs)) := by
  have h : (agEs A xs es && decide (es.length ≤ 1000)) = true := h
  (rw [Bool.and_eq_true, decide_eq_true_eq] at h)
  refine PE.imp (pe_lst hs) fun sg H Q ⟨env, F, ρ, st, rl, eo, q⟩ => ⟨env, F, ρ, st, rl, eo, ?_⟩
  have q : Post X.K xr (E sg) F ρ st H (bnd (evEs C xs env) (fun vs => lift ((vals vs).map fun ps => Sl.val (.lst ps))) st) (fun s F' _ _ H' => GiveN X.K F' H' Q s) := q
  unfold bnd at q
  cases e : evEs C xs env st with
  | bad =>
    rw [e] at q
    exact q.elim
  | exc x st1 =>
    rw [e] at q
    exact q
  | ok ss st1 =>
    rw [e] at q
    intro F1 ρ1 H1 rl1 sp1 vs rvs
    have q := Post.shift q sp1
    obtain ⟨s, e1, q⟩ := q.lift
    obtain ⟨ps, e2, rfl⟩ := Option.map_eq_some_iff.mp e1
    refine ⟨?_, fun p n => q.okHere rl1 p vs n (vals_reps rvs e2)⟩
    rw [rvs.length, evEs_len h.1 e]
    exact Nat.le_trans h.2 (by decide)
theorem snf_emp {E : L2.St → XK} {X : Cx} {pos : Pos} : PE X (.Dict [] [] pos) (tF X xr E C .emp) :=
  PE.imp pe_dnewK fun sg H Q ⟨env, F, ρ, st, rl, eo, q⟩ p n => q.ret rl p [] n .nil
theorem snd_emp {E : L2.St → XK} {X : Cx} {pos : Pos} : PE X (.Dict [] [] pos) (tE X xr E C .emp) :=
  PE.imp pe_dnewK fun sg H Q ⟨env, F, ρ, st, rl, eo, q⟩ p n => q.give rl (.ref p) _ _ (.laid rl.sub n) (.dct upd_same .nil)
theorem snf_cat {E : L2.St → XK} {X : Cx} {a b : Ex} {x y : Expr} {pos : Pos} (ha : PE X x (tE X xr E C a)) (hb : PE X y (tE X xr E C b)) : PE X (.BinOp x .Add y pos) (tF X xr E C (.bin .add a b)) := by
  have hop : OpR X (binaryOp .Add) (fun x y H Q => ∃ F p q z, Sub F H ∧ Pk X.K F H x p ∧ Pk X.K F H y q ∧ binP .add p q = some z ∧ GiveN X.K F H Q (.val z)) := by
    intro pz s sg H x y v u Q I rx ry ⟨F, p, q, z, sf, hp, hq, e, g⟩
    cases p <;> cases q <;> simp only [binP, reduceCtorEq] at e
    case lst.lst i j =>
      split at e
      · rename_i hl
        cases e
        obtain ⟨a, vs, rfl, ha, ra⟩ := hp.lst_inv sf
        obtain ⟨b, ws, rfl, hb, rb⟩ := hq.lst_inv sf
        refine op_cat pz s sg H _ _ v u Q I rx ry ⟨a, b, vs, ws, rfl, rfl, ha, hb, ?_, fun p n => g p _ n (ra.append rb)⟩
        rw [ra.length, rb.length]
        exact lenMost_lt hl
      · cases e
    case int.int i j =>
      cases e
      exact g.elim
    case int.bl i j =>
      cases e
      exact g.elim
    case bl.int i j =>
      cases e
      exact g.elim
    all_goals (split at e <;> first | cases e; exact g.elim | cases e)
  refine PE.imp (pe_op hop ha hb) fun sg H Q ⟨env, F, ρ, st, rl, eo, q⟩ => ⟨env, F, ρ, st, rl, eo, ?_⟩
  refine (Post.bnd (m := evE C a env) q).imp fun s F1 ρ1 st1 H1 rl1 sp1 q v rv => ⟨env, F1, ρ1, st1, rl1, eo.step sp1, ?_⟩
  refine q.bnd.imp fun s2 F2 ρ2 st2 H2 rl2 sp2 q w rw' => ?_
  obtain ⟨p, hp, q⟩ := q.peek rl2 (rv.step sp2)
  obtain ⟨p2, hp2, q⟩ := q.peek rl2 rw'
  obtain ⟨s, e1, q⟩ := q.lift
  obtain ⟨z, e2, rfl⟩ := Option.map_eq_some_iff.mp e1
  exact ⟨F2, p, p2, z, rl2.sub, hp, hp2, e2, q.okHere rl2⟩
/-- list(e), a list of one's own -/
theorem snf_list {A : Agr} {E : L2.St → XK} {X : Cx} (o : XOk xr T fa fd ps k A E X) {xs : Exs} {f : Str} {e : Expr} {es : List Expr} {p pos : Pos} (hf : f = bltN .lst) (hb : bltC A f = true) (hs : AllE X xr E C xs (e :: es)) :
    PE X (.Call (.Name f p) (e :: es) [] pos) (tF X xr E C (.blt .lst xs)) := by
  obtain ⟨g1, g2, g3, g4⟩ := o.blt' hb
  refine PE.imp (pe_callTy b_lst g1 g2 (by rw [hf]; decide +kernel) hs.pa g4 g3 hs.head (back_plain pos hs.tail)) fun sg H Q ⟨env, F, ρ, st, rl, eo, q⟩ => ⟨env, F, ρ, st, rl, eo, ?_⟩
  refine (Post.bnd (m := evEs C xs env) q).imp fun ss F1 ρ1 st1 H1 rl1 sp1 q vs rvs => ?_
  obtain ⟨ps, hp, q⟩ := peeks_post (f := fun ps => lift ((bltP .lst ps).map Sl.val)) rl1 rvs q
  obtain ⟨s, e1, q⟩ := q.lift
  obtain ⟨z, e2, rfl⟩ := Option.map_eq_some_iff.mp e1
  have g := q.okHere rl1
  cases ps with
  | nil => cases e2
  | cons p r =>
    cases r with
    | cons _ _ => cases p <;> cases e2
    | nil =>
      obtain ⟨v, rfl, hp1⟩ := hp.one
      cases p with
      | lst ys =>
        cases e2
        exact ⟨F1, v, ys, _, rfl, rl1.sub, hp1, .inl rfl, g⟩
      | tup ys =>
        cases e2
        exact ⟨F1, v, ys, _, rfl, rl1.sub, hp1, .inr rfl, g⟩
      | _ => cases e2
/-- the side object taken off the heap -/
def off (H : Hp) (D : Addr) : Hp := fun a => if a = D then none else H a
theorem off_put {H : Hp} {D : Addr} {ho : HO} (h : H D = some ho) : upd (off H D) D ho = H := by
  funext a
  by_cases q : a = D
  · subst q
    rw [upd_same, h]
  · rw [upd_ne q]
    unfold off
    rw [if_neg q]
theorem off_at {H : Hp} {D : Addr} : off H D D = none := by
  unfold off
  rw [if_pos rfl]
theorem Side.off {K : PySem.W.Frag} {F : Hp} {ρ : List Addr} {st : Sto} {H : Hp} {D : Addr} {ho : HO} (d : Side F ρ st H D ho) (rl : Rel K F ρ st H) : Rel K F ρ st (Fy.off H D) := by
  refine ⟨rl.len, fun a o e => ?_, fun n c e hl => ?_, rl.inj⟩
  · have : a ≠ D := by
      rintro rfl
      exact d.no (.inl (by rw [e]; exact fun z => nomatch z))
    unfold Fy.off
    rw [if_neg this]
    exact rl.sub a o e
  · obtain ⟨a, h, h1, h2, h3, h4⟩ := rl.cell n c e hl
    have : a ≠ D := by
      rintro rfl
      exact d.no (.inr ⟨n, c, e, hl, h1⟩)
    exact ⟨a, h, h1, h2, by unfold Fy.off; rw [if_neg this]; exact h3, h4⟩
theorem Step.off {b : Nat} {Fa F : Hp} {ρa ρ : List Addr} {sta st : Sto} {Ha H : Hp} {D : Addr} (s : Step b Fa ρa sta Ha F ρ st H) (hd : Ha D = none) : Step b Fa ρa sta Ha F ρ st (Fy.off H D) := by
  refine ⟨s.ext, s.pre, s.len, fun a o e n => ?_, s.own, fun a e => ?_⟩
  · have : a ≠ D := by
      rintro rfl
      rw [hd] at e
      cases e
    unfold Fy.off
    rw [if_neg this]
    exact s.keep a o e n
  · have : a ≠ D := by
      rintro rfl
      exact e hd
    unfold Fy.off
    rw [if_neg this]
    exact s.there a e
theorem snf_lcm {A : Agr} {E : L2.St → XK} {X : Cx} (o : XOk xr T fa fd ps k A E X) {x : Ex} {elt : Expr} {c : Comprehension} {cs : List Comprehension} {g : Gen} {own : List Nat} {scope : Scope} {pos : Pos} (hz : c.is_async = 0)
    (hb : blkC A.N A.sc scope (ownS A.N own) = true) (hg : OkG xr T fa fd ps k C A (A.blk scope) g (c :: cs)) (he : OkE xr T fa fd ps k C (A.blk scope) x elt) : PE X (.ListComp elt (c :: cs) scope pos) (tF X xr E C (.lcm x own g)) := by
  refine ⟨fun pz s sg H Q I h => ?_⟩
  rw [eval_ListComp]
  have e1 := async_no (cs := cs) hz
  have e2 := first_it (c := c) (cs := cs) (env := X.env)
  rw [e1, e2]
  refine lcm_core0 (Q := Q) (use := none) (Qf := EP X pz sg Q) (QF := fun s F' _ _ H' => GiveN X.K F' H' Q s) o hb hg he I (fun Fa ρa sta Ha acc F ρ st H ho D hD rl an sd ao q => ?_) h fun D C s' m H' I' q hn f => ⟨m, hn, fun h'' sb => ?_⟩
  · obtain ⟨vs, rfl, r⟩ := ao
    have z := q F ρ (off H D) (sd.off rl) (an.off hD) D vs off_at r
    rw [off_put sd.at_] at z
    exact z
  · obtain ⟨f0, f1, f2, f3, f4, f5⟩ := f
    (exact ⟨.ref D, H', I'.turned (t' := s'.toks) (fun b o hb e => (sb.2 b hb).trans e) f0 f1 f3 f4 f5, rfl, q⟩)
theorem snf_dcm {A : Agr} {E : L2.St → XK} {X : Cx} (o : XOk xr T fa fd ps k A E X) {x y : Ex} {kx vx : Expr} {c : Comprehension} {cs : List Comprehension} {g : Gen} {own : List Nat} {scope : Scope} {pos : Pos} (hz : c.is_async = 0)
    (hb : blkC A.N A.sc scope (ownS A.N own) = true) (hg : OkG xr T fa fd ps k C A (A.blk scope) g (c :: cs)) (he : OkE xr T fa fd ps k C (A.blk scope) x kx) (hv : OkE xr T fa fd ps k C (A.blk scope) y vx) : PE X (.DictComp kx vx (c :: cs) scope pos) (tF X xr E C (.dcm x y own g)) := by
  refine ⟨fun pz s sg H Q I h => ?_⟩
  show wpAny _ _ (comprehension (.DictComp kx vx (c :: cs) scope pos) scope X.env (firstIterPos (c :: cs) pos) newDict (firstAsync (c :: cs)) (firstIter (c :: cs) X.env)) _ _ _
  have e1 := async_no (cs := cs) hz
  have e2 := first_it (c := c) (cs := cs) (env := X.env)
  rw [e1, e2]
  refine dcm_core0 (Q := Q) (use := none) (Qf := EP X pz sg Q) (QF := fun s F' _ _ H' => GiveN X.K F' H' Q s) o hb hg he hv I (fun Fa ρa sta Ha acc F ρ st H ho D hD rl an sd ao q => ?_) h fun D C s' m H' I' q hn f => ⟨m, hn, fun h'' sb => ?_⟩
  · obtain ⟨vs, rfl, r, _⟩ := ao
    have z := q F ρ (off H D) (sd.off rl) (an.off hD) D vs off_at r
    rw [off_put sd.at_] at z
    exact z
  · obtain ⟨f0, f1, f2, f3, f4, f5⟩ := f
    (exact ⟨.ref D, H', I'.turned (t' := s'.toks) (fun b o hb e => (sb.2 b hb).trans e) f0 f1 f3 f4 f5, rfl, q⟩)
/-- a value, then its test -/
theorem pe_both {A : Agr} {x : Ex} {e : Expr} (h : ∀ E X, XOk xr T fa fd ps k A E X → PE X e (tE X xr E C x)) (hp : ∀ (env : PySem.Env) (whole : Sem Value), isTrue e env whole = (do let v ← whole; standAt e.pos; holding [v] (truthy v))) : OkE xr T fa fd ps k C A x e :=
  fun E X o => ⟨h E X o, pt_plain (h E X o) (hp X.env)⟩
theorem okG_async {A B : Agr} {g : Gen} {c : Comprehension} {cs : List Comprehension} (h : OkG xr T fa fd ps k C A B g (c :: cs)) : c.is_async = 0 := by
  cases g with
  | nil => cases h
  | cons p i ifs g =>
    obtain ⟨c', cs', e, _, _, _, h, _⟩ := h
    cases e
    exact h
theorem fresh_plain {A : Agr} {y : Ex} {e : Expr} (hf : y.fresh = true) (h : agE A y e = true) : ∀ (env : PySem.Env) (whole : Sem Value), isTrue e env whole = (do let v ← whole; standAt e.pos; holding [v] (truthy v)) := by
  intro env whole
  cases e with
  | BoolOp op es pos => cases y <;> first | cases hf; done | cases h; done | (rename_i b _ _; cases b <;> cases h) | (rename_i b _; cases b <;> cases h)
  | Compare a os bs pos => cases y <;> first | cases hf; done | cases h; done | (rename_i b _ _; cases b <;> cases h) | (rename_i b _; cases b <;> cases h)
  | IfExp a b c pos => cases y <;> first | cases hf; done | cases h; done | (rename_i b _ _; cases b <;> cases h) | (rename_i b _; cases b <;> cases h)
  | UnaryOp op a pos => cases y <;> first | cases hf; done | cases h; done | (rename_i b _ _; cases b <;> cases h) | (rename_i b _; cases b <;> cases h)
  | _ => rfl
mutual
theorem sndE (ev : EvOk T k C) : ∀ (x : Ex) (A : Agr) (e : Expr), agE A x e = true → OkE xr T fa fd ps k C A x e
  | .var i, A, e, h => by
    cases e with
    | Name n p => exact pe_both (fun E X o => snd_var o h) fun _ _ => rfl
    | _ => cases h
  | .cst p, A, e, h => by
    cases e with
    | Constant c kk pos => exact pe_both (fun E X o => snd_cst h) fun _ _ => rfl
    | _ => cases h
  | .glo g, A, e, h => by
    cases e with
    | Name n p => exact pe_both (fun E X o => snd_glo o ev.glo h) fun _ _ => rfl
    | _ => cases h
  | .tup es, A, e, h => by
    cases e with
    | Tuple xs kk pos =>
      have h' := and_split (a := agEs A es xs) h
      exact pe_both (fun E X o => snd_tup (A := A) h (sndEs ev es A xs h'.1 E X o).pa) fun _ _ => rfl
    | _ => cases h
  | .lst es, A, e, h => by
    cases e with
    | List xs pos =>
      have h' := and_split (a := agEs A es xs) h
      exact pe_both (fun E X o => snd_lst (A := A) h (sndEs ev es A xs h'.1 E X o).pa) fun _ _ => rfl
    | _ => cases h
  | .bin op a b, A, e, h => by
    cases e with
    | BinOp x o y pos =>
      have h : (decide (o = opB op) && op.known && agE A a x && agE A b y) = true := h
      simp only [decide_eq_true_eq, Bool.and_eq_true] at h
      obtain ⟨⟨⟨rfl, h2⟩, h3⟩, h4⟩ := h
      exact pe_both (fun E X o => snd_bin h2 (sndE ev a A x h3 E X o).1 (sndE ev b A y h4 E X o).1) fun _ _ => rfl
    | _ => cases h
  | .neg a, A, e, h => by
    have h : (match (generalizing := false) e with | .UnaryOp .USub x _ => agE A a x | _ => false) = true := h
    split at h
    · exact pe_both (fun E X o => snd_neg (sndE ev a A _ h E X o).1) fun _ _ => rfl
    · cases h
  | .cmp op a b, A, e, h => by
    have h : (match (generalizing := false) e with | .Compare x [o] [y] _ => decide (o = opC op) && agE A a x && agE A b y | _ => false) = true := h
    split at h
    · simp only [decide_eq_true_eq, Bool.and_eq_true] at h
      obtain ⟨⟨rfl, h3⟩, h4⟩ := h
      exact fun E X o => snd_cmp o (okE_plain h4) (sndE ev a A _ h3 E X o).1 (sndE ev b A _ h4 E X o).1
    · cases h
  | .cmp2 o1 o2 a b c, A, e, h => by
    have h : (match (generalizing := false) e with | .Compare x [p1, p2] [y, z] _ => decide (p1 = opC o1) && decide (p2 = opC o2) && agE A a x && agE A b y && agE A c z | _ => false) = true := h
    split at h
    · simp only [decide_eq_true_eq, Bool.and_eq_true] at h
      obtain ⟨⟨⟨⟨rfl, rfl⟩, h3⟩, h4⟩, h5⟩ := h
      exact fun E X o => snd_cmp2 o (okE_plain h5) (sndE ev a A _ h3 E X o).1 (sndE ev b A _ h4 E X o).1 (sndE ev c A _ h5 E X o).1
    · cases h
  | .and a es, A, e, h => by
    have h : (match (generalizing := false) e with | .BoolOp .And (x :: xs) _ => agE A a x && agEs A es xs | _ => false) = true := h
    split at h
    · obtain ⟨h1, h2⟩ := and_split h
      exact fun E X o => snd_and (sndE ev a A _ h1 E X o).1 (sndE ev a A _ h1 E X o).2 (sndEs ev es A _ h2 E X o)
    · cases h
  | .or a es, A, e, h => by
    have h : (match (generalizing := false) e with | .BoolOp .Or (x :: xs) _ => agE A a x && agEs A es xs | _ => false) = true := h
    split at h
    · obtain ⟨h1, h2⟩ := and_split h
      exact fun E X o => snd_or (sndE ev a A _ h1 E X o).1 (sndE ev a A _ h1 E X o).2 (sndEs ev es A _ h2 E X o)
    · cases h
  | .not a, A, e, h => by
    have h : (match (generalizing := false) e with | .UnaryOp .Not x _ => agE A a x | _ => false) = true := h
    split at h
    · exact fun E X o => snd_not (sndE ev a A _ h E X o).1 (sndE ev a A _ h E X o).2
    · cases h
  | .ife c a b, A, e, h => by
    cases e with
    | IfExp z x y pos =>
      have h : (agE A c z && agE A a x && agE A b y) = true := h
      (simp only [Bool.and_eq_true] at h)
      exact fun E X o => snd_ife (sndE ev c A _ h.1.1 E X o).2 (sndE ev a A _ h.1.2 E X o).1 (sndE ev a A _ h.1.2 E X o).2 (sndE ev b A _ h.2 E X o).1 (sndE ev b A _ h.2 E X o).2
    | _ => cases h
  | .idx a i, A, e, h => by
    cases e with
    | Subscript x y pos =>
      obtain ⟨h1, h2⟩ := and_split (a := agE A a x) h
      exact pe_both (fun E X o => snd_idx o (okE_plain h2) (sndE ev a A _ h1 E X o).1 (sndE ev i A _ h2 E X o).1) fun _ _ => rfl
    | _ => cases h
  | .slc a lo hi, A, e, h => by
    have h : (match (generalizing := false) e with | .Subscript x (.Slice l h none _) _ => agE A a x && agO A lo l && agO A hi h | _ => false) = true := h
    split at h
    · simp only [Bool.and_eq_true] at h
      exact pe_both (fun E X o => snd_slc (sndE ev a A _ h.1.1 E X o).1 (sndO ev lo A _ h.1.2 E X o) (sndO ev hi A _ h.2 E X o)) fun _ _ => rfl
    · cases h
  | .rev a, A, e, h => by
    have h : (match (generalizing := false) e with | .Subscript x (.Slice none none (some (.UnaryOp .USub (.Constant (.int 1) _ _) _)) _) _ => agE A a x | _ => false) = true := h
    split at h
    · exact pe_both (fun E X o => snd_rev (sndE ev a A _ h E X o).1) fun _ _ => rfl
    · cases h
  | .isi a ts many, A, e, h => by
    have h0 := h
    have h : (match (generalizing := false) e with
      | .Call (.Name f _) [x, t] [] _ => decide (f = PySem.Str.ofString "isinstance") && bltC A f && agE A a x && (if many then (match (generalizing := false) t with | .Tuple es _ _ => tyC A ts es && decide (es.length ≤ 1000) | _ => false) else tyC A ts [t])
      | _ => false) = true := h
    split at h
    · obtain ⟨h1, _⟩ := and_split h
      obtain ⟨_, h2⟩ := and_split h1
      exact pe_both (fun E X o => snd_isi o h0 (okE_plain h2) (sndE ev a A _ h2 E X o).1) fun _ _ => rfl
    · cases h
  | .blt b es, A, e, h => by
    have h : (match (generalizing := false) e with | .Call (.Name f _) (x :: xs) [] _ => decide (f = bltN b) && b.known && bltC A f && agEs A es (x :: xs) | _ => false) = true := h
    split at h
    · simp only [decide_eq_true_eq, Bool.and_eq_true] at h
      (obtain ⟨⟨⟨h1, h2⟩, h3⟩, h4⟩ := h)
      exact pe_both (fun E X o => snd_blt o h1 h2 h3 (sndEs ev es A _ h4 E X o)) fun _ _ => rfl
    · cases h
  | .mth m ob es, A, e, h => by
    have h : (match (generalizing := false) e with
      | .Call (.Attribute x f p1) xs [] p2 => decide (f = mthN m) && m.known && (p1.endLine == p2.line) && agE A ob x && agEs A es xs && decide (xs.length ≤ 2)
      | _ => false) = true := h
    split at h
    · simp only [decide_eq_true_eq, Bool.and_eq_true] at h
      obtain ⟨⟨⟨⟨⟨rfl, h2⟩, h3⟩, h4⟩, h5⟩, h6⟩ := h
      exact pe_both (fun E X o => snd_mth o h2 (okE_plain h4) h3 h6 (sndE ev ob A _ h4 E X o).1 (sndEs ev es A _ h5 E X o)) fun _ _ => rfl
    · cases h
  | .cal f es, A, e, h => by
    have h : (match (generalizing := false) e with | .Call (.Name x _) xs [] _ => decide (A.fns[f]? = some x) && glC A.sc x && okN x && !(x == ("super" : Str)) && agEs A es xs | _ => false) = true := h
    split at h
    · simp only [decide_eq_true_eq, Bool.and_eq_true] at h
      obtain ⟨⟨⟨⟨h1, h2⟩, h3⟩, _⟩, h4⟩ := h
      exact pe_both (fun E X o => snd_cal o ev h1 h2 h3 (sndEs ev es A _ h4 E X o) fun env st ss st' e => evEs_len (A := A) h4 e) fun _ _ => rfl
    · cases h
  | .lcm x own g, A, e, h => by
    cases e with
    | ListComp elt gs scope pos =>
      have h : (blkC A.N A.sc scope (ownS A.N own) && agE (A.blk scope) x elt && agG A (A.blk scope) g gs && !gs.isEmpty) = true := h
      (simp only [Bool.and_eq_true] at h)
      (obtain ⟨⟨⟨h1, h2⟩, h3⟩, h4⟩ := h)
      cases gs with
      | nil => cases h4
      | cons c cs =>
        have og := sndG ev g A (A.blk scope) (c :: cs) h3
        exact pe_both (fun E X o => snd_lcm o (okG_async og) h1 og (sndE ev x (A.blk scope) elt h2)) fun _ _ => rfl
    | _ => cases h
  | .dcm x y own g, A, e, h => by
    cases e with
    | DictComp kx vx gs scope pos =>
      have h : (blkC A.N A.sc scope (ownS A.N own) && agE (A.blk scope) x kx && agE (A.blk scope) y vx && agG A (A.blk scope) g gs && !gs.isEmpty) = true := h
      (simp only [Bool.and_eq_true] at h)
      obtain ⟨⟨⟨⟨h1, h2⟩, h2'⟩, h3⟩, h4⟩ := h
      cases gs with
      | nil => cases h4
      | cons c cs =>
        have og := sndG ev g A (A.blk scope) (c :: cs) h3
        exact pe_both (fun E X o => snd_dcm o (okG_async og) h1 og (sndE ev x (A.blk scope) kx h2) (sndE ev y (A.blk scope) vx h2')) fun _ _ => rfl
    | _ => cases h
  | .scm x own g, A, e, h => by
    have h : (match (generalizing := false) e with
      | .Call (.Name f _) [.SetComp z gs scope _] [] _ => decide (f = PySem.Str.ofString "sorted") && bltC A f && blkC A.N A.sc scope (ownS A.N own) && agE (A.blk scope) x z && agG A (A.blk scope) g gs && !gs.isEmpty
      | _ => false) = true := h
    split at h
    · rename_i f p0 elt gs scope p1 p2 _
      simp only [decide_eq_true_eq, Bool.and_eq_true] at h
      obtain ⟨⟨⟨⟨⟨h1, h2⟩, h3⟩, h4⟩, h5⟩, h6⟩ := h
      cases gs with
      | nil => cases h6
      | cons c cs =>
        have og := sndG ev g A (A.blk scope) (c :: cs) h5
        exact pe_both (fun E X o => PE.imp (pe_asked o h1 h2 (plain_of rfl) (pe_scm o (okG_async og) h3 og (sndE ev x (A.blk scope) elt h4))) fun sg H Q ⟨env, F, ρ, st, rl, eo, q⟩ => scm_te hands_qv rl eo q) fun _ _ => rfl
    · cases h
  | .sst a, A, e, h => by
    have h : (match (generalizing := false) e with
      | .Call (.Name f _) [.Call (.Name g _) [x] [] _] [] _ => decide (f = PySem.Str.ofString "sorted") && bltC A f && decide (g = PySem.Str.ofString "set") && bltC A g && agE A a x
      | _ => false) = true := h
    split at h
    · simp only [decide_eq_true_eq, Bool.and_eq_true] at h
      obtain ⟨⟨⟨⟨h1, h2⟩, h3⟩, h4⟩, h5⟩ := h
      exact pe_both (fun E X o => PE.imp (pe_asked o h1 h2 (plain_of rfl) (pe_set1 o h3 h4 (okE_plain h5) (sndE ev a A _ h5 E X o).1)) fun sg H Q ⟨env, F, ρ, st, rl, eo, q⟩ => sst_te hands_qv rl eo q) fun _ _ => rfl
    · cases h
  | .lsn a, A, e, h => by
    have h : (match (generalizing := false) e with
      | .Call (.Name f _) [.Call (.Name g _) [x] [] _] [] _ => decide (f = PySem.Str.ofString "len") && bltC A f && decide (g = PySem.Str.ofString "set") && bltC A g && agE A a x
      | _ => false) = true := h
    split at h
    · simp only [decide_eq_true_eq, Bool.and_eq_true] at h
      obtain ⟨⟨⟨⟨h1, h2⟩, h3⟩, h4⟩, h5⟩ := h
      exact pe_both (fun E X o => PE.imp (pe_count o h1 h2 (plain_of rfl) (pe_set1 o h3 h4 (okE_plain h5) (sndE ev a A _ h5 E X o).1)) fun sg H Q ⟨env, F, ρ, st, rl, eo, q⟩ => lsn_te rl eo q) fun _ _ => rfl
    · cases h
  | .emp, A, e, h => by
    have h : (match (generalizing := false) e with | .Dict [] [] _ => true | _ => false) = true := h
    split at h
    · exact pe_both (fun E X o => snd_emp) fun _ _ => rfl
    · cases h
  | .new y, A, e, h => by
    obtain ⟨hf, h⟩ := and_split (a := y.fresh) h
    have hp : ∀ (env : PySem.Env) (whole : Sem Value), isTrue e env whole = (do let v ← whole; standAt e.pos; holding [v] (truthy v)) := fresh_plain hf h
    match y, e, hf, h, hp with
    | .lst es, .List xs pos, _, h, hp =>
      have h' := and_split (a := agEs A es xs) h
      exact pe_both (fun E X o => snd_new (snf_lst (A := A) h (sndEs ev es A xs h'.1 E X o).pa)) hp
    | .emp, .Dict [] [] _, _, _, hp => exact pe_both (fun E X o => snd_new snf_emp) hp
    | .bin .add a b, .BinOp x op y pos, _, h, hp =>
      have h : (decide (op = .Add) && true && agE A a x && agE A b y) = true := h
      simp only [decide_eq_true_eq, Bool.and_eq_true] at h
      obtain ⟨⟨⟨h1, _⟩, h3⟩, h4⟩ := h
      subst h1
      exact pe_both (fun E X o => snd_new (snf_cat (sndE ev a A x h3 E X o).1 (sndE ev b A y h4 E X o).1)) hp
    | .blt .lst es, .Call (.Name f p) (x :: xs) [] pos, _, h, hp =>
      have h : (decide (f = bltN .lst) && true && bltC A f && agEs A es (x :: xs)) = true := h
      simp only [decide_eq_true_eq, Bool.and_eq_true] at h
      obtain ⟨⟨⟨h1, _⟩, h3⟩, h4⟩ := h
      exact pe_both (fun E X o => snd_new (snf_list o h1 h3 (sndEs ev es A _ h4 E X o))) hp
    | .lcm x own g, .ListComp elt (c :: cs) scope pos, _, h, hp =>
      have h : (blkC A.N A.sc scope (ownS A.N own) && agE (A.blk scope) x elt && agG A (A.blk scope) g (c :: cs) && true) = true := h
      (simp only [Bool.and_eq_true] at h)
      (obtain ⟨⟨⟨h1, h2⟩, h3⟩, h4⟩ := h)
      have og := sndG ev g A (A.blk scope) (c :: cs) h3
      exact pe_both (fun E X o => snd_new (snf_lcm o (okG_async og) h1 og (sndE ev x (A.blk scope) elt h2))) hp
    | .dcm x y own g, .DictComp kx vx (c :: cs) scope pos, _, h, hp =>
      have h : (blkC A.N A.sc scope (ownS A.N own) && agE (A.blk scope) x kx && agE (A.blk scope) y vx && agG A (A.blk scope) g (c :: cs) && true) = true := h
      (simp only [Bool.and_eq_true] at h)
      obtain ⟨⟨⟨⟨h1, h2⟩, h2'⟩, h3⟩, h4⟩ := h
      have og := sndG ev g A (A.blk scope) (c :: cs) h3
      exact pe_both (fun E X o => snd_new (snf_dcm o (okG_async og) h1 og (sndE ev x (A.blk scope) kx h2) (sndE ev y (A.blk scope) vx h2'))) hp
    | .lcm _ _ _, .ListComp _ [] _ _, _, h, _ => exact absurd h (by intro h; have h := (and_split h).2; cases h)
    | .dcm _ _ _ _, .DictComp _ _ [] _ _, _, h, _ => exact absurd h (by intro h; have h := (and_split h).2; cases h)
theorem sndEs (ev : EvOk T k C) : ∀ (x : Exs) (A : Agr) (e : List Expr), agEs A x e = true → OkEs xr T fa fd ps k C A x e
  | .nil, A, e, h => by
    cases e with
    | nil => exact fun _ _ _ => trivial
    | cons _ _ => cases h
  | .cons x xs, A, e, h => by
    cases e with
    | nil => cases h
    | cons e es =>
      obtain ⟨h1, h2⟩ := and_split (a := agE A x e) h
      exact fun E X o => ⟨okE_plain h1, (sndE ev x A e h1 E X o).1, (sndE ev x A e h1 E X o).2, sndEs ev xs A es h2 E X o⟩
theorem sndO (ev : EvOk T k C) : ∀ (x : Ox) (A : Agr) (e : Option Expr), agO A x e = true → ∀ E X, XOk xr T fa fd ps k A E X → PO X e (tOx X xr E C x)
  | .no, A, e, h => by
    cases e with
    | none => exact fun _ _ _ => snd_ono
    | some _ => cases h
  | .yes x, A, e, h => by
    cases e with
    | none => cases h
    | some e => exact fun E X o => snd_oyes (sndE ev x A e h E X o).1
theorem sndI (ev : EvOk T k C) : ∀ (x : It) (A : Agr) (e t : Expr), agI A x e t = true → OkI xr T fa fd ps k C A x e t ∧ ∀ env y, foldedSetIterable e env y = pure y
  | .val a, A, e, t, h => ⟨fun E X o => sni_val (sndE ev a A e h E X o).1, fun env y => (okE_plain h).fold env y⟩
  | .rng1 a, A, e, t, h => by
    have h : (match (generalizing := false) e with | .Call (.Name f _) [x] [] _ => decide (f = PySem.Str.ofString "range") && bltC A f && agE A a x | _ => false) = true := h
    split at h
    · simp only [decide_eq_true_eq, Bool.and_eq_true] at h
      exact ⟨fun E X o => sni_rng1 o h.1.1 h.1.2 (okE_plain h.2) (sndE ev a A _ h.2 E X o).1, fun _ _ => rfl⟩
    · cases h
  | .rng2 a b, A, e, t, h => by
    have h : (match (generalizing := false) e with | .Call (.Name f _) [x, y] [] _ => decide (f = PySem.Str.ofString "range") && bltC A f && agE A a x && agE A b y | _ => false) = true := h
    split at h
    · simp only [decide_eq_true_eq, Bool.and_eq_true] at h
      exact ⟨fun E X o => sni_rng2 o h.1.1.1 h.1.1.2 (okE_plain h.1.2) (okE_plain h.2) (sndE ev a A _ h.1.2 E X o).1 (sndE ev b A _ h.2 E X o).1, fun _ _ => rfl⟩
    · cases h
  | .zip a b, A, e, t, h => by
    have h : (match (generalizing := false) e with | .Call (.Name f _) [x, y] [] _ => decide (f = PySem.Str.ofString "zip") && bltC A f && agE A a x && agE A b y && isTupE t | _ => false) = true := h
    split at h
    · simp only [decide_eq_true_eq, Bool.and_eq_true] at h
      obtain ⟨es, kk, p, rfl⟩ := isTup_of h.2
      exact ⟨fun E X o => sni_zip o h.1.1.1.1 h.1.1.1.2 (okE_plain h.1.1.2) (okE_plain h.1.2) (sndE ev a A _ h.1.1.2 E X o).1 (sndE ev b A _ h.1.2 E X o).1, fun _ _ => rfl⟩
    · cases h
  | .enm a, A, e, t, h => by
    have h : (match (generalizing := false) e with | .Call (.Name f _) [x] [] _ => decide (f = PySem.Str.ofString "enumerate") && bltC A f && agE A a x && isTupE t | _ => false) = true := h
    split at h
    · simp only [decide_eq_true_eq, Bool.and_eq_true] at h
      obtain ⟨es, kk, p, rfl⟩ := isTup_of h.2
      exact ⟨fun E X o => sni_enm o h.1.1.1 h.1.1.2 (okE_plain h.1.2) (sndE ev a A _ h.1.2 E X o).1, fun _ _ => rfl⟩
    · cases h
  | .itm _, _, _, _, h => by cases h
theorem sndG (ev : EvOk T k C) : ∀ (g : Gen) (A B : Agr) (cs : List Comprehension), agG A B g cs = true → OkG xr T fa fd ps k C A B g cs
  | .nil, A, B, cs, h => by
    cases cs with
    | nil => rfl
    | cons _ _ => cases h
  | .cons p i ifs g, A, B, cs, h => by
    cases cs with
    | nil => cases h
    | cons c cs =>
      have h : (agP B p c.target && agI A i c.iter c.target && agEs B ifs c.ifs && (c.is_async == 0) && agG B B g cs) = true := h
      (simp only [Bool.and_eq_true] at h)
      obtain ⟨⟨⟨⟨h1, h2⟩, h3⟩, h4⟩, h5⟩ := h
      have oi := sndI ev i A c.iter c.target h2
      exact ⟨c, cs, rfl, h1, oi.1, sndEs ev ifs B c.ifs h3, by simpa using h4, oi.2, sndG ev g B B cs h5⟩
end
end
end Fy

/-! Fy15: statements: when they agree; what they do. -/
namespace Fy
open PySem
open PySem.Spec
open PyProof.Rows
open L2

/-! ### agreement -/
def compOf : Expr → Option (Scope × Pos)
  | .ListComp _ _ sc p => some (sc, p)
  | .DictComp _ _ _ sc p => some (sc, p)
  | .SetComp _ _ sc p => some (sc, p)
  | _ => none
def plainC2 : Ex → Bool
  | .lcm .. => true
  | .dcm .. => true
  | _ => false
/-- a name is stored: what stands behind it -/
def asgC (A : Agr) (e : Ex) (y : Str) (py : Pos) (v : Expr) : Bool :=
  match compOf v with
  | none => locC A y
  | some (sc, p) =>
    if py.line == p.line then plainC2 e && decide (A.sc.names.lookup y = some .local) && (match A.sc.kind with | .function => true | _ => false) && !(sc.names.any fun (n, k) => n == y && (k == .local || k == .cell)) || (locC A y && !decide (A.sc.names.lookup y = some .local))
    else locC A y
/-- nothing is stored the other way round -/
def swNo : Expr → Bool
  | .Tuple vs _ _ => vs.all (foldedForSure 8) && !(vs.any fun | .Starred .. => true | _ => false)
  | _ => true
def swYes (A : Agr) (x y : Str) (px py : Pos) (a b : Expr) : Bool :=
  decide (A.sc.names.lookup x = some .local) && decide (A.sc.names.lookup y = some .local) && decide (x ≠ y) && (py.line == px.line) && (match A.sc.kind with | .function => true | _ => false) &&
    plainC a && plainC b && !(foldedForSure 8 a && foldedForSure 8 b) && !(constantsAlone 8 a && constantsAlone 8 b)
mutual
def agS (A : Agr) : St → Stmt → Bool
  | .asg i e, s => match s with | .Assign [.Name y py] v _ => decide (A.N[i]? = some y) && agE A e v && asgC A e y py v | _ => false
  | .asgP p e, s => match s with | .Assign [.Tuple ts kk tp] v _ => agP A p (.Tuple ts kk tp) && agE A e v && swNo v | _ => false
  | .par i j a b, s => match s with
    | .Assign [.Tuple [.Name x px, .Name y py] _ _] (.Tuple [u, v] _ _) _ => decide (A.N[i]? = some x) && decide (A.N[j]? = some y) && agE A a u && agE A b v && swYes A x y px py u v
    | _ => false
  | .seti o i e, s => match s with | .Assign [.Subscript x y _] v _ => agE A o x && agE A i y && agE A e v | _ => false
  | .sets o l h e, s => match s with | .Assign [.Subscript x (.Slice (some y) (some z) none _) _] v _ => agE A o x && agE A l y && agE A h z && agE A e v | _ => false
  | .expr e, s => match s with | .Expr v _ => agE A e v && (compOf v).isNone | _ => false
  | .ite c a b, s => match s with | .If z x y _ => agE A c z && agSs A a x && agSs A b y | _ => false
  | .whl c b, s => match s with | .While z x [] _ => agE A c z && agSs A b x | _ => false
  | .for_ p i b, s => match s with | .For t z x [] _ => agP A p t && agI A i z t && agSs A b x | _ => false
  | .ret e, s => match s with | .Return (some v) _ => agE A e v | .Return none _ => (match e with | .cst .non => true | _ => false) | _ => false
  | .pass, s => match s with | .Pass _ => true | _ => false
  | .brk, s => match s with | .Break _ => true | _ => false
  | .cont, s => match s with | .Continue _ => true | _ => false
  | .frz _, _ => false
def agSs (A : Agr) : Sts → List Stmt → Bool
  | .nil, es => match es with | [] => true | _ => false
  | .cons s ss, es => match s with
    | .frz _ => agSs A ss es
    | _ => match es with | e :: es => agS A s e && agSs A ss es | [] => false
end

/-! ### a def's store, cut back -/
section
variable {K : PySem.W.Frag} {F H : Hp} {ρ : List Addr} {st : Sto}
theorem Own.take {n : Nat} {a : Addr} (h : Own F (ρ.take n) (st.take n) a) : Own F ρ st a := by
  rcases h with h | ⟨k, c, h1, h2, h3⟩
  · exact .inl h
  · have hk : k < n := by
      have := (List.getElem?_eq_some_iff.mp h1).1
      rw [List.length_take] at this
      omega
    rw [List.getElem?_take_of_lt hk] at h1 h3
    exact .inr ⟨k, c, h1, h2, h3⟩
theorem Rel.take (rl : Rel K F ρ st H) (n : Nat) : Rel K F (ρ.take n) (st.take n) H := by
  have lt : ∀ {k : Nat} {c : Cell}, (st.take n)[k]? = some c → k < n ∧ st[k]? = some c := fun {k c} e => by
    have hk : k < n := by
      have := (List.getElem?_eq_some_iff.mp e).1
      rw [List.length_take] at this
      omega
    rw [List.getElem?_take_of_lt hk] at e
    exact ⟨hk, e⟩
  refine ⟨by rw [List.length_take, List.length_take, rl.len], rl.sub, fun k c e hl => ?_, fun m k cm ck a h1 h2 h3 h4 h5 h6 => ?_⟩
  · obtain ⟨hk, e⟩ := lt e
    obtain ⟨a, ho, g1, g2, g3, g4⟩ := rl.cell k c e hl
    exact ⟨a, ho, by rw [List.getElem?_take_of_lt hk]; exact g1, g2, g3, g4⟩
  · obtain ⟨k1, h1⟩ := lt h1
    obtain ⟨k2, h3⟩ := lt h3
    rw [List.getElem?_take_of_lt k1] at h5
    rw [List.getElem?_take_of_lt k2] at h6
    exact rl.inj m k cm ck a h1 h2 h3 h4 h5 h6
theorem Step.take {b n : Nat} {Fa : Hp} {ρa : List Addr} {sta : Sto} {Ha : Hp} (s : Step b Fa ρa sta Ha F ρ st H) (h : b ≤ n) : Step b Fa ρa sta Ha F (ρ.take n) (st.take n) H := by
  refine ⟨s.ext, fun k a hk e => ?_, ?_, s.keep, fun a e z => s.own a e z.take, s.there⟩
  · rw [List.getElem?_take_of_lt (by omega)]
    exact s.pre k a hk e
  · have := s.len
    rw [List.length_take]
    omega
end
/-! ### a cell becomes data -/
theorem any_false {α : Type} {p : α → Bool} {l : List α} (h : l.any p = false) {i : Nat} {x : α} (e : l[i]? = some x) : p x = false := by
  rw [List.any_eq_false] at h
  have := h x (List.mem_of_getElem? e)
  simpa using this
theorem frz_ok {K : PySem.W.Frag} {F H : Hp} {ρ : List Addr} {st : Sto} {env : Env} {sg : L2.St} {base i : Nat} {r : Flow × Env} {st' : Sto} {Fa : Hp} {ρa : List Addr} {sta : Sto} {Ha : Hp} (e : freeze base i env st = .ok r st') (rl : Rel K F ρ st H) (eo : EnvOk K F ρ st.length env sg) (sp : Step sta.length Fa ρa sta Ha F ρ st H) (hb : base = sta.length) :
    ∃ F' ρ', r.1 = .nx ∧ Rel K F' ρ' st' H ∧ EnvOk K F' ρ' st'.length r.2 sg ∧ Step sta.length Fa ρa sta Ha F' ρ' st' H := by
  unfold freeze at e
  split at e
  · rename_i n hn
    split at e
    · rename_i hc
      split at e
      · rename_i p hp
        split at e
        · cases e
        · rename_i hu
          cases e
          rw [Bool.not_eq_true, Bool.or_eq_false_iff] at hu
          obtain ⟨c, hc1, hc2⟩ := Option.bind_eq_some_iff.mp hp
          have hl : c.live := by
            cases c <;> first | trivial | cases hc2
          obtain ⟨a, ho, g1, g2, g3, g4⟩ := rl.cell n c hc1 hl
          have hrep : ∀ F', Sub F F' → F' a = some ho → Rep K F' (.ref a) p := fun F' s h => by
            cases c with
            | lst xs =>
              cases hc2
              obtain ⟨vs, rfl, r⟩ := g4
              exact .lst h (r.mono s)
            | dct xs =>
              cases hc2
              obtain ⟨vs, rfl, r⟩ := g4
              exact .dct h (r.mono s)
            | _ => cases hc2
          have lt : ∀ {k : Nat} {ck : Cell}, (st.take n)[k]? = some ck → k < n ∧ st[k]? = some ck := fun {k ck} e => by
            have hk : k < n := by
              have := (List.getElem?_eq_some_iff.mp e).1
              rw [List.length_take] at this
              omega
            rw [List.getElem?_take_of_lt hk] at e
            exact ⟨hk, e⟩
          have sF : Sub F (upd F a ho) := Sub.new g2
          have hlen : (st.take n).length = n := by
            rw [List.length_take]
            omega
          refine ⟨upd F a ho, ρ.take n, rfl, ?_, ?_, ?_⟩
          · have t := rl.take n
            refine ⟨t.len, fun b o hbo => ?_, fun k ck hk hlk => ?_, t.inj⟩
            · by_cases q : b = a
              · subst q
                rw [upd_same] at hbo
                cases hbo
                exact g3
              · rw [upd_ne q] at hbo
                exact rl.sub b o hbo
            · obtain ⟨b, h', q1, q2, q3, q4⟩ := t.cell k ck hk hlk
              obtain ⟨hk1, hk2⟩ := lt hk
              have hba : b ≠ a := by
                rintro rfl
                rw [List.getElem?_take_of_lt hk1] at q1
                have := rl.inj k n ck c b hk2 hlk hc1 hl q1 g1
                omega
              exact ⟨b, h', q1, by rw [upd_ne hba]; exact q2, q3, q4.mono sF⟩
          · rw [hlen]
            refine ⟨by rw [List.length_set]; exact eo.1, fun j s hj => ?_⟩
            by_cases q : i = j
            · subst q
              have hi : i < env.length := by
                have := (List.getElem?_eq_some_iff.mp hn).1
                exact this
              rw [List.getElem?_set_self hi] at hj
              cases hj
              obtain ⟨v, h1, h2, x, h3, h4⟩ := eo.2 i _ hn
              rw [g1] at h3
              cases h3
              subst h4
              exact ⟨_, h1, hrep _ sF upd_same⟩
            · rw [List.getElem?_set_ne q] at hj
              obtain ⟨v, h1, h2⟩ := eo.2 j s hj
              refine ⟨v, h1, ?_⟩
              cases s with
              | val p => exact Rep.mono sF h2
              | ref m =>
                obtain ⟨h3, x, h4, h5⟩ := h2
                have hmn : m ≠ n := by
                  rintro rfl
                  have z := any_false (i := j) (x := some (.ref m)) hu.1 (by rw [List.getElem?_set_ne q]; exact hj)
                  have z : (m == m) = false := z
                  simp at z
                have hm : m < n := by omega
                exact ⟨hm, x, by rw [List.getElem?_take_of_lt hm]; exact h4, h5⟩
          · have t := sp.take (n := n) (by omega)
            refine ⟨t.ext.trans sF, t.pre, t.len, t.keep, fun b hb' z => ?_, t.there⟩
            by_cases q : b = a
            · subst q
              exact sp.own b hb' (.inr ⟨n, c, hc1, hl, g1⟩)
            · refine t.own b hb' ?_
              rcases z with z | z
              · rw [upd_ne q] at z
                exact .inl z
              · exact .inr z
      · cases e
    · cases e
  · cases e

/-! ### the readings -/
/-- where a def was entered -/
structure An where
  F : Hp
  ρ : List Addr
  st : Sto
  H : Hp
def EndS (K : PySem.W.Frag) (D : Ends) : Flow × Env → Hp → List Addr → Sto → Hp → Prop := fun r F ρ st H =>
  match r.1 with
  | .nx => ∀ sg, EnvOk K F ρ st.length r.2 sg → D.nx sg H
  | .bk => ∀ sg, EnvOk K F ρ st.length r.2 sg → D.bk sg H
  | .ct => ∀ sg, EnvOk K F ρ st.length r.2 sg → D.ct sg H
  | .rt v => ∀ u, RepS K F ρ st.length u v → D.rt u H
section
variable (X : Cx) (xr : XR) (EX : XK) (C : Ev) (n : An)
structure Cur (env : Env) (F : Hp) (ρ : List Addr) (st : Sto) (H : Hp) (sg : L2.St) : Prop where
  rl : Rel X.K F ρ st H
  eo : EnvOk X.K F ρ st.length env sg
  sp : Step n.st.length n.F n.ρ n.st n.H F ρ st H
def tS (s : St) : TS := fun D sg H => ∃ env F ρ st, Cur X n env F ρ st H sg ∧ Post X.K xr EX n.F n.ρ n.st n.H (evS C s env st) (EndS X.K D)
def tSs (s : Sts) : TS := fun D sg H => ∃ env F ρ st, Cur X n env F ρ st H sg ∧ Post X.K xr EX n.F n.ρ n.st n.H (evSs C s env st) (EndS X.K D)
end
theorem PS.imp {X : Cx} {s : Stmt} {t t' : TS} (h : PS X s t) (hi : ∀ D sg H, t' D sg H → t D sg H) : PS X s t' := ⟨fun pz s sg H D I q => h.run pz s sg H D I (hi D sg H q)⟩
theorem PSs.imp {X : Cx} {s : List Stmt} {t t' : TS} (h : PSs X s t) (hi : ∀ D sg H, t' D sg H → t D sg H) : PSs X s t' := ⟨fun pz s sg H D I q => h.run pz s sg H D I (hi D sg H q)⟩
end Fy

/-! Fy16: every statement that agrees does what our language says. -/
namespace Fy
open PySem
open PySem.Spec
open PyProof.Rows
open L2

section
variable {xr : XR} {T : Tab} {fa : Nat → Addr} {fd : Nat → FuncData} {ps : Nat → List Str} {k : Nat} {A : Agr} {EX : XK} {X : Cx} {C : Ev} {n : An}
/-- in a def's body -/
structure FOk (xr : XR) (T : Tab) (fa : Nat → Addr) (fd : Nat → FuncData) (ps : Nat → List Str) (k : Nat) (A : Agr) (EX : XK) (X : Cx) : Prop where
  o : XOk xr T fa fd ps k A (fun _ => EX) X
  own : PassesOwn (model X.prog X.w) X.A X.env X.xe
section
variable {α : Type} {env : Env} {F H : Hp} {ρ : List Addr} {st : Sto} {sg : L2.St} {QQ : Flow × Env → Hp → List Addr → Sto → Hp → Prop}
theorem Cur.step (cu : Cur X n env F ρ st H sg) {F' H' : Hp} {ρ' : List Addr} {st' : Sto} (rl : Rel X.K F' ρ' st' H') (sp : Step st.length F ρ st H F' ρ' st' H') : Cur X n env F' ρ' st' H' sg := ⟨rl, cu.eo.step sp, cu.sp.trans sp cu.sp.len⟩
theorem Cur.expr (cu : Cur X n env F ρ st H sg) {e : Ex} {f : Sl → M (Flow × Env)} {Q : VK} (q : Post X.K xr EX n.F n.ρ n.st n.H (bnd (evE C e env) f st) QQ)
    (h : ∀ s F' ρ' st' H' v, Cur X n env F' ρ' st' H' sg → Step st.length F ρ st H F' ρ' st' H' → RepS X.K F' ρ' st'.length v s → Post X.K xr EX n.F n.ρ n.st n.H (f s st') QQ → Q v H') : tE X xr (fun _ => EX) C e sg H Q :=
  ⟨env, F, ρ, st, cu.rl, cu.eo, (q.at cu.sp).imp fun s F' ρ' st' H' rl' sp' ⟨an', q'⟩ v rv => h s F' ρ' st' H' v ⟨rl', cu.eo.step sp', an'⟩ sp' rv q'⟩
theorem Cur.test (cu : Cur X n env F ρ st H sg) {e : Ex} {f : Bool → M (Flow × Env)} {Q : Bool → Hp → Prop} (q : Post X.K xr EX n.F n.ρ n.st n.H (bnd (bnd (evE C e env) tru) f st) QQ)
    (h : ∀ b F' ρ' st' H', Cur X n env F' ρ' st' H' sg → Post X.K xr EX n.F n.ρ n.st n.H (f b st') QQ → Q b H') : tT X xr (fun _ => EX) C e sg H Q :=
  ⟨env, F, ρ, st, cu.rl, cu.eo, (q.at cu.sp).imp fun s F' ρ' st' H' rl' sp' ⟨an', q'⟩ => h s F' ρ' st' H' ⟨rl', cu.eo.step sp', an'⟩ q'⟩
theorem Cur.iter (cu : Cur X n env F ρ st H sg) {e : It} {f : List P → M (Flow × Env)} {R : L2.It → Hp → Prop} (q : Post X.K xr EX n.F n.ρ n.st n.H (bnd (evI C e env) f st) QQ)
    (h : ∀ xs F' ρ' st' H' J, Cur X n env F' ρ' st' H' sg → Wk X.K J xs F' → Post X.K xr EX n.F n.ρ n.st n.H (f xs st') QQ → R J H') : tI X xr (fun _ => EX) C e sg H R :=
  ⟨env, F, ρ, st, cu.rl, cu.eo, (q.at cu.sp).imp fun s F' ρ' st' H' rl' sp' ⟨an', q'⟩ J wk => h s F' ρ' st' H' J ⟨rl', cu.eo.step sp', an'⟩ wk q'⟩
end
theorem swaps_none {v : Expr} {t : Option Expr} {l : Nat} {env : PySem.Env} (h : compOf v = none) : swapsWith v t l env = pure false := by
  cases v <;> first | cases h; done | rfl
theorem swaps_tup {v : Expr} {ts : List Expr} {kk : Nat} {tp : Pos} {l : Nat} {env : PySem.Env} : swapsWithSole [.Tuple ts kk tp] v l env = pure false := by
  cases v <;> rfl
theorem comp_cases {v : Expr} {sc : Scope} {p : Pos} (h : compOf v = some (sc, p)) : (∃ e g, v = .ListComp e g sc p) ∨ (∃ a b g, v = .DictComp a b g sc p) ∨ ∃ e g, v = .SetComp e g sc p := by
  cases v <;> first
    | cases h; done
    | (cases h; exact .inl ⟨_, _, rfl⟩)
    | (cases h; exact .inr (.inl ⟨_, _, _, rfl⟩))
    | (cases h; exact .inr (.inr ⟨_, _, rfl⟩))
theorem agE_set {e : Ex} {x : Expr} {g : List Comprehension} {sc : Scope} {p : Pos} (h : agE A e (.SetComp x g sc p) = true) : False := by
  have : ∀ (e : Ex), agE A e (.SetComp x g sc p) = true → False := by
    intro e
    induction e using Ex.rec (motive_2 := fun _ => True) (motive_3 := fun _ => True) (motive_4 := fun _ => True) (motive_5 := fun _ => True) with
    | new y ih =>
      intro h
      exact ih (and_split (a := y.fresh) h).2
    | _ => first | trivial | (intro h; cases h)
  exact this e h
theorem swaps_cell {v : Expr} {scope : Scope} {py pos : Pos} {y : Str} {l : Nat} {env : PySem.Env} (hv : (∃ e g, v = .ListComp e g scope pos) ∨ ∃ a b g, v = .DictComp a b g scope pos) (hk : (env.kindOf y == some .local) = false) : swapsWith v (some (.Name y py)) l env = pure false := by
  unfold swapsWith
  rcases hv with ⟨_, _, rfl⟩ | ⟨_, _, _, rfl⟩
  · simp only [Expr.pos, hk, Bool.and_false, Bool.false_and]
  · simp only [Expr.pos, hk, Bool.and_false, Bool.false_and]
/-- x = e -/
theorem sns_asg (ev : EvOk T k C) (o : FOk xr T fa fd ps k A EX X) {i : Nat} {e : Ex} {y : Str} {py sp : Pos} {v : Expr} (h1 : A.N[i]? = some y) (h2 : agE A e v = true) (h3 : asgC A e y py v = true) : PS X (.Assign [.Name y py] v sp) (tS X xr EX C n (.asg i e)) := by
  have hN : X.N.Nodup := by
    rw [o.o.N]
    exact o.o.nd
  have hi : X.N[i]? = some y := by
    rw [o.o.N]
    exact h1
  have fin : ∀ {D : Ends} {sg : L2.St} {H : Hp}, tS X xr EX C n (.asg i e) D sg H → tE X xr (fun _ => EX) C e sg H (fun x H1 => D.nx (sg.set i (some x)) H1) := fun {D sg H} ⟨env, F, ρ, st, cu, q⟩ =>
    cu.expr (f := fun v => setSl env i v) q fun s F' ρ' st' H' v cu' _ rv q' => by
      unfold setSl at q'
      split at q'
      · exact q' F' ρ' H' cu'.rl cu'.sp _ (cu'.eo.set rv)
      · exact q'.elim
  have plain : locC A y = true → swapsWith v (some (.Name y py)) sp.line X.env = pure false → PS X (.Assign [.Name y py] v sp) (tS X xr EX C n (.asg i e)) := fun hl hs => by
    obtain ⟨l1, l2⟩ := loc_of o.o hl
    exact PS.imp (ps_set hN hi l1 (sndE ev e A v h2 _ X o.o).1 hs l2) fun D sg H h => fin h
  unfold asgC at h3
  split at h3
  · rename_i hc
    exact plain h3 (swaps_none hc)
  · rename_i sc p hc
    split at h3
    · rename_i hl
      rw [Bool.or_eq_true] at h3
      rcases h3 with h3 | h3
      rotate_left
      · rw [Bool.and_eq_true] at h3
        have hne : A.sc.names.lookup y ≠ some .local := by simpa using h3.2
        have hkf : (X.env.kindOf y == some .local) = false := by
          have e9 : X.env.kindOf y = A.sc.names.lookup y := by
            show X.env.scope.names.lookup y = _
            rw [o.o.sc]
          rw [e9]
          generalize A.sc.names.lookup y = q at hne
          cases q with
          | none => rfl
          | some z => cases z <;> first | rfl | exact absurd rfl hne
        rcases comp_cases hc with ⟨x, gs, rfl⟩ | ⟨a, b, gs, rfl⟩ | ⟨x, gs, rfl⟩
        · exact plain h3.1 (swaps_cell (.inl ⟨_, _, rfl⟩) hkf)
        · exact plain h3.1 (swaps_cell (.inr ⟨_, _, _, rfl⟩) hkf)
        · exact (agE_set h2).elim
      simp only [Bool.and_eq_true, decide_eq_true_eq, Bool.not_eq_true'] at h3
      obtain ⟨⟨⟨g1, g2⟩, g3⟩, g4⟩ := h3
      have hk : A.sc.kind = .function := by
        cases hq : A.sc.kind <;> rw [hq] at g3 <;> first | rfl | cases g3
      rcases comp_cases hc with ⟨x, gs, rfl⟩ | ⟨a, b, gs, rfl⟩ | ⟨x, gs, rfl⟩
      · cases e with
        | lcm x' own g =>
          have h2 : (blkC A.N A.sc sc (ownS A.N own) && agE (A.blk sc) x' x && agG A (A.blk sc) g gs && !gs.isEmpty) = true := h2
          simp only [Bool.and_eq_true] at h2
          obtain ⟨⟨⟨k1, k2⟩, k3⟩, k4⟩ := h2
          cases gs with
          | nil => cases k4
          | cons c cs =>
            have og := sndG (xr := xr) (fa := fa) (fd := fd) (ps := ps) ev g A (A.blk sc) (c :: cs) k3
            exact PS.imp (ss_lcm o.o (okG_async og) k1 og (sndE ev x' (A.blk sc) x k2) h1 g2 hk hl g4) fun D sg H h => fin h
        | dcm _ _ _ _ => cases h2
        | _ => cases g1
      · cases e with
        | lcm _ _ _ => cases h2
        | dcm x' y' own g =>
          have h2 : (blkC A.N A.sc sc (ownS A.N own) && agE (A.blk sc) x' a && agE (A.blk sc) y' b && agG A (A.blk sc) g gs && !gs.isEmpty) = true := h2
          simp only [Bool.and_eq_true] at h2
          obtain ⟨⟨⟨⟨k1, k2⟩, k2'⟩, k3⟩, k4⟩ := h2
          cases gs with
          | nil => cases k4
          | cons c cs =>
            have og := sndG (xr := xr) (fa := fa) (fd := fd) (ps := ps) ev g A (A.blk sc) (c :: cs) k3
            exact PS.imp (ss_dcm o.o (okG_async og) k1 og (sndE ev x' (A.blk sc) a k2) (sndE ev y' (A.blk sc) b k2') h1 g2 hk hl g4) fun D sg H h => fin h
        | _ => cases g1
      · exact (agE_set h2).elim
    · rename_i hl
      refine plain h3 ?_
      have hl : (py.line == p.line) = false := by simpa using hl
      rcases comp_cases hc with ⟨x, gs, rfl⟩ | ⟨a, b, gs, rfl⟩ | ⟨x, gs, rfl⟩
      · exact swaps_not (.inl ⟨_, _, rfl⟩) hl
      · exact swaps_not (.inr ⟨_, _, _, rfl⟩) hl
      · exact (agE_set h2).elim
theorem sw_no {v : Expr} {ts : List Expr} {kk : Nat} {tp : Pos} {env : PySem.Env} (h : swNo v = true) : swappedStores [.Tuple ts kk tp] v env = pure none := by
  cases v with
  | Tuple vs k2 p2 =>
    have h : (vs.all (foldedForSure 8) && !(vs.any fun | .Starred .. => true | _ => false)) = true := h
    obtain ⟨a1, a2⟩ := and_split h
    have a2 : (vs.any fun | .Starred .. => true | _ => false) = false := by simpa using a2
    unfold swappedStores
    dsimp only
    split
    · rfl
    · split
      · rename_i z
        exact absurd (a2.symm.trans z) (by decide)
      · split
        · rfl
        · first
            | rfl
            | (rw [if_pos a1]; rfl)
  | _ => rfl
/-- (a, b) = e -/
theorem sns_asgP (ev : EvOk T k C) (o : FOk xr T fa fd ps k A EX X) {p : Pt} {e : Ex} {ts : List Expr} {kk : Nat} {tp sp : Pos} {v : Expr} (h1 : agP A p (.Tuple ts kk tp) = true) (h2 : agE A e v = true) (h3 : swNo v = true) : PS X (.Assign [.Tuple ts kk tp] v sp) (tS X xr EX C n (.asgP p e)) := by
  refine PS.imp (ps_asg (sndE ev e A v h2 _ X o.o).1 (snd_p o.o p _ h1) swaps_tup (sw_no h3) rfl) fun D sg H ⟨env, F, ρ, st, cu, q⟩ => ?_
  refine cu.expr (f := fun v => bnd (asP v) fun q => match bindP p q env with | some env' => ret (.nx, env') | none => stuck) q fun s F' ρ' st' H' v cu' _ rv q' => ?_
  obtain ⟨x, ex, q1⟩ := q'.asP
  subst ex
  cases eb : bindP p x env with
  | none =>
    rw [eb] at q1
    exact q1.elim
  | some env' =>
    rw [eb] at q1
    exact ⟨F', st'.length, ρ', env, x, env', cu'.rl.sub, cu'.eo, rv, eb, fun σ' eo' _ => q1 F' ρ' H' cu'.rl cu'.sp σ' eo'⟩
theorem sw_yes {x y : Str} {px py : Pos} {kt k2 : Nat} {pt pt2 : Pos} {a b : Expr} (o : XOk xr T fa fd ps k A (fun _ => EX) X) (h : swYes A x y px py a b = true) : swappedStores [.Tuple [.Name x px, .Name y py] kt pt] (.Tuple [a, b] k2 pt2) X.env = pure (some [x, y]) := by
  unfold swYes at h
  simp only [Bool.and_eq_true, decide_eq_true_eq, Bool.not_eq_true'] at h
  (obtain ⟨⟨⟨⟨⟨⟨⟨⟨h1, h2⟩, h3⟩, h4⟩, h5⟩, h6⟩, h7⟩, h8⟩, h9⟩ := h)
  have hk : X.env.scope.kind = .function := by
    rw [o.sc]
    cases hq : A.sc.kind <;> rw [hq] at h5 <;> first | rfl | cases h5
  have hb : X.env.blockKind = .function := by
    unfold Env.blockKind
    rw [hk]
    rfl
  have kx : X.env.kindOf x = some .local := by
    show X.env.scope.names.lookup x = _
    rw [o.sc]
    exact h1
  have ky : X.env.kindOf y = some .local := by
    show X.env.scope.names.lookup y = _
    rw [o.sc]
    exact h2
  have sa : ∀ {e : Expr}, plainC e = true → (match e with | .Starred .. => true | _ => false) = false := fun {e} h => by
    cases e <;> first | rfl | cases h
  have z1 := sa h6
  have z2 := sa h7
  have hne : (x == y) = false := by simpa using h3
  have hne' : (y == x) = false := by simpa using fun e : y = x => h3 e.symm
  unfold swappedStores
  dsimp only
  rw [hb]
  have f1 : (foldedForSure 8 a && foldedForSure 8 b) = false := h8
  have f2 : (constantsAlone 8 a && constantsAlone 8 b) = false := h9
  simp [kx, ky, h4, z1, z2, hne, hne', List.filterMap, Expr.pos, List.eraseDups, List.eraseDupsBy, List.eraseDupsBy.loop]
  rw [if_neg (by
    rintro (h | h)
    · exact absurd (z1.symm.trans h) (by decide)
    · exact absurd (z2.symm.trans h) (by decide)), if_neg (by
    rintro ⟨e1, e2⟩
    rw [e1, e2] at f1
    cases f1), if_neg (by
    rintro ⟨e1, e2⟩
    rw [e1, e2] at f2
    cases f2)]
def parG (i j : Nat) (env : Env) : List Sl → M (Flow × Env)
  | [v, w] => if i < env.length ∧ j < env.length ∧ i ≠ j then ret (.nx, (env.set i (some v)).set j (some w)) else stuck
  | _ => stuck
theorem par_eq {i j : Nat} {a b : Ex} {env : Env} {st : Sto} : evS C (.par i j a b) env st = bnd (evEs C (.cons a (.cons b .nil)) env) (parG i j env) st := by
  show bnd (evE C a env) (fun v => bnd (evE C b env) fun w => parG i j env [v, w]) st = bnd (bnd (evE C a env) fun x => bnd (bnd (evE C b env) fun y => bnd (ret []) fun ys => ret (y :: ys)) fun xs => ret (x :: xs)) (parG i j env) st
  unfold bnd ret
  cases evE C a env st with
  | ok s1 st1 =>
    dsimp only
    cases evE C b env st1 <;> rfl
  | _ => rfl
/-- x, y = a, b, both worked out first -/
theorem sns_par (ev : EvOk T k C) (o : FOk xr T fa fd ps k A EX X) {i j : Nat} {a b : Ex} {x y : Str} {px py : Pos} {kt k2 : Nat} {pt pt2 sp : Pos} {u v : Expr} (h1 : A.N[i]? = some x) (h2 : A.N[j]? = some y) (h3 : agE A a u = true) (h4 : agE A b v = true) (h5 : swYes A x y px py u v = true) :
    PS X (.Assign [.Tuple [.Name x px, .Name y py] kt pt] (.Tuple [u, v] k2 pt2) sp) (tS X xr EX C n (.par i j a b)) := by
  have hN : X.N.Nodup := by
    rw [o.o.N]
    exact o.o.nd
  have w := sw_yes (kt := kt) (k2 := k2) (pt := pt) (pt2 := pt2) o.o h5
  unfold swYes at h5
  simp only [Bool.and_eq_true, decide_eq_true_eq, Bool.not_eq_true'] at h5
  obtain ⟨⟨⟨⟨⟨⟨⟨⟨g1, g2⟩, g3⟩, _⟩, _⟩, g6⟩, g7⟩, _⟩, _⟩ := h5
  have hij : i ≠ j := by
    rintro rfl
    rw [h1] at h2
    cases h2
    exact g3 rfl
  have es : PA X [u, v] (tEs X xr (fun _ => EX) C (.cons a (.cons b .nil))) := sn_cons (plain_of g6) (sndE ev a A u h3 _ X o.o).1 (sn_cons (plain_of g7) (sndE ev b A v h4 _ X o.o).1 sn_nil)
  refine PS.imp (ps_par o.o.calm hN (by rw [o.o.N]; exact h1) (by rw [o.o.N]; exact h2) hij (by rw [o.o.sc]; exact g1) (by rw [o.o.sc]; exact g2) es w swaps_tup) fun D sg H ⟨env, F, ρ, st, cu, q⟩ => ?_
  rw [par_eq] at q
  refine ⟨env, F, ρ, st, cu.rl, cu.eo, (q.at cu.sp).imp fun ss F' ρ' st' H' rl' sp' ⟨an', q'⟩ vs rv => ?_⟩
  match ss, vs, rv with
  | [s1, s2], [v1, v2], .cons r1 (.cons r2 .nil) =>
    have q' : Post X.K xr EX n.F n.ρ n.st n.H ((if i < env.length ∧ j < env.length ∧ i ≠ j then ret (.nx, (env.set i (some s1)).set j (some s2)) else stuck : M (Flow × Env)) st') (EndS X.K D) := q'
    split at q'
    · exact ⟨v1, v2, rfl, q' F' ρ' H' rl' an' _ (((cu.eo.step sp').set r1).set r2)⟩
    · exact q'.elim
  | [], _, _ => exact q'.elim
  | [_], _, _ => exact q'.elim
  | _ :: _ :: _ :: _, _, _ => exact q'.elim
theorem setC_live {c c' : Cell} {q p : P} (e : setC c q p = some c') : c.live ∧ c'.live := by
  unfold setC at e
  split at e
  · split at e
    · cases e
      exact ⟨trivial, trivial⟩
    · cases e
  · split at e
    · cases e
      exact ⟨trivial, trivial⟩
    · cases e
  · cases e
/-- a cell is written -/
theorem setM_ok {f : Cell → Option Cell} {x : Sl} {v : V} {env : Env} {F H : Hp} {ρ : List Addr} {st : Sto} {sg : L2.St} {g : M (Flow × Env)} {QQ : Flow × Env → Hp → List Addr → Sto → Hp → Prop} (cu : Cur X n env F ρ st H sg) (rv : RepS X.K F ρ st.length v x) (hl : ∀ c c', f c = some c' → c.live ∧ c'.live)
    (q : Post X.K xr EX n.F n.ρ n.st n.H (bnd (setM x f) (fun _ => g) st) QQ) : ∃ (l : Addr) (ho : HO) (c c' : Cell), v = .ref l ∧ (H l = some ho ∧ F l = none) ∧ CellOk X.K F ho c ∧ f c = some c' ∧
      ∀ ho', CellOk X.K F ho' c' → ∃ st', Cur X n env F ρ st' (upd H l ho') sg ∧ Post X.K xr EX n.F n.ρ n.st n.H (g st') QQ := by
  cases x with
  | val p => exact q.elim
  | ref m =>
    obtain ⟨hm, a, ha, rfl⟩ := rv
    unfold bnd setM at q
    cases ec : st[m]? with
    | none =>
      simp only [ec] at q
      exact q.elim
    | some c =>
      simp only [ec] at q
      cases ef : f c with
      | none =>
        simp only [ef] at q
        exact q.elim
      | some c' =>
        simp only [ef] at q
        obtain ⟨l1, l2⟩ := hl c c' ef
        obtain ⟨a', ho, h1, h2, h3, h4⟩ := cu.rl.cell m c ec l1
        rw [ha] at h1
        cases h1
        refine ⟨a, ho, c, c', rfl, ⟨h3, h2⟩, h4, ef, fun ho' ok => ⟨st.set m c', ⟨cu.rl.set ec l1 l2 ha ok, ?_, cu.sp.trans (.set cu.rl ec l1 ha) cu.sp.len⟩, q⟩⟩
        rw [List.length_set]
        exact cu.eo
/-- o[i] = e -/
theorem sns_seti (ev : EvOk T k C) (o : FOk xr T fa fd ps k A EX X) {ob i e : Ex} {x y v : Expr} {tp sp : Pos} (h1 : agE A ob x = true) (h2 : agE A i y = true) (h3 : agE A e v = true) : PS X (.Assign [.Subscript x y tp] v sp) (tS X xr EX C n (.seti ob i e)) := by
  have py := okE_plain h2
  have sw1 : swapsWithSole [.Subscript x y tp] v sp.line X.env = pure false := by
    cases v <;> rfl
  have sw2 : swappedStores [.Subscript x y tp] v X.env = pure none := by
    cases v <;> rfl
  have ha : ∀ w, assign (.Subscript x y tp) X.env w = (do
      let ov ← holding [w] (eval x X.env)
      let iv ← holding [w, ov] (eval y X.env)
      standAt tp
      holding [w, ov, iv] (setItem ov iv w)
      release [w, ov, iv] []) := fun w => by
    have hp := agE_plain A i y h2
    cases y <;> first | rfl | cases hp
  refine PS.imp (ps_asg (sndE ev e A v h3 _ X o.o).1 (pg_sub (sndE ev ob A x h1 _ X o.o).1 (sndE ev i A y h2 _ X o.o).1 (s_set o.o.hu) ha) sw1 sw2 rfl) fun D sg H ⟨env, F, ρ, st, cu, q⟩ => ?_
  refine cu.expr (e := e) q fun s F1 ρ1 st1 H1 v1 cu1 _ rv q => ?_
  refine cu1.expr (e := ob) q fun s2 F2 ρ2 st2 H2 v2 cu2 sp2 rv2 q => ?_
  refine cu2.expr (e := i) q fun s3 F3 ρ3 st3 H3 v3 cu3 sp3 rv3 q => ?_
  obtain ⟨p, ep, q⟩ := q.asP
  obtain ⟨r, er, q⟩ := q.asP
  subst ep er
  obtain ⟨l, ho, c, c', rfl, g1, g2, g3, g4⟩ := setM_ok cu3 (rv2.step sp3) (fun c c' e => setC_live e) q
  exact ⟨F3, l, ho, c, c', r, p, rfl, cu3.rl.sub, g1.1, g2, rv3, (rv.step sp2).step sp3, g3, fun ho' ok => by
    obtain ⟨st', cu', q'⟩ := g4 ho' ok
    exact q' F3 ρ3 _ cu'.rl cu'.sp sg cu'.eo⟩
/-- e alone -/
theorem sns_expr (ev : EvOk T k C) (o : FOk xr T fa fd ps k A EX X) {e : Ex} {v : Expr} {sp : Pos} (h1 : agE A e v = true) (h2 : (compOf v).isNone = true) : PS X (.Expr v sp) (tS X xr EX C n (.expr e)) := by
  have hc : compOf v = none := by simpa using h2
  refine PS.imp (ps_expr (sndE ev e A v h1 _ X o.o).1 (swaps_none hc)) fun D sg H ⟨env, F, ρ, st, cu, q⟩ => ?_
  exact cu.expr (e := e) q fun s F1 ρ1 st1 H1 v1 cu1 _ rv q => q F1 ρ1 H1 cu1.rl cu1.sp sg cu1.eo
theorem sns_ret (ev : EvOk T k C) (o : FOk xr T fa fd ps k A EX X) {e : Ex} {v : Expr} {sp : Pos} (h1 : agE A e v = true) : PS X (.Return (some v) sp) (tS X xr EX C n (.ret e)) := by
  refine PS.imp (ps_ret (sndE ev e A v h1 _ X o.o).1) fun D sg H ⟨env, F, ρ, st, cu, q⟩ => ?_
  exact cu.expr (e := e) q fun s F1 ρ1 st1 H1 v1 cu1 _ rv q => q F1 ρ1 H1 cu1.rl cu1.sp v1 rv
theorem sns_retN {sp : Pos} : PS X (.Return none sp) (tS X xr EX C n (.ret (.cst .non))) := by
  refine PS.imp ps_retN fun D sg H ⟨env, F, ρ, st, cu, q⟩ => ?_
  exact q F ρ H cu.rl cu.sp .non .non
end
end Fy

/-! Fy17: a part of a list is replaced. -/
namespace Fy
open PySem
open PySem.Spec
open PyProof.Rows
open L2

/-- where a to c lies in n places -/
theorem part_bounds {a c m : Nat} (ham : a ≤ m) : sliceBounds (some (a : Int)) (some (c : Int)) none m = ((a : Int), ((min c m : Nat) : Int), 1) := by
  have n1 : ¬ ((a : Int) < 0) := by omega
  have n2 : ¬ ((c : Int) < 0) := by omega
  simp only [sliceBounds, Option.getD_none, n1, n2, if_false, show (1 : Int) > 0 by decide, if_true]
  refine Prod.ext ?_ (Prod.ext ?_ rfl)
  · show max 0 (min (a : Int) (m : Int)) = a
    omega
  · show max 0 (min (c : Int) (m : Int)) = ((min c m : Nat) : Int)
    omega
section
variable {prog : Program}
variable {w : World}
variable {A : Around}
variable {E : Value → Shared → Prop}
variable {s : Shared}
theorem part_store {l b sl : Addr} {old new : Array Value} {n n2 : Nat} {vl vu : Value} {a c : Nat} {Q : Unit → Shared → Prop}
    (el : s.heap.get? l = some { cls := .type "list", data := .seq old n }) (eb : s.heap.get? b = some { cls := .type "list", data := .seq new n2 }) (hne : l ≠ b)
    (sls : s.heap.IsSliceOf sl vl vu .none) (pl : IsPart vl (some (a : Int))) (pu : IsPart vu (some (c : Int))) (hac : a ≤ c) (ham : a ≤ old.size)
    (room : old.size + new.size ≤ sizeLine) (h : Q () { s with heap := s.heap.update l (Obj.mapSeq fun xs => xs.extract 0 a ++ new ++ xs.extract (min c old.size) xs.size) }) : wpAny (model prog w) A (setItem (.ref l) (.ref sl) (.ref b)) Q E s := by
  have il : s.heap.IsList l old := PySem.IsL.isList el
  have ib : s.heap.IsList b new := PySem.IsL.isList eb
  obtain ⟨so, so1, so2, so3⟩ := id sls
  have ty : s.TypeIs (.ref sl) "slice" := ⟨so, so1, so2⟩
  have nostep : ¬ ((rawPart none == rawInt 0) = true) := Bool.false_ne_true
  have apart : Builtin.List.listSameRef (.ref l) (.ref b) = false := by
    (unfold Builtin.List.listSameRef)
    (exact beq_eq_false_iff_ne.mpr hne)
  have top : (max (a : Int) ((min c old.size : Nat) : Int)).toNat = min c old.size := by omega
  have fits : ((fun xs : Array Value => xs.extract 0 a ++ new ++ xs.extract (min c old.size) xs.size) old).size ≤ sizeLine + 1 := by
    simp only [Array.size_extract, Array.size_append]
    omega
  unfold setItem
  (try with_reducible refine wpAny_holding ?_)
  first
    | (refine wpAny_bind (wpAny_pure ?_))
    | skip
  refine wpAny_bind (wpAny_sequenceKey il.typeIs (by decide) ?_)
  refine wpAny_bind (wpAny_callSpecial?_slot (name := Str.ofString "__setitem__") il.typeIs slot_list_setitem (wpAny_call_entry slot_list_setitem il.typeIs entry_list_setitem ?_ (args_list_setitem _ _ _)))
  (show wpAny _ _ (Builtin.List.listSubscript? (.ref sl) >>= _) _ _ s)
  refine wpAny_bind ?_
  (unfold Builtin.List.listSubscript?)
  refine wpAny_bind (wpAny_specialOf ty slice_no_index ?_)
  simp only [if_true, Option.isNone_none]
  refine wpAny_pure ?_
  (show wpAny _ _ (typeOf (.ref sl) >>= _) _ _ s)
  refine wpAny_bind (wpAny_typeOf ty ?_)
  first
    | rw [if_neg (by decide)]
    | (refine PySem.W.KFB.if_not (by decide) ?_)
  rw [listSliceParts_eq]
  refine wpAny_bind (wpAny_bind (wpAny_field so1 so3 (x := .none) rfl (wpAny_bind (wpAny_listPart .none ?_))))
  rw [if_neg nostep]
  refine wpAny_bind (wpAny_field so1 so3 (x := vl) rfl (wpAny_bind (wpAny_listPart pl ?_)))
  refine wpAny_bind (wpAny_field so1 so3 (x := vu) rfl (wpAny_bind (wpAny_listPart pu (wpAny_pure ?_))))
  first
    | simp only [apart, Bool.false_eq_true, if_false]
    | refine PySem.W.KFB.if_not apart ?_
    | (dsimp only
       rw [if_neg (by rw [apart]; exact Bool.false_ne_true)])
  (refine wpAny_bind (m := Builtin.List.listAllItems (.ref b) "must assign iterable to extended slice") ?_)
  (unfold Builtin.List.listAllItems)
  refine wpAny_bind (wpAny_typeOf ib.typeIs ?_)
  first
    | (refine PySem.W.KFB.if_so (by decide) ?_)
    | rw [if_pos (by decide)]
    | simp only [Bool.true_or, if_true, beq_self_eq_true]
  unfold Builtin.List.listItems
  refine wpAny_bind (wpAny_seqItems eb rfl (wpAny_pure ?_))
  refine wpAny_bind (wpAny_bind (wpAny_seqItems el rfl (wpAny_pure ?_)))
  refine wpAny_bind (wpAny_of_eq ((sliceIndices_raw (some (a : Int)) (some (c : Int)) none old.size (by simp)).trans (congrArg (pure : Int × Int × Int → Sem (Int × Int × Int)) (part_bounds ham))) ?_)
  (show wpAny _ _ (if ((1 : Int) == 1) = true then _ else _) _ _ s)
  rw [if_pos (by decide)]
  (refine wpAny_bind (wpAny_rule ?_))
  first
    | simp only [notLongL room, Bool.false_eq_true, if_false]
    | refine PySem.W.KFB.if_not (notLongL room) ?_
  first
    | (refine wpAny_bind (wpAny_pure ?_))
    | skip
  show wpAny _ _ (updateSeq l (fun xs => xs.extract 0 ((a : Int)).toNat ++ new ++ xs.extract (max (a : Int) ((min c old.size : Nat) : Int)).toNat xs.size) >>= _) _ _ s
  rw [top, Int.toNat_natCast]
  refine wpAny_bind (wpAny_updateSeq (hz := Nat.le_trans (Nat.le_add_right _ _) room) (_hz' := fits) el rfl ?_)
  (refine wpAny_bind (wpAny_letGo ?_))
  first
    | (exact wpAny_bind (wpAny_pure (wpAny_pure ⟨.none, rfl, wpAny_pure h⟩)))
    | (exact wpAny_pure ⟨.none, rfl, wpAny_pure h⟩)
end
section
variable {X : Cx}
/-- xs[a:c] = ys, c behind the end, too -/
theorem part_set {pz : List (Addr × Obj)} {s : Shared} {sg : L2.St} {H : Hp} {l b sl : Addr} {xs ys : List V} {a c : Int} {vl vu : Value} {Q : Unit → Shared → Prop} (I : Inv X pz sg H s)
    (hl : H l = some (.lst xs)) (hb : H b = some (.lst ys)) (hne : l ≠ b) (hs : s.heap.IsSliceOf sl vl vu .none) (pl : IsPart vl (some a)) (pu : IsPart vu (some c)) (h0 : 0 ≤ a) (hac : a ≤ c) (ham : a.toNat ≤ xs.length)
    (hz : xs.length + ys.length ≤ sizeLine) (h : ∀ s', Inv X pz sg (upd H l (.lst (xs.take a.toNat ++ ys ++ xs.drop c.toNat))) s' → Q () s') : wpAny (model X.prog X.w) X.A (setItem (.ref l) (.ref sl) (.ref b)) Q X.xe s := by
  obtain ⟨_, its, n, r, ln, e⟩ := I.lstM hl
  obtain ⟨_, its2, n2, r2, ln2, e2⟩ := I.lstM hb
  (obtain ⟨a', rfl⟩ := Int.eq_ofNat_of_zero_le h0)
  (obtain ⟨c', rfl⟩ := Int.eq_ofNat_of_zero_le (Int.le_trans h0 hac))
  simp only [Int.toNat_natCast] at h ham
  refine part_store (a := a') (c := c') e e2 hne hs pl pu (by omega) (by rw [List.size_toArray]; omega) (by rw [List.size_toArray, List.size_toArray]; omega) (h _ ?_)
  refine I.lset (its' := its.take a' ++ its2 ++ its.drop c') (t' := s.toks) hl e ?_ (Vals.append (Vals.append (r.take _) r2) (r.drop _)) ?_
  · have q := splice_eq its its2 a' (min c' its.toArray.size)
    have d : its.drop (min c' its.toArray.size) = its.drop c' := by
      rw [List.size_toArray]
      by_cases z : c' ≤ its.length
      · rw [Nat.min_eq_left z]
      · (rw [Nat.min_eq_right (by omega), List.drop_of_length_le (Nat.le_refl _), List.drop_of_length_le (by omega)])
    rw [d] at q
    exact q
  · (rw [List.length_append, List.length_append, List.length_take, List.length_drop])
    omega
/-- the value, the list, the two bounds; then the part -/
def gPart (K : PySem.W.Frag) (to : TE) (tl th : TO) : TG := fun v sg H Q => to sg H fun o H1 => tl sg H1 fun lo H2 => th sg H2 fun hi H3 => ∃ (l b : Addr) (xs ys : List V) (a c : Int), o = .ref l ∧ v = .ref b ∧ lo = some a ∧ hi = some c ∧ H3 l = some (.lst xs) ∧ H3 b = some (.lst ys) ∧ l ≠ b ∧
  0 ≤ a ∧ a ≤ c ∧ a.toNat ≤ xs.length ∧ xs.length + ys.length ≤ sizeLine ∧ Q sg (upd H3 l (.lst (xs.take a.toNat ++ ys ++ xs.drop c.toNat)))
theorem pg_part {o : Expr} {lo hi : Option Expr} {p2 pos : Pos} {to : TE} {tl th : TO} (ho : PE X o to) (hl : PO X lo tl) (hh : PO X hi th) : PG X (.Subscript o (.Slice lo hi none p2) pos) (gPart X.K to tl th) := by
  refine ⟨fun pz s sg H v u Q I r h => ?_⟩
  show wpAny _ _ (do
    let ov ← holding [u] (eval o X.env)
    let iv ← holding [u, ov] (eval (.Slice lo hi none p2) X.env)
    standAt pos
    holding [u, ov, iv] (setItem ov iv u)
    release [iv, u, ov] []) _ _ s
  refine wpAny_bind (wpAny_holding (thn (ho.run pz s sg H _ I h) fun ov s1 ⟨x, H1, I1, r1, q1⟩ => ?_))
  refine wpAny_bind (wpAny_holding (wpAny_Slice (thn (hl.run pz s1 sg H1 _ I1 q1) fun vl s2 ⟨lv, H2, I2, pl, q2⟩ => thn (hh.run pz s2 sg H2 _ I2 q2) fun vh s3 ⟨hv, H3, I3, ph, q3⟩ => ?_)))
  rw [evalPart_none]
  refine wpAny_pure ?_
  have I4 : Inv X pz sg H3 { s3 with heap := s3.heap.push { cls := .type "slice", data := .fields #[vl, vh, .none] } } := I3.kept (t' := s3.toks) fun b ob q => Heap.get?_push_of_some _ q
  obtain ⟨l, b, xs, ys, a, c, rfl, rfl, rfl, rfl, hl, hb, hne, h0, hac, ham, hz, q⟩ := q3
  cases r1
  cases r
  refine wpAny_bind (wpAny_standAt (wpAny_bind (wpAny_holding (part_set I4 hl hb hne (Heap.IsSliceOf.new ..) pl ph h0 hac ham hz fun s5 I5 => ?_))))
  exact wpAny_release ⟨sg, _, I5, q⟩
end
section
variable {xr : XR} {T : Tab} {fa : Nat → Addr} {fd : Nat → FuncData} {ps : Nat → List Str} {k : Nat} {A : Agr} {EX : XK} {X : Cx} {C : Ev} {n : An}
theorem setS_live {c c' : Cell} {q r p : P} (e : setS c q r p = some c') : c.live ∧ c'.live := by
  unfold setS at e
  split at e
  · split at e
    · cases e
      exact ⟨trivial, trivial⟩
    · cases e
  · cases e
theorem asI_ok {x : Sl} {β : Type} {F H : Hp} {ρ : List Addr} {st st1 : Sto} {K : PySem.W.Frag} {E : XK} {f : Int → M β} {Q : β → Hp → List Addr → Sto → Hp → Prop} (h : Post K xr E F ρ st H (bnd (asI x) f st1) Q) : ∃ i, x = .val (.int i) ∧ Post K xr E F ρ st H (f i st1) Q := by
  cases x with
  | ref m => exact h.elim
  | val p =>
    cases p with
    | int i => exact ⟨i, rfl, h⟩
    | _ => exact h.elim
theorem sns_sets (ev : EvOk T k C) (o : FOk xr T fa fd ps k A EX X) {ob i j e : Ex} {x y z v : Expr} {p2 tp sp : Pos} (h1 : agE A ob x = true) (h2 : agE A i y = true) (h4 : agE A j z = true) (h3 : agE A e v = true) : PS X (.Assign [.Subscript x (.Slice (some y) (some z) none p2) tp] v sp) (tS X xr EX C n (.sets ob i j e)) := by
  have sw1 : swapsWithSole [.Subscript x (.Slice (some y) (some z) none p2) tp] v sp.line X.env = pure false := by
    cases v <;> rfl
  have sw2 : swappedStores [.Subscript x (.Slice (some y) (some z) none p2) tp] v X.env = pure none := by
    cases v <;> rfl
  refine PS.imp (ps_asg (sndE ev e A v h3 _ X o.o).1 (pg_part (sndE ev ob A x h1 _ X o.o).1 (po_some (sndE ev i A y h2 _ X o.o).1) (po_some (sndE ev j A z h4 _ X o.o).1)) sw1 sw2 rfl) fun D sg H ⟨env, F, ρ, st, cu, q⟩ => ?_
  refine cu.expr (e := e) q fun s F1 ρ1 st1 H1 v1 cu1 _ rv q => ?_
  refine cu1.expr (e := ob) q fun s2 F2 ρ2 st2 H2 v2 cu2 sp2 rv2 q => ?_
  refine cu2.expr (e := i) q fun s3 F3 ρ3 st3 H3 v3 cu3 sp3 rv3 q => ?_
  obtain ⟨a, ea, q⟩ := asI_ok q
  subst ea
  refine ⟨a, Rep.int_inv rv3, cu3.expr (e := j) q fun s4 F4 ρ4 st4 H4 v4 cu4 sp4 rv4 q => ?_⟩
  obtain ⟨c, ec, q⟩ := asI_ok q
  subst ec
  refine ⟨c, Rep.int_inv rv4, ?_⟩
  obtain ⟨p, ep, q⟩ := q.asP
  subst ep
  obtain ⟨l, ho, c0, c1, rfl, g1, g2, g3, g4⟩ := setM_ok cu4 ((rv2.step sp3).step sp4) (fun c c' e => setS_live e) q
  have rv' : Rep X.K F4 v1 p := ((rv.step sp2).step sp3).step sp4
  cases c0 with
  | lst xs =>
    cases p with
    | lst ys =>
      obtain ⟨vs, rfl, r⟩ := g2
      obtain ⟨b, ws, rfl, hb, rb⟩ := rv'.lst_inv
      have g3 : (if 0 ≤ a ∧ a ≤ c ∧ a.toNat ≤ xs.length ∧ xs.length + ys.length ≤ lenMost then some (Cell.lst (xs.take a.toNat ++ ys ++ xs.drop c.toNat)) else none) = some c1 := g3
      split at g3
      · rename_i hc
        cases g3
        have hne : l ≠ b := by
          rintro rfl
          rw [g1.2] at hb
          cases hb
        refine ⟨l, b, vs, ws, a, c, rfl, rfl, rfl, rfl, g1.1, cu4.rl.sub _ _ hb, hne, hc.1, hc.2.1, by rw [r.length]; exact hc.2.2.1, by rw [r.length, rb.length]; exact lenMost_lt hc.2.2.2, ?_⟩
        obtain ⟨st', cu', q'⟩ := g4 (.lst (vs.take a.toNat ++ ws ++ vs.drop c.toNat)) ⟨_, rfl, ((r.take _).append rb).append (r.drop _)⟩
        exact q' F4 ρ4 _ cu'.rl cu'.sp sg cu'.eo
      · cases g3
    | _ => cases g3
  | _ => cases g3
end
end Fy

/-! Fy18: statements, loops, bodies. -/
namespace Fy
open PySem
open PySem.Spec
open PyProof.Rows
open L2

section
variable {xr : XR} {T : Tab} {fa : Nat → Addr} {fd : Nat → FuncData} {ps : Nat → List Str} {k : Nat} {A : Agr} {EX : XK} {X : Cx} {C : Ev} {n : An}
/-- what a loop's turn hands on -/
def nextW (f : Env → M (Flow × Env)) (r : Flow × Env) : M (Flow × Env) :=
  match r.1 with
  | .nx => f r.2
  | .ct => f r.2
  | .bk => ret (.nx, r.2)
  | .rt v => ret (.rt v, r.2)
theorem loopP_cons (f : P → Env → M (Flow × Env)) (x : P) (xs : List P) (env : Env) : loopP f (x :: xs) env = bnd (f x env) (nextW (loopP f xs)) := rfl
theorem loopW_succ (c : Env → M Bool) (f : Env → M (Flow × Env)) (m : Nat) (env : Env) : loopW c f (m + 1) env = bnd (c env) fun b => if b then bnd (f env) (nextW (loopW c f m)) else ret (.nx, env) := rfl
/-- a later anchor: the same store, more data -/
def Later (n m : An) : Prop := ∀ F ρ st H, Step m.st.length m.F m.ρ m.st m.H F ρ st H → Step n.st.length n.F n.ρ n.st n.H F ρ st H
/-- a body's end within a loop -/
theorem end_turn {m : An} (lt : Later n m) {D : Ends} {N : L2.St → Hp → Prop} {f : Env → M (Flow × Env)} {g : M (Flow × Env)} {st : Sto} (q : Post X.K xr EX n.F n.ρ n.st n.H (bnd g (nextW f) st) (EndS X.K D))
    (hN : ∀ env F ρ st H sg, Cur X m env F ρ st H sg → Post X.K xr EX n.F n.ρ n.st n.H (f env st) (EndS X.K D) → N sg H) : Post X.K xr EX m.F m.ρ m.st m.H (g st) (EndS X.K { D with nx := N, ct := N, bk := D.nx }) := by
  unfold bnd at q
  cases e : g st with
  | bad =>
    rw [e] at q
    exact q.elim
  | exc x t =>
    rw [e] at q
    exact fun F ρ H c d rl sp => q F ρ H c d rl (lt F ρ t H sp)
  | ok r t =>
    rw [e] at q
    intro F ρ H rl sp
    obtain ⟨fl, env⟩ := r
    cases fl with
    | nx => exact fun sg eo => hN env F ρ t H sg ⟨rl, eo, sp⟩ q
    | ct => exact fun sg eo => hN env F ρ t H sg ⟨rl, eo, sp⟩ q
    | bk => exact fun sg eo => q F ρ H rl (lt F ρ t H sp) sg eo
    | rt v => exact fun u ru => q F ρ H rl (lt F ρ t H sp) u ru
theorem Later.refl : Later n n := fun _ _ _ _ h => h
/-- the anchor that knows the data F1 -/
def An.knows (n : An) (F1 : Hp) : An := { n with F := F1 }
theorem later_knows {F1 : Hp} {ρ1 : List Addr} {st1 : Sto} {H1 : Hp} (s : Step n.st.length n.F n.ρ n.st n.H F1 ρ1 st1 H1) : Later n (n.knows F1) := by
  intro F ρ st H t
  have back : ∀ a, n.H a ≠ none → Own F1 n.ρ n.st a → Own n.F n.ρ n.st a := fun a h z => by
    rcases z with z | z
    · exact s.own a h (.inl z)
    · exact .inr z
  exact ⟨s.ext.trans t.ext, t.pre, t.len, fun a o e no => t.keep a o e fun z => no (back a (by rw [e]; exact fun z => nomatch z) z), fun a h z => back a h (t.own a h z), t.there⟩
theorem cur_knows {F1 : Hp} {env : Env} {F : Hp} {ρ : List Addr} {st : Sto} {H : Hp} {sg : L2.St} (cu : Cur X n env F ρ st H sg) (hs : Sub n.F F1) (sf : Sub F1 F) : Cur X (n.knows F1) env F ρ st H sg := by
  have t := cu.sp
  have up : ∀ a, Own n.F n.ρ n.st a → Own F1 n.ρ n.st a := fun a z => by
    rcases z with z | z
    · refine .inl fun q => ?_
      cases e : n.F a with
      | none => exact z e
      | some o =>
        rw [hs a o e] at q
        cases q
    · exact .inr z
  exact ⟨cu.rl, cu.eo, sf, t.pre, t.len, fun a o e no => t.keep a o e fun z => no (up a z), fun a h z => up a (t.own a h z), t.there⟩
def forF (C : Ev) (p : Pt) (b : Sts) (x : P) (env : Env) : M (Flow × Env) :=
  match bindP p x env with
  | some env' => evSs C b env'
  | none => stuck
theorem sns_for (ev : EvOk T k C) (o : FOk xr T fa fd ps k A EX X) {p : Pt} {i : It} {b : Sts} {t z : Expr} {body : List Stmt} {sp : Pos} (h1 : agP A p t = true) (h2 : agI A i z t = true) (hn : C.base = n.st.length) (hb : ∀ m : An, C.base = m.st.length → PSs X body (tSs X xr EX C m b)) : PS X (.For t z body [] sp) (tS X xr EX C n (.for_ p i b)) := by
  obtain ⟨oi, hs⟩ := sndI (xr := xr) (fa := fa) (fd := fd) (ps := ps) ev i A z t h2
  have hbody : PSs X body (fun D sg H => ∃ m : An, C.base = m.st.length ∧ tSs X xr EX C m b D sg H) := ⟨fun pz s sg H D I ⟨m, hm, h⟩ => (hb m hm).run pz s sg H D I h⟩
  refine PS.imp (ps_for o.own o.o.calm (oi _ X o.o) (snd_p o.o p t h1) hbody (hs X.env)) fun D sg H ⟨env, F, ρ, st, cu, q⟩ => ?_
  refine cu.iter (e := i) (f := fun xs => loopP (forF C p b) xs env) q fun xs F1 ρ1 st1 H1 J cu1 wk q => ?_
  refine ⟨fun j m sg H => m = xs.length - j ∧ j ≤ xs.length ∧ ∃ env F ρ st, Cur X n env F ρ st H sg ∧ Sub F1 F ∧ Post X.K xr EX n.F n.ρ n.st n.H (loopP (forF C p b) (xs.drop j) env st) (EndS X.K D), ⟨xs.length, by simp, Nat.zero_le _, env, F1, ρ1, st1, cu1, .refl _, q⟩, ?_⟩
  rintro j m sg H ⟨rfl, hj, env, F, ρ, st, cu, sf, q⟩
  by_cases hlt : j < xs.length
  · refine .inr ⟨wk.go j F H hlt sf cu.rl.sub, fun σ' H' => j + 1 ≤ xs.length ∧ ∃ env F ρ st, Cur X n env F ρ st H' σ' ∧ Sub F1 F ∧ Post X.K xr EX n.F n.ρ n.st n.H (loopP (forF C p b) (xs.drop (j + 1)) env st) (EndS X.K D), fun σ' H' h => ⟨xs.length - (j + 1), by omega, rfl, h⟩, fun x H' y => ?_⟩
    obtain ⟨F', px, ex, nw, rx⟩ := wk.yld j F H x H' hlt sf cu.rl.sub y
    have hd : xs.drop j = px :: xs.drop (j + 1) := by
      (rw [List.drop_eq_getElem_cons hlt])
      have e2 := List.getElem?_eq_getElem hlt
      rw [ex] at e2
      rw [← Option.some.inj e2]
    rw [hd, loopP_cons] at q
    have cu' := cu.step (cu.rl.new nw) (.new nw)
    cases eb : bindP p px env with
    | none =>
      have e1 : forF C p b px env = stuck := by
        unfold forF
        rw [eb]
      rw [e1] at q
      exact q.elim
    | some env' =>
      have e1 : forF C p b px env = evSs C b env' := by
        unfold forF
        rw [eb]
      rw [e1] at q
      refine ⟨F', st.length, ρ, env, px, env', cu'.rl.sub, cu'.eo, rx, eb, fun σ2 eo2 _ => ⟨n.knows F1, hn, env', F', ρ, st, cur_knows ⟨cu'.rl, eo2, cu'.sp⟩ cu1.sp.ext (sf.trans nw.f), ?_⟩⟩
      refine end_turn (later_knows cu1.sp) q fun env2 F2 ρ2 st2 H2 σ2 cu2 q2 => ⟨hlt, env2, F2, ρ2, st2, ⟨cu2.rl, cu2.eo, later_knows cu1.sp _ _ _ _ cu2.sp⟩, cu2.sp.ext, q2⟩
  · have e : j = xs.length := by omega
    subst e
    rw [List.drop_of_length_le (Nat.le_refl _)] at q
    exact .inl ⟨wk.stop F H sf cu.rl.sub, q F ρ H cu.rl cu.sp sg cu.eo⟩
theorem sns_whl (ev : EvOk T k C) (o : FOk xr T fa fd ps k A EX X) {c : Ex} {b : Sts} {z : Expr} {body : List Stmt} {sp : Pos} (h1 : agE A c z = true) (hb : PSs X body (tSs X xr EX C n b)) : PS X (.While z body [] sp) (tS X xr EX C n (.whl c b)) := by
  refine PS.imp (ps_while o.own (sndE ev c A z h1 _ X o.o).2 hb) fun D sg H ⟨env, F, ρ, st, cu, q⟩ => ?_
  have q : Post X.K xr EX n.F n.ρ n.st n.H (loopW (fun env => bnd (evE C c env) tru) (evSs C b) C.fuel env st) (EndS X.K D) := q
  refine ⟨fun m sg H => ∃ env F ρ st, Cur X n env F ρ st H sg ∧ Post X.K xr EX n.F n.ρ n.st n.H (loopW (fun env => bnd (evE C c env) tru) (evSs C b) m env st) (EndS X.K D), ⟨C.fuel, env, F, ρ, st, cu, q⟩, ?_⟩
  rintro m sg H ⟨env, F, ρ, st, cu, q⟩
  cases m with
  | zero => exact q.elim
  | succ m =>
    rw [loopW_succ] at q
    refine cu.test (e := c) q fun d F1 ρ1 st1 H1 cu1 q => ?_
    cases d with
    | false =>
      rw [if_neg Bool.false_ne_true] at q ⊢
      exact q F1 ρ1 H1 cu1.rl cu1.sp sg cu1.eo
    | true =>
      rw [if_pos rfl] at q ⊢
      refine ⟨fun σ' H' => ∃ env F ρ st, Cur X n env F ρ st H' σ' ∧ Post X.K xr EX n.F n.ρ n.st n.H (loopW (fun env => bnd (evE C c env) tru) (evSs C b) m env st) (EndS X.K D), fun σ' H' h => ⟨m, Nat.lt_succ_self _, h⟩, env, F1, ρ1, st1, cu1, ?_⟩
      exact end_turn .refl q fun env2 F2 ρ2 st2 H2 σ2 cu2 q2 => ⟨env2, F2, ρ2, st2, cu2, q2⟩
theorem sns_ite (ev : EvOk T k C) (o : FOk xr T fa fd ps k A EX X) {c : Ex} {a b : Sts} {z : Expr} {x y : List Stmt} {sp : Pos} (h1 : agE A c z = true) (ha : PSs X x (tSs X xr EX C n a)) (hb : PSs X y (tSs X xr EX C n b)) : PS X (.If z x y sp) (tS X xr EX C n (.ite c a b)) := by
  refine PS.imp (ps_if (sndE ev c A z h1 _ X o.o).2 ha hb) fun D sg H ⟨env, F, ρ, st, cu, q⟩ => ?_
  have q : Post X.K xr EX n.F n.ρ n.st n.H (bnd (evE C c env) (fun x => bnd (tru x) fun k => if k then evSs C a env else evSs C b env) st) (EndS X.K D) := q
  rw [← bnd_assoc] at q
  refine cu.test (e := c) q fun d F1 ρ1 st1 H1 cu1 q => ?_
  cases d with
  | true => exact ⟨env, F1, ρ1, st1, cu1, q⟩
  | false => exact ⟨env, F1, ρ1, st1, cu1, q⟩
/-- a body: one statement, then the others -/
def seqS (f : Env → M (Flow × Env)) (r : Flow × Env) : M (Flow × Env) :=
  match r.1 with
  | .nx => f r.2
  | .bk => ret (.bk, r.2)
  | .ct => ret (.ct, r.2)
  | .rt v => ret (.rt v, r.2)
theorem evSs_cons (s : St) (ss : Sts) (env : Env) : evSs C (.cons s ss) env = bnd (evS C s env) (seqS (evSs C ss)) := rfl
theorem sns_nil : PSs X [] (tSs X xr EX C n .nil) := PSs.imp pss_nil fun D sg H ⟨env, F, ρ, st, cu, q⟩ => q F ρ H cu.rl cu.sp sg cu.eo
theorem sns_cons {s : St} {ss : Sts} {x : Stmt} {xs : List Stmt} (h1 : PS X x (tS X xr EX C n s)) (h2 : PSs X xs (tSs X xr EX C n ss)) : PSs X (x :: xs) (tSs X xr EX C n (.cons s ss)) := by
  refine PSs.imp (pss_cons h1 h2) fun D sg H ⟨env, F, ρ, st, cu, q⟩ => ⟨env, F, ρ, st, cu, ?_⟩
  rw [evSs_cons] at q
  unfold bnd at q
  cases e : evS C s env st with
  | bad =>
    rw [e] at q
    exact q.elim
  | exc y t =>
    rw [e] at q
    exact q
  | ok r t =>
    rw [e] at q
    intro F' ρ' H' rl sp
    obtain ⟨fl, env'⟩ := r
    cases fl with
    | nx => exact fun σ' eo => ⟨env', F', ρ', t, ⟨rl, eo, sp⟩, q⟩
    | bk => exact fun σ' eo => q F' ρ' H' rl sp σ' eo
    | ct => exact fun σ' eo => q F' ρ' H' rl sp σ' eo
    | rt v => exact fun u ru => q F' ρ' H' rl sp u ru
theorem sns_frz {i : Nat} {ss : Sts} {xs : List Stmt} (hn : C.base = n.st.length) (h2 : PSs X xs (tSs X xr EX C n ss)) : PSs X xs (tSs X xr EX C n (.cons (.frz i) ss)) := by
  refine PSs.imp h2 fun D sg H ⟨env, F, ρ, st, cu, q⟩ => ?_
  rw [evSs_cons] at q
  have q : Post X.K xr EX n.F n.ρ n.st n.H (bnd (freeze C.base i env) (seqS (evSs C ss)) st) (EndS X.K D) := q
  unfold bnd at q
  cases e : freeze C.base i env st with
  | bad =>
    rw [e] at q
    exact q.elim
  | exc y t =>
    unfold freeze at e
    split at e
    · split at e
      · split at e
        · split at e <;> cases e
        · cases e
      · cases e
    · cases e
  | ok r t =>
    rw [e] at q
    obtain ⟨F', ρ', e1, g1, g2, g3⟩ := frz_ok e cu.rl cu.eo cu.sp hn
    obtain ⟨fl, env'⟩ := r
    cases e1
    exact ⟨env', F', ρ', t, ⟨g1, g2, g3⟩, q⟩
mutual
theorem sndS (ev : EvOk T k C) (o : FOk xr T fa fd ps k A EX X) : ∀ (s : St) (n : An) (x : Stmt), C.base = n.st.length → agS A s x = true → PS X x (tS X xr EX C n s)
  | .asg i e, n, x, hn, h => by
    have h : (match (generalizing := false) x with | .Assign [.Name y py] v _ => decide (A.N[i]? = some y) && agE A e v && asgC A e y py v | _ => false) = true := h
    split at h
    · simp only [decide_eq_true_eq, Bool.and_eq_true] at h
      exact sns_asg ev o h.1.1 h.1.2 h.2
    · cases h
  | .asgP p e, n, x, hn, h => by
    have h : (match (generalizing := false) x with | .Assign [.Tuple ts kk tp] v _ => agP A p (.Tuple ts kk tp) && agE A e v && swNo v | _ => false) = true := h
    split at h
    · simp only [Bool.and_eq_true] at h
      exact sns_asgP ev o h.1.1 h.1.2 h.2
    · cases h
  | .par i j a b, n, x, hn, h => by
    have h : (match (generalizing := false) x with
      | .Assign [.Tuple [.Name x px, .Name y py] _ _] (.Tuple [u, v] _ _) _ => decide (A.N[i]? = some x) && decide (A.N[j]? = some y) && agE A a u && agE A b v && swYes A x y px py u v
      | _ => false) = true := h
    split at h
    · simp only [decide_eq_true_eq, Bool.and_eq_true] at h
      exact sns_par ev o h.1.1.1.1 h.1.1.1.2 h.1.1.2 h.1.2 h.2
    · cases h
  | .seti ob i e, n, x, hn, h => by
    have h : (match (generalizing := false) x with | .Assign [.Subscript x y _] v _ => agE A ob x && agE A i y && agE A e v | _ => false) = true := h
    split at h
    · simp only [Bool.and_eq_true] at h
      exact sns_seti ev o h.1.1 h.1.2 h.2
    · cases h
  | .sets ob l hh e, n, x, hn, h => by
    have h : (match (generalizing := false) x with | .Assign [.Subscript x (.Slice (some y) (some z) none _) _] v _ => agE A ob x && agE A l y && agE A hh z && agE A e v | _ => false) = true := h
    split at h
    · simp only [Bool.and_eq_true] at h
      exact sns_sets ev o h.1.1.1 h.1.1.2 h.1.2 h.2
    · cases h
  | .expr e, n, x, hn, h => by
    cases x with
    | Expr v p =>
      obtain ⟨h1, h2⟩ := and_split (a := agE A e v) h
      exact sns_expr ev o h1 h2
    | _ => cases h
  | .ite c a b, n, x, hn, h => by
    cases x with
    | If z x y p =>
      have h : (agE A c z && agSs A a x && agSs A b y) = true := h
      (simp only [Bool.and_eq_true] at h)
      exact sns_ite ev o h.1.1 (sndSs ev o a n x hn h.1.2) (sndSs ev o b n y hn h.2)
    | _ => cases h
  | .whl c b, n, x, hn, h => by
    have h : (match (generalizing := false) x with | .While z x [] _ => agE A c z && agSs A b x | _ => false) = true := h
    split at h
    · obtain ⟨h1, h2⟩ := and_split h
      exact sns_whl ev o h1 (sndSs ev o b n _ hn h2)
    · cases h
  | .for_ p i b, n, x, hn, h => by
    have h : (match (generalizing := false) x with | .For t z x [] _ => agP A p t && agI A i z t && agSs A b x | _ => false) = true := h
    split at h
    · simp only [Bool.and_eq_true] at h
      exact sns_for ev o h.1.1 h.1.2 hn fun m hm => sndSs ev o b m _ hm h.2
    · cases h
  | .ret e, n, x, hn, h => by
    have h : (match (generalizing := false) x with | .Return (some v) _ => agE A e v | .Return none _ => (match (generalizing := false) e with | .cst .non => true | _ => false) | _ => false) = true := h
    split at h
    · exact sns_ret ev o h
    · split at h
      · exact sns_retN
      · cases h
    · cases h
  | .pass, n, x, hn, h => by
    cases x with
    | Pass p => exact PS.imp ps_pass fun D sg H ⟨env, F, ρ, st, cu, q⟩ => q F ρ H cu.rl cu.sp sg cu.eo
    | _ => cases h
  | .brk, n, x, hn, h => by
    cases x with
    | Break p => exact PS.imp ps_break fun D sg H ⟨env, F, ρ, st, cu, q⟩ => q F ρ H cu.rl cu.sp sg cu.eo
    | _ => cases h
  | .cont, n, x, hn, h => by
    cases x with
    | Continue p => exact PS.imp ps_continue fun D sg H ⟨env, F, ρ, st, cu, q⟩ => q F ρ H cu.rl cu.sp sg cu.eo
    | _ => cases h
  | .frz _, _, _, _, h => by cases h
theorem sndSs (ev : EvOk T k C) (o : FOk xr T fa fd ps k A EX X) : ∀ (s : Sts) (n : An) (x : List Stmt), C.base = n.st.length → agSs A s x = true → PSs X x (tSs X xr EX C n s)
  | .nil, n, x, hn, h => by
    cases x with
    | nil => exact sns_nil
    | cons _ _ => cases h
  | .cons s ss, n, x, hn, h => by
    by_cases hz : ∃ i, s = .frz i
    · obtain ⟨i, rfl⟩ := hz
      exact sns_frz hn (sndSs ev o ss n x hn h)
    · have h : (match (generalizing := false) x with | e :: es => agS A s e && agSs A ss es | [] => false) = true := by
        cases s <;> first | exact h | exact absurd ⟨_, rfl⟩ hz
      split at h
      · obtain ⟨h1, h2⟩ := and_split h
        exact sns_cons (sndS ev o s n _ hn h1) (sndSs ev o ss n _ hn h2)
      · cases h
end
end
end Fy

/-! Fy19: defs: each does what our language's run says. -/
namespace Fy
open PySem
open PySem.Spec
open PyProof.Rows
open L2

/-- a def of the text and ours -/
structure DefOk (K : PySem.W.Frag) (T : Tab) (i : Nat) (x qual : Str) (st : Stmt) (f : Addr) (fd : FuncData) (N ps : List Str) (fns gls blts : List Str) : Prop where
  fn : Fun K x qual st f fd
  sc : FnScope N ps (defScope st)
  ok : ∃ d, T.fns[i]? = some d ∧ ps.length = d.np ∧ N.length = d.nn ∧ agSs ⟨N, defScope st, fun _ => true, fns, gls, blts⟩ d.body (defBody st) = true
/-- the whole table in its module -/
structure TabOk (K : PySem.W.Frag) (mg : Str → Option Value) (xr : XR) (T : Tab) (fa : Nat → Addr) (fd : Nat → FuncData) (ps : Nat → List Str) (fns gls blts : List Str) : Prop where
  defs : ∀ (i : Nat) (x : Str), fns[i]? = some x → mg x = some (.ref (fa i)) ∧ PySem.W.keepIn K (.ref (fa i)) = true ∧ Binds K (fd i) (ps i) [] ∧ ∃ qual st N, DefOk K T i x qual st (fa i) (fd i) N (ps i) fns gls blts
  blt : ∀ x ∈ blts, mg x = none
  gls : ∀ (i : Nat) (x : Str) (p : P), gls[i]? = some x → T.glo[i]? = some p → ∃ u v, mg x = some u ∧ RelV v u ∧ ∀ F, Rep K F v p
section
variable {K : PySem.W.Frag} {xr : XR} {F H : Hp} {ρ : List Addr} {st : Sto} {E : XK} {Q : VK}
theorem env_start {b : Nat} {N : List Str} {vs : List V} {ss : List Sl} {np nn : Nat} (r : RepSs K F ρ b vs ss) (h1 : ss.length = np) (h2 : N.length = nn) : EnvOk K F ρ b (ss.map some ++ List.replicate (nn - np) none) (start N vs) := by
  have hl := r.length
  have get : ∀ {vs : List V} {ss : List Sl}, RepSs K F ρ b vs ss → ∀ (i : Nat) (s : Sl), ss[i]? = some s → ∃ v, vs[i]? = some v ∧ RepS K F ρ b v s := by
    intro vs ss r
    induction r with
    | nil => exact fun i s e => by simp at e
    | cons h _ ih =>
      intro i s e
      cases i with
      | zero =>
        simp at e
        subst e
        exact ⟨_, rfl, h⟩
      | succ i =>
        obtain ⟨v, g1, g2⟩ := ih i s (by simpa using e)
        exact ⟨v, by simpa using g1, g2⟩
  refine ⟨?_, fun i s e => ?_⟩
  · unfold L2.start
    simp [hl, h1, h2]
  · unfold L2.start
    by_cases q : i < ss.length
    · rw [List.getElem?_append_left (by simpa using q), List.getElem?_map] at e
      cases e1 : ss[i]? with
      | none =>
        rw [e1] at e
        cases e
      | some s' =>
        rw [e1] at e
        cases e
        obtain ⟨v, g1, g2⟩ := get r i s e1
        refine ⟨v, ?_, g2⟩
        rw [List.getElem?_append_left (by rw [List.length_map, hl]; exact q), List.getElem?_map, g1]
        rfl
    · rw [List.getElem?_append_right (by simpa using q)] at e
      have := List.mem_of_getElem? e
      have := List.eq_of_mem_replicate this
      cases this
theorem leave_post {r : R (Flow × Env)} (q : Post K xr E F ρ st H (leave st.length r) (QV K Q)) : Post K xr E F ρ st H r (EndS K { nx := fun _ H' => Q .non H', rt := Q }) := by
  cases r with
  | bad => exact q
  | exc x t => exact fun F' ρ' H' c d rl sp => q F' (ρ'.take st.length) H' c d (rl.take _) (sp.take (Nat.le_refl _))
  | ok r t =>
    obtain ⟨fl, env⟩ := r
    intro F' ρ' H' rl sp
    cases fl with
    | nx => exact fun sg eo => q F' (ρ'.take st.length) H' (rl.take _) (sp.take (Nat.le_refl _)) .non .non
    | bk => exact q.elim
    | ct => exact q.elim
    | rt v =>
      intro u ru
      cases v with
      | val p => exact q F' (ρ'.take st.length) H' (rl.take _) (sp.take (Nat.le_refl _)) u ru
      | ref m =>
        have e : leave st.length (.ok (.rt (.ref m), env) t) = if m < st.length then .ok (.ref m) (t.take st.length) else .ok (.ref m) t := rfl
        rw [e] at q
        split at q
        · rename_i hm
          obtain ⟨h1, a, h2, h3⟩ := ru
          refine q F' (ρ'.take st.length) H' (rl.take _) (sp.take (Nat.le_refl _)) u ⟨?_, a, ?_, h3⟩
          · rw [List.length_take]
            have := sp.len
            omega
          · rw [List.getElem?_take_of_lt hm]
            exact h2
        · exact q F' ρ' H' rl sp u ru
end
section
variable {P : Program} {w : World} {K : PySem.W.Frag} {mg : Str → Option Value} {base : Heap} {xr : XR} {T : Tab} {fa : Nat → Addr} {fd : Nat → FuncData} {ps : Nat → List Str} {fns gls blts : List Str}
theorem tab_fn (t : TabOk K mg xr T fa fd ps fns gls blts) : ∀ (k i : Nat) (x : Str), fns[i]? = some x → FnOk P w K mg base (L2.CX P w) k (fa i) (fd i) (ps i) (spec K xr T k i)
  | k, i, x, hx => by
    have hl : ∀ k vs H Q E, spec K xr T k i vs H Q E → vs.length = (ps i).length := fun k vs H Q E h => by
      obtain ⟨_, _, _, qual, st, N, d⟩ := t.defs i x hx
      obtain ⟨dd, h1, h2, h3, h4⟩ := d.ok
      have h5 := h.1
      rw [h1] at h5
      rw [h2]
      exact h5
    cases k with
    | zero => exact ⟨hl 0, fun A outer s H args us vs Q E _ _ _ _ ⟨_, _, _, _, _, _, _, h⟩ => h.elim⟩
    | succ k =>
      obtain ⟨_, _, _, qual, st, N, d⟩ := t.defs i x hx
      obtain ⟨dd, h1, h2, h3, h4⟩ := d.ok
      refine Fun.okX d.fn d.sc (hl (k + 1)) fun cdv A outer s H vs Q E hr hsp => ?_
      obtain ⟨hn, F, ρ, sto, ss, rl, rs, q⟩ := hsp
      have hn : vs.length = dd.np := by
        rw [h1] at hn
        exact hn
      have e : run T (k + 1) i ss sto = if ss.length = dd.np ∧ dd.np ≤ dd.nn then leave sto.length (evSs ⟨run T k, T.glo, T.fuel, sto.length⟩ dd.body (ss.map some ++ List.replicate (dd.nn - dd.np) none) sto) else .bad := by
        show (match T.fns[i]? with | none => R.bad | some d => if ss.length = d.np ∧ d.np ≤ d.nn then leave sto.length (evSs ⟨run T k, T.glo, T.fuel, sto.length⟩ d.body (ss.map some ++ List.replicate (d.nn - d.np) none) sto) else .bad) = _
        rw [h1]
      rw [e] at q
      split at q
      · rename_i hc
        have o : XOk xr T fa fd ps k ⟨N, defScope st, fun _ => true, fns, gls, blts⟩ (fun _ => E) (cxOf (L2.CX P w) P w K mg base N qual (defScope st) (fa i) cdv A outer s H E) := by
          refine ⟨rfl, d.sc.nd, rfl, fun _ _ => rfl, rfl, hr, L2.takes_of rfl rfl rfl rfl, t.blt, fun j y hy => ?_, t.gls⟩
          obtain ⟨g1, g2, g3, _⟩ := t.defs j y hy
          exact ⟨g1, g2, g3, tab_fn t k j y hy⟩
        have own : PassesOwn (model P w) (cxOf (L2.CX P w) P w K mg base N qual (defScope st) (fa i) cdv A outer s H E).A (cxOf (L2.CX P w) P w K mg base N qual (defScope st) (fa i) cdv A outer s H E).env (cxOf (L2.CX P w) P w K mg base N qual (defScope st) (fa i) cdv A outer s H E).xe :=
          L2.passes_of (X := cxOf (L2.CX P w) P w K mg base N qual (defScope st) (fa i) cdv A outer s H E) rfl
        have ev : EvOk T k ⟨run T k, T.glo, T.fuel, sto.length⟩ := ⟨rfl, rfl, rfl⟩
        refine ⟨_, sndSs ev ⟨o, own⟩ dd.body ⟨F, ρ, sto, H⟩ (defBody st) rfl h4, _, F, ρ, sto, ⟨rl, env_start rs hc.1 h3, .refl (Nat.le_refl _)⟩, leave_post q⟩
      · exact q.elim
end
end Fy

/-! Fy20: from the facts of a module to its table; the end of a law. -/
namespace Fy
open PySem
open PySem.Spec
open PyProof.Rows
open L2

/-- a def: its name, its statement, its names by slot, its parameters -/
structure DefT where
  x : Str
  st : Stmt
  N : List Str
  ps : List Str
structure DefS (d : DefT) : Prop where
  sc : FnScope d.N d.ps (defScope d.st)
  bd : ∀ (kV doc pm : Value) (an : Option Addr) (cdv ct : Value) (us : List Value), us.length = d.ps.length → bindArgs (PySem.W.fnOf d.x d.x (defArgs d.st) (defBody d.st) (defScope d.st) .none kV doc pm an cdv ct) ⟨us, []⟩ = pure (d.ps.zip us)
def AllD : List DefT → Prop
  | [] => True
  | d :: r => DefS d ∧ AllD r
def agAll (fns gls blts : List Str) : List DefT → List Fd → Bool
  | [], fs => match fs with | [] => true | _ => false
  | d :: r, fs => match fs with
    | f :: fs => (d.ps.length == f.np) && (d.N.length == f.nn) && agSs ⟨d.N, defScope d.st, fun _ => true, fns, gls, blts⟩ f.body (defBody d.st) && agAll fns gls blts r fs
    | [] => false
/-- a def as the module's heap has it -/
structure Got (K : PySem.W.Frag) (d : DefT) (f : Addr) (fd : FuncData) : Prop where
  ns : PySem.W.nsIn K mainGlobals d.x = some (some (.ref f))
  fn : Fun K d.x d.x d.st f fd
inductive Gots (K : PySem.W.Frag) : List DefT → List (Addr × FuncData) → Prop
  | nil : Gots K [] []
  | cons {d : DefT} {r : List DefT} {f : Addr} {fd : FuncData} {l : List (Addr × FuncData)} : Got K d f fd → Gots K r l → Gots K (d :: r) ((f, fd) :: l)
theorem got {K : PySem.W.Frag} {d : DefT} {f : Addr} {oc : Value} {od an : Option Addr} {osl : Array (Option Value)} {kV doc pm cdv ct : Value} (a : PySem.W.nsIn K mainGlobals d.x = some (some (.ref f)))
    (l : K.lookup f = some ⟨oc, od, .func (PySem.W.fnOf d.x d.x (defArgs d.st) (defBody d.st) (defScope d.st) .none kV doc pm an cdv ct), osl⟩) (c : PySem.W.codeIn K cdv d.x = true) (k : PySem.W.keepIn K (.ref f) = true) :
    Got K d f (PySem.W.fnOf d.x d.x (defArgs d.st) (defBody d.st) (defScope d.st) .none kV doc pm an cdv ct) := ⟨a, fun_mk l c k⟩
/-- a constant of the module -/
inductive GotG (K : PySem.W.Frag) (x : Str) : P → Prop
  | str {z : Str} {t : Tok} : PySem.W.nsIn K mainGlobals x = some (some (.str z t)) → GotG K x (.str z)
  | int {i : Int} {t : Tok} : PySem.W.nsIn K mainGlobals x = some (some (.int i t)) → GotG K x (.int i)
inductive GotGs (K : PySem.W.Frag) : List Str → List P → Prop
  | nil : GotGs K [] []
  | cons {x : Str} {xs : List Str} {p : P} {ps : List P} : GotG K x p → GotGs K xs ps → GotGs K (x :: xs) (p :: ps)
inductive Nones (K : PySem.W.Frag) : List Str → Prop
  | nil : Nones K []
  | cons {x : Str} {xs : List Str} : PySem.W.nsIn K mainGlobals x = some none → Nones K xs → Nones K (x :: xs)
section
variable {K : PySem.W.Frag} {mg : Str → Option Value} {h : Heap} {fns gls blts : List Str}
theorem Gots.get {ds : List DefT} {l : List (Addr × FuncData)} (g : Gots K ds l) : ∀ {i : Nat} {d : DefT}, ds[i]? = some d → ∃ q, l[i]? = some q ∧ Got K d q.1 q.2 := by
  induction g with
  | nil => exact fun {i d} e => by simp at e
  | @cons d0 r f fd l h _ ih =>
    intro i d e
    cases i with
    | zero =>
      simp at e
      subst e
      exact ⟨(f, fd), rfl, h⟩
    | succ i => exact ih (by simpa using e)
theorem AllD.get : ∀ {ds : List DefT}, AllD ds → ∀ {i : Nat} {d : DefT}, ds[i]? = some d → DefS d
  | [], _, _, _, e => by simp at e
  | d0 :: r, ⟨h, hr⟩, 0, d, e => by
    simp at e
    subst e
    exact h
  | d0 :: r, ⟨h, hr⟩, i + 1, d, e => AllD.get hr (i := i) (by simpa using e)
theorem agAll_get : ∀ {ds : List DefT} {fs : List Fd}, agAll fns gls blts ds fs = true → ∀ {i : Nat} {d : DefT}, ds[i]? = some d →
    ∃ f, fs[i]? = some f ∧ d.ps.length = f.np ∧ d.N.length = f.nn ∧ agSs ⟨d.N, defScope d.st, fun _ => true, fns, gls, blts⟩ f.body (defBody d.st) = true
  | [], _, _, _, _, e => by simp at e
  | d0 :: r, [], h, _, _, _ => by cases h
  | d0 :: r, f :: fs, h, i, d, e => by
    have h : ((d0.ps.length == f.np) && (d0.N.length == f.nn) && agSs ⟨d0.N, defScope d0.st, fun _ => true, fns, gls, blts⟩ f.body (defBody d0.st) && agAll fns gls blts r fs) = true := h
    simp only [Bool.and_eq_true, beq_iff_eq] at h
    obtain ⟨⟨⟨a1, a2⟩, a3⟩, a4⟩ := h
    cases i with
    | zero =>
      simp at e
      subst e
      exact ⟨f, rfl, a1, a2, a3⟩
    | succ i =>
      obtain ⟨f', e1, e2⟩ := agAll_get a4 (i := i) (d := d) (by simpa using e)
      exact ⟨f', by simpa using e1, e2⟩
theorem Nones.get {xs : List Str} (n : Nones K xs) : ∀ {x : Str}, x ∈ xs → PySem.W.nsIn K mainGlobals x = some none := by
  induction n with
  | nil => exact fun {x} h => by simp at h
  | cons h _ ih =>
    intro x hx
    (rcases List.mem_cons.mp hx with rfl | hx)
    · exact h
    · exact ih hx
theorem GotGs.get {xs : List Str} {ps : List P} (g : GotGs K xs ps) : ∀ {i : Nat} {x : Str} {p : P}, xs[i]? = some x → ps[i]? = some p → GotG K x p := by
  induction g with
  | nil => exact fun {i x p} e => by simp at e
  | cons h _ ih =>
    intro i x p e1 e2
    cases i with
    | zero =>
      simp at e1 e2
      subst e1 e2
      exact h
    | succ i => exact ih (i := i) (by simpa using e1) (by simpa using e2)
theorem tab_mk {xr : XR} {T : Tab} {ds : List DefT} {l : List (Addr × FuncData)} (X : K.In h) (G : h.Ns mainGlobals mg) (g : Gots K ds l) (n : Nones K blts) (gg : GotGs K gls T.glo) (hs : AllD ds) (ha : agAll fns gls blts ds T.fns = true) (hf : fns = ds.map (·.x)) :
    TabOk K mg xr T (fun i => ((l[i]?).map (·.1)).getD 0) (fun i => ((l[i]?).map (·.2)).getD default) (fun i => ((ds[i]?).map (·.ps)).getD []) fns gls blts := by
  refine ⟨fun i x hx => ?_, fun x hx => PySem.W.mg_none_of X G (n.get hx), fun i x p h1 h2 => ?_⟩
  · rw [hf, List.getElem?_map] at hx
    cases hd : ds[i]? with
    | none =>
      rw [hd] at hx
      cases hx
    | some d =>
      rw [hd] at hx
      cases hx
      obtain ⟨q, e1, e2⟩ := g.get hd
      have s := hs.get hd
      obtain ⟨f, a1, a2, a3, a4⟩ := agAll_get ha hd
      have e3 : ((l[i]?).map (·.1)).getD 0 = q.1 := by rw [e1]; rfl
      have e4 : ((l[i]?).map (·.2)).getD default = q.2 := by rw [e1]; rfl
      rw [e3, e4]
      exact ⟨PySem.W.mg_of X G e2.ns, e2.fn.kp, e2.fn.binds s.bd, d.x, d.st, d.N, e2.fn, s.sc, f, a1, a2, a3, a4⟩
  · cases gg.get h1 h2 with
    | str e => exact ⟨_, .str _, PySem.W.mg_of X G e, ⟨_, rfl⟩, fun _ => .str _⟩
    | int e => exact ⟨_, .int _, PySem.W.mg_of X G e, ⟨_, rfl⟩, fun _ => .int _⟩
/-- the law's call: the script as data -/
theorem law_spec {xr : XR} {T : Tab} {k i : Nat} {d : Fd} (hd : T.fns[i]? = some d) (h1 : d.np = 1) (H : Hp) (a : Addr) (ns : List Int) (hS : SqL K H a (ns.map V.int)) {st : Sto} (hr : run T k i [.val (.scr (ns.map P.int))] [] = .ok (.val (.bl true)) st) : spec K xr T k i [.ref a] H (fun v _ => v = .bl true) fun _ _ _ => False := by
  have rs : ∀ ns : List Int, Reps K H (ns.map V.int) (ns.map P.int) := fun ns => by
    induction ns with
    | nil => exact .nil
    | cons n ns ih => exact .cons (.int n) ih
  refine ⟨by rw [hd]; exact h1.symm, H, [], [], [.val (.scr (ns.map P.int))], ⟨rfl, .refl _, fun n c e => by simp at e, fun m n cm cn a e => by simp at e⟩, .cons (.scr hS (rs ns)) .nil, ?_⟩
  rw [hr]
  exact fun F' ρ' H' rl sp v rv => Rep.bl_inv rv
end
/-- the end of a law -/
theorem law_end {l : PySem.W.OpenLaw} {q : Program} {loose : List Str} {XP : (Str → Option Value) → Heap → Prop} {YP : World → Heap → Prop} {d : DefRec} {K : Params → PySem.W.Frag} {T : Tab} {k i : Nat} {ds : List DefT} {gls blts : List Str} {x : Str} {f : Fd} {dl : DefT}
    (hn : l.most = some 63) (hdf : d.params.defaults = []) (hr : Room k callerA) (hY : ∀ (w : World) (h : Heap), YP w h → (K w.params).In h)
    (hf : ∀ w : World, ∃ l : List (Addr × FuncData), Gots (K w.params) ds l ∧ Nones (K w.params) blts ∧ GotGs (K w.params) gls T.glo) (hs : AllD ds) (ha : agAll (ds.map (·.x)) gls blts ds T.fns = true)
    (hdl : ds[i]? = some dl) (hx : dl.x = d.name) (hps : dl.ps = [x]) (hfd : T.fns[i]? = some f) (hnp : f.np = 1)
    (law : ∀ ns : List Int, ns.length ≤ 63 → (∀ z ∈ ns, Builtin.Int.intBits z ≤ 1048576) → ∃ st, run T k i [.val (.scr (ns.map P.int))] [] = .ok (.val (.bl true)) st) : PySem.W.WalkO q loose XP YP l.row.toRowW d [] (fun f vs => PySem.call f vs) := by
  refine L2.walk_ofB (l := l) (n := 63) (k := k) (x := x) (CX := fun w => L2.CX l.prog w) (sp := fun w => spec (K w.params) (fun _ _ _ _ => False) T k i) hn (by decide) hdf hr hY (fun w mg fa h KX G hmg => ?_) (fun w H a ns hl hb _ hS => ?_) ?_
  · obtain ⟨fl, g1, g2, g3⟩ := hf w
    have t := fun {base : Heap} (X : (K w.params).In base) (G : base.Ns mainGlobals mg) => tab_mk (xr := fun _ _ _ _ => False) (T := T) X G g1 g2 g3 hs ha rfl
    have hxi : (ds.map (·.x))[i]? = some d.name := by
      rw [List.getElem?_map, hdl, ← hx]
      rfl
    obtain ⟨q, e1, e2⟩ := g1.get hdl
    have m1 := PySem.W.mg_of KX G e2.ns
    rw [hx, hmg] at m1
    have ea : fa = q.1 := by
      cases m1
      rfl
    have eps : ((ds[i]?).map (·.ps)).getD [] = [x] := by
      rw [hdl]
      exact hps
    have ef : ((fl[i]?).map (·.1)).getD 0 = q.1 := by
      rw [e1]
      rfl
    have eg : ((fl[i]?).map (·.2)).getD default = q.2 := by
      rw [e1]
      rfl
    refine ⟨q.2, fun s u => ?_, fun base X2 G2 => ?_⟩
    · obtain ⟨oc, od, kV, doc, pm, an, cdv, ct, osl, efd, _, _⟩ := e2.fn.ex
      rw [efd]
      refine .of_eq ?_
      have z := (hs.get hdl).bd kV doc pm an cdv ct [u] (by rw [hps]; rfl)
      rw [hps] at z
      exact z
    · have r := tab_fn (P := l.prog) (w := w) (base := base) (t X2 G2) k i d.name hxi
      rw [ef, eg, eps] at r
      rw [ea]
      exact r
  · obtain ⟨st, hst⟩ := law ns hl hb
    exact law_spec hfd hnp H a ns hS hst
  · rintro w H s e s' ⟨_, _, _, _, _, _, _, _, _, _, _, _, z⟩
    exact z
end Fy

/-! Pl0: plain reasoning about what a term of our language gives. -/
namespace Fy
open PySem (Str)

/-- the step goes well and gives what is wanted -/
def Ok {α : Type} (r : R α) (Q : α → Sto → Prop) : Prop :=
  match r with
  | .ok a s => Q a s
  | _ => False
section
variable {α β : Type} {Q Q' : α → Sto → Prop} {st : Sto}
theorem Ok.imp {r : R α} (h : Ok r Q) (f : ∀ a s, Q a s → Q' a s) : Ok r Q' := by
  cases r with
  | ok a s => exact f a s h
  | exc x s => exact h
  | bad => exact h
theorem Ok.out {r : R α} (h : Ok r Q) : ∃ a s, r = .ok a s ∧ Q a s := by
  cases r with
  | ok a s => exact ⟨a, s, rfl, h⟩
  | exc x s => exact h.elim
  | bad => exact h.elim
theorem ok_bnd {m : M α} {f : α → M β} {W : β → Sto → Prop} : Ok (bnd m f st) W ↔ Ok (m st) (fun a t => Ok (f a t) W) := by
  unfold Fy.bnd
  cases e : m st <;> rfl
theorem ok_ret {a : α} : Ok (ret a st) Q ↔ Q a st := .rfl
theorem ok_lift {o : Option α} : Ok (lift o st) Q ↔ ∃ a, o = some a ∧ Q a st := by
  cases o with
  | none => exact ⟨fun h => h.elim, fun ⟨_, e, _⟩ => nomatch e⟩
  | some a => exact ⟨fun h => ⟨a, rfl, h⟩, fun ⟨b, e, h⟩ => by
      cases e
      exact h⟩
theorem ok_some {a : α} : Ok (lift (some a) st) Q ↔ Q a st := .rfl
theorem ok_stuck : Ok ((stuck : M α) st) Q ↔ False := .rfl
theorem ok_nox {m : M α} : Ok (nox m st) Q ↔ Ok (m st) Q := by
  unfold nox
  cases m st <;> rfl
theorem peek_val {p : P} {W : P → Sto → Prop} : Ok (peek (.val p) st) W ↔ W p st := .rfl
theorem asP_val {p : P} {W : P → Sto → Prop} : Ok (asP (.val p) st) W ↔ W p st := .rfl
theorem peek_lst {n : Nat} {xs : List P} {W : P → Sto → Prop} (h : st[n]? = some (.lst xs)) : Ok (peek (.ref n) st) W ↔ W (.lst xs) st := by
  unfold peek
  show Ok (match st[n]? with | some (.lst ys) => _ | some (.lck ys) => _ | some (.dct ks) => _ | _ => _) W ↔ _
  rw [h]
  rfl
/-- what a def gives back -/
def Lv (n : Nat) (Q : Sl → Sto → Prop) (r : Flow × Env) (t : Sto) : Prop :=
  match r.1 with
  | .nx => Q (.val .non) (t.take n)
  | .rt (.val p) => Q (.val p) (t.take n)
  | .rt (.ref m) => if m < n then Q (.ref m) (t.take n) else Q (.ref m) t
  | _ => False
theorem ok_run {T : Tab} {k f np nn : Nat} {b : Sts} {as : List Sl} {W : Sl → Sto → Prop} (h : T.fns[f]? = some ⟨np, nn, b⟩) (hl : as.length = np) (hn : np ≤ nn)
    (q : Ok (evSs ⟨run T k, T.glo, T.fuel, st.length⟩ b (as.map some ++ List.replicate (nn - np) none) st) (Lv st.length W)) : Ok (run T (k + 1) f as st) W := by
  unfold run
  show Ok (match T.fns[f]? with | none => _ | some d => _) W
  rw [h]
  show Ok (if as.length = np ∧ np ≤ nn then _ else _) W
  rw [if_pos ⟨hl, hn⟩]
  obtain ⟨⟨fl, env⟩, t, e, g⟩ := q.out
  rw [e]
  cases fl with
  | nx => exact g
  | bk => exact g.elim
  | ct => exact g.elim
  | rt v =>
    cases v with
    | val p => exact g
    | ref m =>
      have g : if m < st.length then W (.ref m) (t.take st.length) else W (.ref m) t := g
      show Ok (if m < st.length then _ else _) W
      split at g
      · rename_i hm
        rw [if_pos hm]
        exact g
      · rename_i hm
        rw [if_neg hm]
        exact g
/-! ### small steps -/
theorem idx_lst {xs : List P} {i : Int} : idxP (.lst xs) (.int i) = atP xs i := rfl
theorem idx_tup {xs : List P} {i : Int} : idxP (.tup xs) (.int i) = atP xs i := rfl
theorem idx_scr {xs : List P} {i : Int} : idxP (.scr xs) (.int i) = atP xs i := rfl
theorem at_0 {x : P} {xs : List P} : atP (x :: xs) 0 = some x := by
  unfold atP ixQ
  rw [if_pos (Int.le_refl 0), if_pos (by simp)]
  rfl
theorem at_1 {x y : P} {xs : List P} : atP (x :: y :: xs) 1 = some y := by
  unfold atP ixQ
  rw [if_pos (by decide), if_pos (by simp [List.length_cons]; omega)]
  rfl
theorem at_2 {x y z : P} {xs : List P} : atP (x :: y :: z :: xs) 2 = some z := by
  unfold atP ixQ
  rw [if_pos (by decide), if_pos (by simp [List.length_cons]; omega)]
  rfl
theorem cmp_gt {i j : Int} : cmpP .gt (.int i) (.int j) = some (decide (j < i)) := rfl
theorem cmp_ge {i j : Int} : cmpP .ge (.int i) (.int j) = some (decide (j ≤ i)) := rfl
theorem cmp_lt {i j : Int} : cmpP .lt (.int i) (.int j) = some (decide (i < j)) := rfl
theorem cmp_le {i j : Int} : cmpP .le (.int i) (.int j) = some (decide (i ≤ j)) := rfl
theorem tru_bl {b : Bool} {W : Bool → Sto → Prop} {t : Sto} : Ok (tru (.val (.bl b)) t) W ↔ W b t := .rfl
theorem bin_add {i j : Int} : binP .add (.int i) (.int j) = some (.int (i + j)) := rfl
theorem bin_sub {i j : Int} : binP .sub (.int i) (.int j) = some (.int (i - j)) := rfl
theorem bin_mod {i j : Int} (h : 0 < j) : binP .mod (.int i) (.int j) = some (.int (i % j)) := if_pos h
theorem bin_fdiv {i j : Int} (h : 0 < j) (hl : j.natAbs.log2 < 9000) : binP .fdiv (.int i) (.int j) = some (.int (i / j)) := if_pos ⟨h, hl⟩
theorem bin_mul {i j : Int} (h : i.natAbs.log2 + j.natAbs.log2 < 1000000) : binP .mul (.int i) (.int j) = some (.int (i * j)) := if_pos h
theorem blt_int {i : Int} : bltP .int [.int i] = some (.int i) := rfl
theorem blt_intb {b : Bool} : bltP .int [.bl b] = some (.int (b2i b)) := rfl
theorem peeks_nil {W : List P → Sto → Prop} {t : Sto} : Ok (peeks [] t) W ↔ W [] t := .rfl
theorem peeks_cons {x : Sl} {xs : List Sl} {W : List P → Sto → Prop} {t : Sto} : Ok (peeks (x :: xs) t) W ↔ Ok (peek x t) fun p t => Ok (peeks xs t) fun ps t => W (p :: ps) t := by
  show Ok (bnd (peek x) (fun p => bnd (peeks xs) fun ps => ret (p :: ps)) t) W ↔ _
  simp only [ok_bnd, ok_ret]
theorem set_slot {env : Env} {i : Nat} {v : Sl} {W : Flow × Env → Sto → Prop} {t : Sto} (h : i < env.length) : Ok (setSl env i v t) W ↔ W (.nx, env.set i (some v)) t := by
  unfold setSl
  rw [if_pos h]
  rfl
theorem set_cell {n : Nat} {f : Cell → Option Cell} {c c' : Cell} {W : Unit → Sto → Prop} {t : Sto} (h : t[n]? = some c) (e : f c = some c') : Ok (setM (.ref n) f t) W ↔ W () (t.set n c') := by
  unfold setM
  show Ok (match t[n]? with | some c => (match f c with | some c' => _ | none => _) | none => _) W ↔ _
  rw [h]
  show Ok (match f c with | some c' => _ | none => _) W ↔ _
  rw [e]
  rfl
theorem lv_val {n : Nat} {W : Sl → Sto → Prop} {p : P} {env : Env} {t : Sto} : Lv n W (.rt (.val p), env) t ↔ W (.val p) (t.take n) := .rfl
theorem vals_nil : vals [] = some [] := rfl
theorem vals_cons {p : P} {r : List Sl} : vals (.val p :: r) = (vals r).map (p :: ·) := rfl
theorem ok_ok {a : α} : Ok (R.ok a st) Q ↔ Q a st := .rfl
theorem cell_lst {xs : List P} : cellOf (.lst xs) = some (.lst xs) := rfl
theorem cell_dct {xs : List (P × P)} : cellOf (.dct xs) = some (.dct xs) := rfl
theorem lv_new {W : Sl → Sto → Prop} {env : Env} {t : Sto} {c : Cell} {n : Nat} (h : t.length = n) : Lv n W (.rt (.ref t.length), env) (t ++ [c]) ↔ W (.ref t.length) (t ++ [c]) := by
  subst h
  show (if t.length < t.length then _ else _) ↔ _
  rw [if_neg (Nat.lt_irrefl _)]
end
end Fy

/-! Pl1: the draws: what every law begins with. -/
namespace Fy
open PySem (Str)
/-- _law_draws -/
def gD1 : St := (.asg 2 (.bin .mul (.cst (.int 15485863)) (.var 1)))
def gD2 : St := (.ite (.cmp .lt (.var 1) (.blt .len (.cons (.var 0) .nil))) (.cons (.asg 2 (.bin .mod (.blt .int (.cons (.blt .abs (.cons (.idx (.var 0) (.var 1)) .nil)) .nil)) (.bin .mul (.bin .mul (.bin .mul (.bin .pow (.cst (.int 10)) (.cst (.int 60))) (.bin .pow (.cst (.int 10)) (.cst (.int 60)))) (.bin .pow (.cst (.int 10)) (.cst (.int 60)))) (.bin .pow (.cst (.int 10)) (.cst (.int 60)))))) .nil) (.cons (.ite (.cmp .gt (.blt .len (.cons (.var 0) .nil)) (.cst (.int 0))) (.cons (.asg 2 (.bin .add (.bin .mod (.blt .int (.cons (.blt .abs (.cons (.idx (.var 0) (.bin .mod (.var 1) (.blt .len (.cons (.var 0) .nil)))) .nil)) .nil)) (.bin .pow (.cst (.int 10)) (.cst (.int 15)))) (.bin .mul (.cst (.int 15485863)) (.var 1)))) .nil) .nil) .nil))
def gD3 : Sts := (.cons (.asg 3 (.bin .add (.cst (.int 1)) (.bin .mod (.blt .int (.cons (.bin .add (.bin .mul (.var 2) (.cst (.int 69621))) (.bin .mul (.cst (.int 86028121)) (.bin .add (.var 1) (.cst (.int 1))))) .nil)) (.cst (.int 2147483646))))) (.cons (.ret (.new (.lst (.cons (.bin .mul (.var 2) (.blt .int (.cons (.cmp .ge (.var 2) (.bin .pow (.cst (.int 10)) (.cst (.int 18)))) .nil))) (.cons (.var 3) .nil))))) .nil))
def gDraws : Sts := .cons gD1 (.cons gD2 gD3)
/-- _law_draw -/
def gDraw : Sts := (.cons (.ite (.cmp .gt (.idx (.var 0) (.cst (.int 0))) (.cst (.int 0))) (.cons (.asg 2 (.bin .mod (.blt .int (.cons (.idx (.var 0) (.cst (.int 0))) .nil)) (.var 1))) (.cons (.seti (.var 0) (.cst (.int 0)) (.bin .fdiv (.idx (.var 0) (.cst (.int 0))) (.var 1))) (.cons (.ret (.var 2)) .nil))) .nil) (.cons (.asgP (.tp [(.nm 2), (.nm 3)]) (.tup (.cons (.cst (.int 0)) (.cons (.cst (.int 1)) .nil)))) (.cons (.whl (.cmp .lt (.var 3) (.var 1)) (.cons (.seti (.var 0) (.cst (.int 1)) (.bin .mod (.blt .int (.cons (.bin .mul (.idx (.var 0) (.cst (.int 1))) (.cst (.int 69621))) .nil)) (.cst (.int 2147483647)))) (.cons (.asg 4 (.bin .fdiv (.bin .mod (.blt .int (.cons (.bin .mul (.idx (.var 0) (.cst (.int 1))) (.bin .add (.bin .fdiv (.idx (.var 0) (.cst (.int 1))) (.cst (.int 128))) (.cst (.int 3)))) .nil)) (.cst (.int 2147483629))) (.cst (.int 8)))) (.cons (.asg 2 (.bin .add (.bin .mul (.var 2) (.cst (.int 268435456))) (.var 4))) (.cons (.asg 3 (.bin .mul (.var 3) (.cst (.int 268435456)))) .nil))))) (.cons (.ret (.bin .mod (.blt .int (.cons (.var 2) .nil)) (.var 1))) .nil))))
theorem lt_of_some {α : Type} {l : List α} {n : Nat} {a : α} (h : l[n]? = some a) : n < l.length := by
  by_cases z : n < l.length
  · exact z
  · rw [List.getElem?_eq_none (by omega)] at h
    cases h
theorem list_set_same {α : Type} {l : List α} {n : Nat} {a : α} (h : l[n]? = some a) : l.set n a = l := by
  have hn := lt_of_some h
  rw [List.getElem?_eq_getElem hn] at h
  cases h
  exact List.set_getElem_self hn
/-- the state of the draws -/
def Drw (st : Sto) (n : Nat) : Prop := ∃ x y : Int, st[n]? = some (.lst [.int x, .int y]) ∧ 0 ≤ x ∧ x < 10 ^ 240 ∧ 0 ≤ y ∧ y < 2147483648
theorem draw_big {T : Tab} {k f n : Nat} {many x y : Int} {st : Sto} (hf : T.fns[f]? = some ⟨2, 5, gDraw⟩) (hm : 0 < many) (hs : st[n]? = some (.lst [.int x, .int y])) (hx : 0 < x) (hb : many.natAbs.log2 < 9000) :
    Ok (run T (k + 1) f [.ref n, .val (.int many)] st) fun v t => v = .val (.int (x % many)) ∧ t = st.set n (.lst [.int (x / many), .int y]) := by
  have hn : n < st.length := by
    by_cases z : n < st.length
    · exact z
    · rw [List.getElem?_eq_none (by omega)] at hs
      cases hs
  refine ok_run hf rfl (by decide) ?_
  unfold gDraw
  simp only [List.map_cons, List.map_nil, List.cons_append, List.nil_append, List.replicate, evSs, evS, evE.eq_1, evE.eq_2, evE.eq_3, evE.eq_4, evE.eq_5, evE.eq_6, evE.eq_7, evE.eq_8, evE.eq_9, evE.eq_10, evE.eq_11, evE.eq_12, evE.eq_13, evE.eq_14, evE.eq_15, evE.eq_16, evE.eq_17, evE.eq_18, evE.eq_19, evE.eq_20, evE.eq_24, evE.eq_25, evE.eq_26, evE.eq_27, evEs, ok_bnd, List.getElem?_cons_zero, List.getElem?_cons_succ, ok_ret, peek_val, asP_val, ok_some, Option.map_some, idx_lst, idx_tup, at_0, at_1, at_2, cmp_gt, cmp_ge, cmp_lt, cmp_le, tru_bl, bin_add, bin_sub, blt_int, blt_intb, peeks_nil, peeks_cons, List.set_cons_zero, List.set_cons_succ, lv_val, set_slot, vals_nil, vals_cons, ok_ok, cell_lst, cell_dct, Ex.fresh, if_true, List.length_cons, List.length_nil, Nat.reduceAdd, Nat.reduceLT, Nat.reduceSub, Nat.zero_add, peek_lst hs, decide_eq_true hx, if_true, bin_mod hm, bin_fdiv hm hb, set_cell (f := fun c => setC c (.int 0) (.int (x / many))) (c' := .lst [.int (x / many), .int y]) hs rfl]
  exact ⟨trivial, List.take_of_length_le (by rw [List.length_set]; exact Nat.le_refl _)⟩
theorem log_lt {i : Int} {k : Nat} (h : i < 2 ^ k) (h0 : 0 ≤ i) (hk : 0 < k) : i.natAbs.log2 < k := by
  by_cases z : i.natAbs = 0
  · rw [z]
    exact hk
  · rw [Nat.log2_lt z]
    have e : ((2 ^ k : Nat) : Int) = (2 : Int) ^ k := by simp
    omega
/-- the loop of a draw: its test, its body -/
def lCond : Ex := (.cmp .lt (.var 3) (.var 1))
def lBody : Sts := (.cons (.seti (.var 0) (.cst (.int 1)) (.bin .mod (.blt .int (.cons (.bin .mul (.idx (.var 0) (.cst (.int 1))) (.cst (.int 69621))) .nil)) (.cst (.int 2147483647)))) (.cons (.asg 4 (.bin .fdiv (.bin .mod (.blt .int (.cons (.bin .mul (.idx (.var 0) (.cst (.int 1))) (.bin .add (.bin .fdiv (.idx (.var 0) (.cst (.int 1))) (.cst (.int 128))) (.cst (.int 3)))) .nil)) (.cst (.int 2147483629))) (.cst (.int 8)))) (.cons (.asg 2 (.bin .add (.bin .mul (.var 2) (.cst (.int 268435456))) (.var 4))) (.cons (.asg 3 (.bin .mul (.var 3) (.cst (.int 268435456)))) .nil))))
theorem draw_loop {C : Ev} {n : Nat} {many x : Int} {W : Flow × Env → Sto → Prop} : ∀ (m j fuel : Nat) (found y : Int) (mo : Option Sl) (st : Sto), 0 ≤ found → found < 2 ^ (28 * j + 1) → 0 ≤ y → y < 2147483648 → many ≤ 2 ^ (28 * (j + m)) → j + m ≤ 1000 → m < fuel → st[n]? = some (.lst [.int x, .int y]) →
    (∀ (found' y' : Int) (w : Option Sl) (mo' : Option Sl) (t : Sto), 0 ≤ found' → 0 ≤ y' → y' < 2147483648 → t = st.set n (.lst [.int x, .int y']) → W (.nx, [some (.ref n), some (.val (.int many)), some (.val (.int found')), w, mo']) t) →
    Ok (loopW (fun env => bnd (evE C lCond env) tru) (evSs C lBody) fuel [some (.ref n), some (.val (.int many)), some (.val (.int found)), some (.val (.int (2 ^ (28 * j)))), mo] st) W := by
  intro m
  induction m with
  | zero =>
    intro j fuel found y mo st f0 f1 y0 y1 hm hj hf hs q
    obtain ⟨fuel, rfl⟩ : ∃ u, fuel = u + 1 := ⟨fuel - 1, by omega⟩
    unfold loopW
    unfold lCond
    have no : ¬ ((2 : Int) ^ (28 * j) < many) := by
      rw [Nat.add_zero] at hm
      omega
    simp only [List.map_cons, List.map_nil, List.cons_append, List.nil_append, List.replicate, evSs, evS, evE.eq_1, evE.eq_2, evE.eq_3, evE.eq_4, evE.eq_5, evE.eq_6, evE.eq_7, evE.eq_8, evE.eq_9, evE.eq_10, evE.eq_11, evE.eq_12, evE.eq_13, evE.eq_14, evE.eq_15, evE.eq_16, evE.eq_17, evE.eq_18, evE.eq_19, evE.eq_20, evE.eq_24, evE.eq_25, evE.eq_26, evE.eq_27, evEs, ok_bnd, List.getElem?_cons_zero, List.getElem?_cons_succ, ok_ret, peek_val, asP_val, ok_some, Option.map_some, idx_lst, idx_tup, at_0, at_1, at_2, cmp_gt, cmp_ge, cmp_lt, cmp_le, tru_bl, bin_add, bin_sub, blt_int, blt_intb, peeks_nil, peeks_cons, List.set_cons_zero, List.set_cons_succ, lv_val, set_slot, vals_nil, vals_cons, ok_ok, cell_lst, cell_dct, Ex.fresh, if_true, List.length_cons, List.length_nil, Nat.reduceAdd, Nat.reduceLT, Nat.reduceSub, Nat.zero_add, decide_eq_false no, Bool.false_eq_true, if_false]
    refine q found y _ _ _ f0 y0 y1 ?_
    exact (list_set_same hs).symm
  | succ m ih =>
    intro j fuel found y mo st f0 f1 y0 y1 hm hj hf hs q
    obtain ⟨fuel, rfl⟩ : ∃ u, fuel = u + 1 := ⟨fuel - 1, by omega⟩
    have hn : n < st.length := lt_of_some hs
    unfold loopW
    by_cases go : (2 : Int) ^ (28 * j) < many
    · have u0 : 0 ≤ y * 69621 % 2147483647 := by omega
      have u1 : y * 69621 % 2147483647 < 2147483647 := by omega
      generalize hu : y * 69621 % 2147483647 = u at u0 u1
      have hs1 : (st.set n (.lst [.int x, .int u]))[n]? = some (.lst [.int x, .int u]) := List.getElem?_set_self hn
      have l1 : y.natAbs.log2 + (69621 : Int).natAbs.log2 < 1000000 := by
        have := log_lt (i := y) (k := 32) (by omega) y0 (by decide)
        have : (69621 : Int).natAbs.log2 = 16 := by decide +kernel
        omega
      have v0 : 0 ≤ u / 128 + 3 := by omega
      have v1 : u / 128 + 3 < 2 ^ 32 := by omega
      have l2 : u.natAbs.log2 + (u / 128 + 3).natAbs.log2 < 1000000 := by
        have := log_lt (i := u) (k := 32) (by omega) u0 (by decide)
        have := log_lt v1 v0 (by decide)
        omega
      generalize hv : u / 128 + 3 = v at v0 v1 l2
      generalize hr : u * v % 2147483629 = r
      have r0 : 0 ≤ r := by omega
      have r1 : r < 2147483629 := by omega
      have l3 : found.natAbs.log2 + (268435456 : Int).natAbs.log2 < 1000000 := by
        have := log_lt f1 f0 (by omega)
        have : (268435456 : Int).natAbs.log2 = 28 := by decide +kernel
        omega
      have l4 : ((2 : Int) ^ (28 * j)).natAbs.log2 + (268435456 : Int).natAbs.log2 < 1000000 := by
        have := log_lt (i := (2 : Int) ^ (28 * j)) (k := 28 * j + 1) (by rw [Int.pow_succ]; have : (0 : Int) < 2 ^ (28 * j) := Int.pow_pos (by decide); omega) (Int.le_of_lt (Int.pow_pos (by decide))) (by omega)
        have : (268435456 : Int).natAbs.log2 = 28 := by decide +kernel
        omega
      have ew : (2 : Int) ^ (28 * j) * 268435456 = 2 ^ (28 * (j + 1)) := by
        rw [Nat.mul_add, Int.pow_add]
        rfl
      have k1 : (128 : Int).natAbs.log2 < 9000 := by decide +kernel
      have k2 : (8 : Int).natAbs.log2 < 9000 := by decide +kernel
      have p1 : (0 : Int) < 2147483647 := by decide
      have p2 : (0 : Int) < 2147483629 := by decide
      have p3 : (0 : Int) < 128 := by decide
      have p4 : (0 : Int) < 8 := by decide
      unfold lCond lBody
      simp only [List.map_cons, List.map_nil, List.cons_append, List.nil_append, List.replicate, evSs, evS, evE.eq_1, evE.eq_2, evE.eq_3, evE.eq_4, evE.eq_5, evE.eq_6, evE.eq_7, evE.eq_8, evE.eq_9, evE.eq_10, evE.eq_11, evE.eq_12, evE.eq_13, evE.eq_14, evE.eq_15, evE.eq_16, evE.eq_17, evE.eq_18, evE.eq_19, evE.eq_20, evE.eq_24, evE.eq_25, evE.eq_26, evE.eq_27, evEs, ok_bnd, List.getElem?_cons_zero, List.getElem?_cons_succ, ok_ret, peek_val, asP_val, ok_some, Option.map_some, idx_lst, idx_tup, at_0, at_1, at_2, cmp_gt, cmp_ge, cmp_lt, cmp_le, tru_bl, bin_add, bin_sub, blt_int, blt_intb, peeks_nil, peeks_cons, List.set_cons_zero, List.set_cons_succ, lv_val, set_slot, vals_nil, vals_cons, ok_ok, cell_lst, cell_dct, Ex.fresh, if_true, List.length_cons, List.length_nil, Nat.reduceAdd, Nat.reduceLT, Nat.reduceSub, Nat.zero_add, decide_eq_true go, if_true, peek_lst hs, bin_mul l1, bin_mod p1, hu, peek_lst hs1, bin_fdiv p3 k1, hv, bin_mul l2, bin_mod p2, hr, bin_fdiv p4 k2, bin_mul l3, bin_mul l4, ew, set_cell (f := fun c => setC c (.int 1) (.int u)) (c' := .lst [.int x, .int u]) hs rfl]
      refine ih (j + 1) fuel _ u _ _ (by omega) ?_ u0 (by omega) (by rw [show j + 1 + m = j + (m + 1) by omega]; exact hm) (by omega) (by omega) hs1 fun a b w mo' t ha hb hc ht => q a b w mo' t ha hb hc ?_
      · have e2 : (2 : Int) ^ (28 * (j + 1) + 1) = 2 ^ (28 * j + 1) * 268435456 := by
          rw [show 28 * (j + 1) + 1 = 28 * j + 1 + 28 by omega, Int.pow_add]
          rfl
        rw [e2]
        omega
      · rw [ht, List.set_set]
    · unfold lCond
      simp only [List.map_cons, List.map_nil, List.cons_append, List.nil_append, List.replicate, evSs, evS, evE.eq_1, evE.eq_2, evE.eq_3, evE.eq_4, evE.eq_5, evE.eq_6, evE.eq_7, evE.eq_8, evE.eq_9, evE.eq_10, evE.eq_11, evE.eq_12, evE.eq_13, evE.eq_14, evE.eq_15, evE.eq_16, evE.eq_17, evE.eq_18, evE.eq_19, evE.eq_20, evE.eq_24, evE.eq_25, evE.eq_26, evE.eq_27, evEs, ok_bnd, List.getElem?_cons_zero, List.getElem?_cons_succ, ok_ret, peek_val, asP_val, ok_some, Option.map_some, idx_lst, idx_tup, at_0, at_1, at_2, cmp_gt, cmp_ge, cmp_lt, cmp_le, tru_bl, bin_add, bin_sub, blt_int, blt_intb, peeks_nil, peeks_cons, List.set_cons_zero, List.set_cons_succ, lv_val, set_slot, vals_nil, vals_cons, ok_ok, cell_lst, cell_dct, Ex.fresh, if_true, List.length_cons, List.length_nil, Nat.reduceAdd, Nat.reduceLT, Nat.reduceSub, Nat.zero_add, decide_eq_false go, Bool.false_eq_true, if_false]
      refine q found y _ _ _ f0 y0 y1 ?_
      exact (list_set_same hs).symm
theorem draw_zero {T : Tab} {k f n : Nat} {many x y : Int} {st : Sto} {W : Sl → Sto → Prop} (hf : T.fns[f]? = some ⟨2, 5, gDraw⟩) (hu : T.fuel = 1000) (hm : 0 < many) (hb : many ≤ 2 ^ 2800) (hs : st[n]? = some (.lst [.int x, .int y])) (hx : ¬ 0 < x) (y0 : 0 ≤ y) (y1 : y < 2147483648)
    (q : ∀ a y' : Int, 0 ≤ a → a < many → 0 ≤ y' → y' < 2147483648 → W (.val (.int a)) (st.set n (.lst [.int x, .int y']))) : Ok (run T (k + 1) f [.ref n, .val (.int many)] st) W := by
  refine ok_run hf rfl (by decide) ?_
  unfold gDraw
  have e1 : bindP (.tp [.nm 2, .nm 3]) (.tup [.int 0, .int 1]) [some (.ref n), some (.val (.int many)), none, none, none] = some [some (.ref n), some (.val (.int many)), some (.val (.int 0)), some (.val (.int 1)), none] := rfl
  have e2 : vals [.val (.int 0), .val (.int 1)] = some [.int 0, .int 1] := rfl
  simp only [List.map_cons, List.map_nil, List.cons_append, List.nil_append, List.replicate, evSs, evS, evE.eq_1, evE.eq_2, evE.eq_3, evE.eq_4, evE.eq_5, evE.eq_6, evE.eq_7, evE.eq_8, evE.eq_9, evE.eq_10, evE.eq_11, evE.eq_12, evE.eq_13, evE.eq_14, evE.eq_15, evE.eq_16, evE.eq_17, evE.eq_18, evE.eq_19, evE.eq_20, evE.eq_24, evE.eq_25, evE.eq_26, evE.eq_27, evEs, ok_bnd, List.getElem?_cons_zero, List.getElem?_cons_succ, ok_ret, peek_val, asP_val, ok_some, Option.map_some, idx_lst, idx_tup, at_0, at_1, at_2, cmp_gt, cmp_ge, cmp_lt, cmp_le, tru_bl, bin_add, bin_sub, blt_int, blt_intb, peeks_nil, peeks_cons, List.set_cons_zero, List.set_cons_succ, lv_val, set_slot, vals_nil, vals_cons, ok_ok, cell_lst, cell_dct, Ex.fresh, if_true, List.length_cons, List.length_nil, Nat.reduceAdd, Nat.reduceLT, Nat.reduceSub, Nat.zero_add, peek_lst hs, decide_eq_false hx, Bool.false_eq_true, if_false, e2, e1, hu]
  refine draw_loop (C := ⟨run T k, T.glo, 1000, st.length⟩) (n := n) (many := many) (x := x) 100 0 1000 0 y none st (by decide) (by decide) y0 y1 hb (by decide) (by decide) hs fun a y' w mo t a0 b0 b1 et => ?_
  subst et
  simp only [List.map_cons, List.map_nil, List.cons_append, List.nil_append, List.replicate, evSs, evS, evE.eq_1, evE.eq_2, evE.eq_3, evE.eq_4, evE.eq_5, evE.eq_6, evE.eq_7, evE.eq_8, evE.eq_9, evE.eq_10, evE.eq_11, evE.eq_12, evE.eq_13, evE.eq_14, evE.eq_15, evE.eq_16, evE.eq_17, evE.eq_18, evE.eq_19, evE.eq_20, evE.eq_24, evE.eq_25, evE.eq_26, evE.eq_27, evEs, ok_bnd, List.getElem?_cons_zero, List.getElem?_cons_succ, ok_ret, peek_val, asP_val, ok_some, Option.map_some, idx_lst, idx_tup, at_0, at_1, at_2, cmp_gt, cmp_ge, cmp_lt, cmp_le, tru_bl, bin_add, bin_sub, blt_int, blt_intb, peeks_nil, peeks_cons, List.set_cons_zero, List.set_cons_succ, lv_val, set_slot, vals_nil, vals_cons, ok_ok, cell_lst, cell_dct, Ex.fresh, if_true, List.length_cons, List.length_nil, Nat.reduceAdd, Nat.reduceLT, Nat.reduceSub, Nat.zero_add, bin_mod hm]
  rw [List.take_of_length_le (by rw [List.length_set]; exact Nat.le_refl _)]
  exact q _ _ (Int.emod_nonneg _ (by omega)) (Int.emod_lt_of_pos _ hm) b0 b1
/-- a draw: a number below many, and the cell is as it was in kind -/
theorem draw_ok {T : Tab} {k f n : Nat} {many : Int} {st : Sto} {W : Sl → Sto → Prop} (hf : T.fns[f]? = some ⟨2, 5, gDraw⟩) (hu : T.fuel = 1000) (hm : 0 < many) (hb : many ≤ 2 ^ 2800) (hd : Drw st n)
    (q : ∀ (a : Int) (t : Sto), 0 ≤ a → a < many → Drw t n → t.length = st.length → (∀ j, j ≠ n → t[j]? = st[j]?) → W (.val (.int a)) t) : Ok (run T (k + 1) f [.ref n, .val (.int many)] st) W := by
  obtain ⟨x, y, hs, x0, x1, y0, y1⟩ := hd
  have hn := lt_of_some hs
  by_cases hx : 0 < x
  · refine (draw_big hf hm hs hx ?_).imp fun v t h => ?_
    · exact log_lt (k := 9000) (Int.lt_of_le_of_lt hb (by decide +kernel)) (Int.le_of_lt hm) (by decide)
    · obtain ⟨rfl, rfl⟩ := h
      refine q _ _ (Int.emod_nonneg _ (by omega)) (Int.emod_lt_of_pos _ hm) ⟨x / many, y, List.getElem?_set_self hn, Int.ediv_nonneg x0 (Int.le_of_lt hm), ?_, y0, y1⟩ (List.length_set ..) fun j hj => List.getElem?_set_ne fun e => hj e.symm
      exact Int.lt_of_le_of_lt (Int.ediv_le_self _ x0) x1
  · refine draw_zero hf hu hm hb hs hx y0 y1 fun a y' a0 a1 b0 b1 => q a _ a0 a1 ⟨x, y', List.getElem?_set_self hn, x0, x1, b0, b1⟩ (List.length_set ..) fun j hj => List.getElem?_set_ne fun e => hj e.symm
end Fy

/-! Pl2: a cell's draws. -/
namespace Fy
open PySem (Str)
theorem len_scr {xs : List P} : bltP .len [.scr xs] = some (.int xs.length) := rfl
theorem len_lst {xs : List P} : bltP .len [.lst xs] = some (.int xs.length) := rfl
theorem len_tup {xs : List P} : bltP .len [.tup xs] = some (.int xs.length) := rfl
theorem blt_abs {i : Int} : bltP .abs [.int i] = some (.int (if i < 0 then -i else i)) := rfl
theorem at_nat {xs : List P} {j : Nat} (h : j < xs.length) : atP xs (j : Nat) = some xs[j] := by
  unfold atP ixQ
  rw [if_pos (Int.natCast_nonneg j), if_pos (by omega)]
  show xs[(j : Int).toNat]? = _
  rw [Int.toNat_natCast, List.getElem?_eq_getElem h]
theorem pow_10 {e : Int} (h0 : 0 ≤ e) (h1 : e ≤ 100000) : binP .pow (.int 10) (.int e) = some (.int (10 ^ e.toNat)) := if_pos ⟨h0, h1, by decide⟩
theorem new_ok {n : Nat} : n = n := rfl
theorem draws_ok {T : Tab} {k f j : Nat} {ns : List Int} {st : Sto} {W : Sl → Sto → Prop} (hf : T.fns[f]? = some ⟨2, 4, gDraws⟩) (hj : j < 64) (hl : ns.length ≤ 63)
    (q : ∀ x y : Int, 0 ≤ x → x < 10 ^ 240 → 0 ≤ y → y < 2147483648 → W (.ref st.length) (st ++ [.lst [.int x, .int y]])) : Ok (run T (k + 1) f [.val (.scr (ns.map .int)), .val (.int j)] st) W := by
  refine ok_run hf rfl (by decide) ?_
  unfold gDraws
  have l1 : (15485863 : Int).natAbs.log2 + (j : Int).natAbs.log2 < 1000000 := by
    have := log_lt (i := (j : Int)) (k := 32) (by omega) (by omega) (by decide)
    have : (15485863 : Int).natAbs.log2 = 23 := by decide +kernel
    omega
  have hlen : (ns.map P.int).length = ns.length := List.length_map ..
  /- the tail: from the cell's number on -/
  have tail : ∀ (c : Int) (h0 : 0 ≤ c) (h1 : c < 10 ^ 240), Ok (evSs ⟨run T k, T.glo, T.fuel, st.length⟩ gD3 [some (.val (.scr (ns.map .int))), some (.val (.int j)), some (.val (.int c)), none] st) (Lv st.length W) := fun c h0 h1 => by
    unfold gD3
    have m1 : c.natAbs.log2 + (69621 : Int).natAbs.log2 < 1000000 := by
      have := log_lt (i := c) (k := 800) (Int.lt_trans h1 (by decide +kernel)) h0 (by decide)
      have : (69621 : Int).natAbs.log2 = 16 := by decide +kernel
      omega
    have m2 : (86028121 : Int).natAbs.log2 + ((j : Int) + 1).natAbs.log2 < 1000000 := by
      have := log_lt (i := (j : Int) + 1) (k := 32) (by omega) (by omega) (by decide)
      have : (86028121 : Int).natAbs.log2 = 26 := by decide +kernel
      omega
    have p1 : (0 : Int) < 2147483646 := by decide
    have e18 : (10 : Int) ^ (18 : Int).toNat = 1000000000000000000 := by decide +kernel
    have m3 : ∀ b : Bool, c.natAbs.log2 + (b2i b).natAbs.log2 < 1000000 := fun b => by
      have := log_lt (i := c) (k := 800) (Int.lt_trans h1 (by decide +kernel)) h0 (by decide)
      have : (b2i b).natAbs.log2 = 0 := by cases b <;> decide +kernel
      omega
    simp only [List.map_cons, List.map_nil, List.cons_append, List.nil_append, List.replicate, evSs, evS, evE.eq_1, evE.eq_2, evE.eq_3, evE.eq_4, evE.eq_5, evE.eq_6, evE.eq_7, evE.eq_8, evE.eq_9, evE.eq_10, evE.eq_11, evE.eq_12, evE.eq_13, evE.eq_14, evE.eq_15, evE.eq_16, evE.eq_17, evE.eq_18, evE.eq_19, evE.eq_20, evE.eq_24, evE.eq_25, evE.eq_26, evE.eq_27, evEs, ok_bnd, List.getElem?_cons_zero, List.getElem?_cons_succ, ok_ret, peek_val, asP_val, ok_some, Option.map_some, idx_lst, idx_tup, at_0, at_1, at_2, cmp_gt, cmp_ge, cmp_lt, cmp_le, tru_bl, bin_add, bin_sub, blt_int, blt_intb, peeks_nil, peeks_cons, List.set_cons_zero, List.set_cons_succ, lv_val, set_slot, vals_nil, vals_cons, ok_ok, cell_lst, cell_dct, Ex.fresh, if_true, List.length_cons, List.length_nil, Nat.reduceAdd, Nat.reduceLT, Nat.reduceSub, Nat.zero_add, bin_mul m1, bin_mul m2, bin_mod p1, pow_10 (e := 18) (by decide) (by decide), e18, bin_mul (m3 _)]
    refine (lv_new rfl).mpr (q _ _ ?_ ?_ ?_ ?_)
    · unfold b2i
      split <;> omega
    · unfold b2i
      split <;> omega
    · omega
    · omega
  have base : ∀ i : Int, 0 ≤ (if i < 0 then -i else i) := fun i => by
    split <;> omega
  have e60 : (10 : Int) ^ (60 : Int).toNat = 10 ^ 60 := rfl
  have h60 : ((10 : Int) ^ 60).natAbs.log2 + ((10 : Int) ^ 60).natAbs.log2 < 1000000 := by decide +kernel
  have h120 : ((10 : Int) ^ 60 * 10 ^ 60).natAbs.log2 + ((10 : Int) ^ 60).natAbs.log2 < 1000000 := by decide +kernel
  have h180 : ((10 : Int) ^ 60 * 10 ^ 60 * 10 ^ 60).natAbs.log2 + ((10 : Int) ^ 60).natAbs.log2 < 1000000 := by decide +kernel
  have e240 : (10 : Int) ^ 60 * 10 ^ 60 * 10 ^ 60 * 10 ^ 60 = 10 ^ 240 := by decide +kernel
  have p240 : (0 : Int) < 10 ^ 240 := by decide +kernel
  have e15 : (10 : Int) ^ (15 : Int).toNat = 10 ^ 15 := rfl
  have p15 : (0 : Int) < 10 ^ 15 := by decide
  have big : (10 : Int) ^ 15 + 15485863 * 64 < 10 ^ 240 := by decide +kernel
  unfold gD1 gD2
  by_cases c1 : j < ns.length
  · have c1' : (j : Int) < (ns.length : Nat) := by omega
    have c2 : j < (ns.map P.int).length := by rw [hlen]; exact c1
    have e1 : (ns.map P.int)[j] = .int ns[j] := List.getElem_map ..
    have z := tail ((if ns[j] < 0 then -ns[j] else ns[j]) % 10 ^ 240) (Int.emod_nonneg _ (by omega)) (Int.emod_lt_of_pos _ p240)
    simp only [List.map_cons, List.map_nil, List.cons_append, List.nil_append, List.replicate, evSs, evS, evE.eq_1, evE.eq_2, evE.eq_3, evE.eq_4, evE.eq_5, evE.eq_6, evE.eq_7, evE.eq_8, evE.eq_9, evE.eq_10, evE.eq_11, evE.eq_12, evE.eq_13, evE.eq_14, evE.eq_15, evE.eq_16, evE.eq_17, evE.eq_18, evE.eq_19, evE.eq_20, evE.eq_24, evE.eq_25, evE.eq_26, evE.eq_27, evEs, ok_bnd, List.getElem?_cons_zero, List.getElem?_cons_succ, ok_ret, peek_val, asP_val, ok_some, Option.map_some, idx_lst, idx_tup, at_0, at_1, at_2, cmp_gt, cmp_ge, cmp_lt, cmp_le, tru_bl, bin_add, bin_sub, blt_int, blt_intb, peeks_nil, peeks_cons, List.set_cons_zero, List.set_cons_succ, lv_val, set_slot, vals_nil, vals_cons, ok_ok, cell_lst, cell_dct, Ex.fresh, if_true, List.length_cons, List.length_nil, Nat.reduceAdd, Nat.reduceLT, Nat.reduceSub, Nat.zero_add, bin_mul l1, len_scr, hlen, decide_eq_true c1', idx_scr, at_nat c2, e1, blt_abs, pow_10 (e := 60) (by decide) (by decide), e60, bin_mul h60, bin_mul h120, bin_mul h180, e240, bin_mod p240]
    exact z
  · have c1' : ¬ (j : Int) < (ns.length : Nat) := by omega
    by_cases c3 : 0 < ns.length
    · have c3' : (0 : Int) < (ns.length : Nat) := by omega
      have c4 : (j % ns.length : Nat) < (ns.map P.int).length := by
        rw [hlen]
        exact Nat.mod_lt _ c3
      have e1 : (ns.map P.int)[j % ns.length] = .int ns[j % ns.length] := List.getElem_map ..
      have e2 : (j : Int) % (ns.length : Nat) = ((j % ns.length : Nat) : Int) := (Int.natCast_emod ..).symm
      generalize hm : ns[j % ns.length] = v at e1
      have v0 := Int.emod_nonneg (if v < 0 then -v else v) (b := 10 ^ 15) (by omega)
      have v1 := Int.emod_lt_of_pos (if v < 0 then -v else v) p15
      have z := tail ((if v < 0 then -v else v) % 10 ^ 15 + 15485863 * (j : Int)) (by omega) (by omega)
      simp only [List.map_cons, List.map_nil, List.cons_append, List.nil_append, List.replicate, evSs, evS, evE.eq_1, evE.eq_2, evE.eq_3, evE.eq_4, evE.eq_5, evE.eq_6, evE.eq_7, evE.eq_8, evE.eq_9, evE.eq_10, evE.eq_11, evE.eq_12, evE.eq_13, evE.eq_14, evE.eq_15, evE.eq_16, evE.eq_17, evE.eq_18, evE.eq_19, evE.eq_20, evE.eq_24, evE.eq_25, evE.eq_26, evE.eq_27, evEs, ok_bnd, List.getElem?_cons_zero, List.getElem?_cons_succ, ok_ret, peek_val, asP_val, ok_some, Option.map_some, idx_lst, idx_tup, at_0, at_1, at_2, cmp_gt, cmp_ge, cmp_lt, cmp_le, tru_bl, bin_add, bin_sub, blt_int, blt_intb, peeks_nil, peeks_cons, List.set_cons_zero, List.set_cons_succ, lv_val, set_slot, vals_nil, vals_cons, ok_ok, cell_lst, cell_dct, Ex.fresh, if_true, List.length_cons, List.length_nil, Nat.reduceAdd, Nat.reduceLT, Nat.reduceSub, Nat.zero_add, bin_mul l1, len_scr, hlen, decide_eq_false c1', decide_eq_true c3', Bool.false_eq_true, if_false, idx_scr, bin_mod c3', e2, at_nat c4, e1, blt_abs, pow_10 (e := 15) (by decide) (by decide), e15, bin_mod p15]
      exact z
    · have c3' : ¬ (0 : Int) < (ns.length : Nat) := by omega
      have z := tail (15485863 * (j : Int)) (by omega) (by omega)
      simp only [List.map_cons, List.map_nil, List.cons_append, List.nil_append, List.replicate, evSs, evS, evE.eq_1, evE.eq_2, evE.eq_3, evE.eq_4, evE.eq_5, evE.eq_6, evE.eq_7, evE.eq_8, evE.eq_9, evE.eq_10, evE.eq_11, evE.eq_12, evE.eq_13, evE.eq_14, evE.eq_15, evE.eq_16, evE.eq_17, evE.eq_18, evE.eq_19, evE.eq_20, evE.eq_24, evE.eq_25, evE.eq_26, evE.eq_27, evEs, ok_bnd, List.getElem?_cons_zero, List.getElem?_cons_succ, ok_ret, peek_val, asP_val, ok_some, Option.map_some, idx_lst, idx_tup, at_0, at_1, at_2, cmp_gt, cmp_ge, cmp_lt, cmp_le, tru_bl, bin_add, bin_sub, blt_int, blt_intb, peeks_nil, peeks_cons, List.set_cons_zero, List.set_cons_succ, lv_val, set_slot, vals_nil, vals_cons, ok_ok, cell_lst, cell_dct, Ex.fresh, if_true, List.length_cons, List.length_nil, Nat.reduceAdd, Nat.reduceLT, Nat.reduceSub, Nat.zero_add, bin_mul l1, len_scr, hlen, decide_eq_false c1', decide_eq_false c3', Bool.false_eq_true, if_false]
      exact z
end Fy

/-! Pl3: one of some, by a draw. -/
namespace Fy
open PySem (Str)
/-- behind draws from cell n: all else is as it was -/
structure Nx (st t : Sto) (n : Nat) : Prop where
  drw : Drw t n
  len : t.length = st.length
  els : ∀ j, j ≠ n → t[j]? = st[j]?
theorem Nx.refl {st : Sto} {n : Nat} (h : Drw st n) : Nx st st n := ⟨h, rfl, fun _ _ => rfl⟩
theorem Nx.trans {s t u : Sto} {n : Nat} (h : Nx s t n) (g : Nx t u n) : Nx s u n := ⟨g.drw, g.len.trans h.len, fun j hj => (g.els j hj).trans (h.els j hj)⟩
theorem Nx.take {s t : Sto} {n : Nat} (h : Nx s t n) : t.take s.length = t := List.take_of_length_le (by rw [h.len]; exact Nat.le_refl _)
theorem draw_nx {T : Tab} {k f n : Nat} {many : Int} {st : Sto} {W : Sl → Sto → Prop} (hf : T.fns[f]? = some ⟨2, 5, gDraw⟩) (hu : T.fuel = 1000) (hm : 0 < many) (hb : many ≤ 1000000000000) (hd : Drw st n)
    (q : ∀ (a : Int) (t : Sto), 0 ≤ a → a < many → Nx st t n → W (.val (.int a)) t) : Ok (run T (k + 1) f [.ref n, .val (.int many)] st) W :=
  draw_ok hf hu hm (Int.le_trans hb (by decide +kernel)) hd fun a t a0 a1 d l e => q a t a0 a1 ⟨d, l, e⟩
/-- _law_of, d: the number of _law_draw -/
def gOf (d : Nat) : Sts := .cons (.ret (.idx (.var 1) (.cal d (.cons (.var 0) (.cons (.blt .len (.cons (.var 1) .nil)) .nil))))) .nil
theorem at_int {xs : List P} {a : Int} (h0 : 0 ≤ a) (h1 : a < (xs.length : Nat)) : ∃ p ∈ xs, atP xs a = some p := by
  obtain ⟨j, rfl⟩ : ∃ j : Nat, a = (j : Nat) := ⟨a.toNat, by omega⟩
  have hj : j < xs.length := by omega
  exact ⟨xs[j], List.getElem_mem hj, at_nat hj⟩
theorem of_ok {T : Tab} {k f d n : Nat} {xs : List P} {st : Sto} {W : Sl → Sto → Prop} (hf : T.fns[f]? = some ⟨2, 2, gOf d⟩) (hg : T.fns[d]? = some ⟨2, 5, gDraw⟩) (hu : T.fuel = 1000) (h0 : 0 < xs.length) (h1 : xs.length ≤ 1000000) (hd : Drw st n)
    (q : ∀ (p : P) (t : Sto), p ∈ xs → Nx st t n → W (.val p) t) : Ok (run T (k + 2) f [.ref n, .val (.lst xs)] st) W := by
  refine ok_run hf rfl (by decide) ?_
  unfold gOf
  simp only [List.map_cons, List.map_nil, List.cons_append, List.nil_append, List.replicate, evSs, evS, evE.eq_1, evE.eq_2, evE.eq_3, evE.eq_4, evE.eq_5, evE.eq_6, evE.eq_7, evE.eq_8, evE.eq_9, evE.eq_10, evE.eq_11, evE.eq_12, evE.eq_13, evE.eq_14, evE.eq_15, evE.eq_16, evE.eq_17, evE.eq_18, evE.eq_19, evE.eq_20, evE.eq_24, evE.eq_25, evE.eq_26, evE.eq_27, evEs, ok_bnd, List.getElem?_cons_zero, List.getElem?_cons_succ, ok_ret, peek_val, asP_val, ok_some, Option.map_some, idx_lst, idx_tup, at_0, at_1, at_2, cmp_gt, cmp_ge, cmp_lt, cmp_le, tru_bl, bin_add, bin_sub, blt_int, blt_intb, peeks_nil, peeks_cons, List.set_cons_zero, List.set_cons_succ, lv_val, set_slot, vals_nil, vals_cons, ok_ok, cell_lst, cell_dct, Ex.fresh, if_true, List.length_cons, List.length_nil, Nat.reduceAdd, Nat.reduceLT, Nat.reduceSub, Nat.zero_add, len_lst]
  refine draw_nx hg hu (by omega) (by omega) hd fun a t a0 a1 nx => ?_
  obtain ⟨p, hp, e⟩ := at_int a0 a1
  simp only [List.map_cons, List.map_nil, List.cons_append, List.nil_append, List.replicate, evSs, evS, evE.eq_1, evE.eq_2, evE.eq_3, evE.eq_4, evE.eq_5, evE.eq_6, evE.eq_7, evE.eq_8, evE.eq_9, evE.eq_10, evE.eq_11, evE.eq_12, evE.eq_13, evE.eq_14, evE.eq_15, evE.eq_16, evE.eq_17, evE.eq_18, evE.eq_19, evE.eq_20, evE.eq_24, evE.eq_25, evE.eq_26, evE.eq_27, evEs, ok_bnd, List.getElem?_cons_zero, List.getElem?_cons_succ, ok_ret, peek_val, asP_val, ok_some, Option.map_some, idx_lst, idx_tup, at_0, at_1, at_2, cmp_gt, cmp_ge, cmp_lt, cmp_le, tru_bl, bin_add, bin_sub, blt_int, blt_intb, peeks_nil, peeks_cons, List.set_cons_zero, List.set_cons_succ, lv_val, set_slot, vals_nil, vals_cons, ok_ok, cell_lst, cell_dct, Ex.fresh, if_true, List.length_cons, List.length_nil, Nat.reduceAdd, Nat.reduceLT, Nat.reduceSub, Nat.zero_add, e]
  rw [nx.take]
  exact q p t hp nx
end Fy

/-! Pl4: loops and comprehensions, plainly. -/
namespace Fy
open PySem (Str)
section
variable {β : Type}
theorem fold_at {f : P → β → M β} {W : β → Sto → Prop} (I : Nat → β → Sto → Prop) : ∀ (xs : List P) (i : Nat) (acc : β) (st : Sto), I i acc st → (∀ j x a t, xs[j]? = some x → I (i + j) a t → Ok (f x a t) (I (i + j + 1))) → (∀ a t, I (i + xs.length) a t → W a t) → Ok (foldP xs acc f st) W
  | [], i, acc, st, h0, _, hw => hw acc st h0
  | x :: xs, i, acc, st, h0, hs, hw => by
    show Ok (bnd (f x acc) (fun a => foldP xs a f) st) W
    rw [ok_bnd]
    refine (hs 0 x acc st rfl h0).imp fun a t ha => ?_
    refine fold_at I xs (i + 1) a t ha (fun j y b u hj hb => ?_) fun b u hb => hw b u ?_
    · have e : i + 1 + j = i + (j + 1) := by omega
      rw [e] at hb ⊢
      exact hs (j + 1) y b u (by simpa using hj) hb
    · rw [show i + (x :: xs).length = i + 1 + xs.length by rw [List.length_cons]; omega]
      exact hb
theorem fold_ok {f : P → β → M β} {W : β → Sto → Prop} {xs : List P} {acc : β} {st : Sto} (I : Nat → β → Sto → Prop) (h0 : I 0 acc st) (hs : ∀ j x a t, xs[j]? = some x → I j a t → Ok (f x a t) (I (j + 1))) (hw : ∀ a t, I xs.length a t → W a t) : Ok (foldP xs acc f st) W :=
  fold_at I xs 0 acc st h0 (fun j x a t e h => by
    rw [Nat.zero_add] at h ⊢
    exact hs j x a t e h) fun a t h => hw a t (by rw [Nat.zero_add] at h; exact h)
/-- a for's turns -/
theorem loop_at {f : P → Env → M (Flow × Env)} {W : Flow × Env → Sto → Prop} (I : Nat → Env → Sto → Prop) : ∀ (xs : List P) (i : Nat) (env : Env) (st : Sto), I i env st →
    (∀ j x e t, xs[j]? = some x → I (i + j) e t → Ok (f x e t) (fun r u => match r.1 with | .nx => I (i + j + 1) r.2 u | .ct => I (i + j + 1) r.2 u | .bk => W (.nx, r.2) u | .rt v => W (.rt v, r.2) u)) → (∀ e t, I (i + xs.length) e t → W (.nx, e) t) → Ok (loopP f xs env st) W
  | [], i, env, st, h0, _, hw => hw env st h0
  | x :: xs, i, env, st, h0, hs, hw => by
    unfold loopP
    rw [ok_bnd]
    refine (hs 0 x env st rfl h0).imp fun r t ha => ?_
    have go : ∀ e, I (i + 1) e t → Ok (loopP f xs e t) W := fun e ha => by
      refine loop_at I xs (i + 1) e t ha (fun j y b u hj hb => ?_) fun b u hb => hw b u ?_
      · have e : i + 1 + j = i + (j + 1) := by omega
        rw [e] at hb ⊢
        exact hs (j + 1) y b u (by simpa using hj) hb
      · rw [show i + (x :: xs).length = i + 1 + xs.length by rw [List.length_cons]; omega]
        exact hb
    obtain ⟨fl, e⟩ := r
    cases fl with
    | nx => exact go e ha
    | ct => exact go e ha
    | bk => exact ha
    | rt v => exact ha
theorem loop_ok {f : P → Env → M (Flow × Env)} {W : Flow × Env → Sto → Prop} {xs : List P} {env : Env} {st : Sto} (I : Nat → Env → Sto → Prop) (h0 : I 0 env st)
    (hs : ∀ j x e t, xs[j]? = some x → I j e t → Ok (f x e t) (fun r u => match r.1 with | .nx => I (j + 1) r.2 u | .ct => I (j + 1) r.2 u | .bk => W (.nx, r.2) u | .rt v => W (.rt v, r.2) u)) (hw : ∀ e t, I xs.length e t → W (.nx, e) t) : Ok (loopP f xs env st) W :=
  loop_at I xs 0 env st h0 (fun j x a t e h => by
    rw [Nat.zero_add] at h ⊢
    exact hs j x a t e h) fun a t h => hw a t (by rw [Nat.zero_add] at h; exact h)
end
/-- one clause, one name -/
theorem gen_one {C : Ev} {i : Nat} {it : It} {ifs : Exs} {f : Env → List P → M (List P)} {ei env : Env} {acc : List P} {W : List P → Sto → Prop} {st : Sto} (hi : i < env.length) (hn : env[i]? = some none) :
    Ok (evG C (.cons (.nm i) it ifs .nil) f ei env acc st) W ↔ Ok (evI C it ei st) fun xs t => Ok (foldP xs acc (fun x acc => bnd (evTs C ifs (env.set i (some (.val x)))) fun k => if k then f (env.set i (some (.val x))) acc else ret acc) t) W := by
  have fr : freeP (.nm i) env = true := by
    show (match env[i]? with | some none => true | _ => false) = true
    rw [hn]
  show Ok (bnd (evI C it ei) (fun xs => if freeP (.nm i) env then nox (foldP xs acc fun x acc => match bindP (.nm i) x env with | none => stuck | some env' => bnd (evTs C ifs env') fun k => if k then evG C .nil f env' env' acc else ret acc) else stuck) st) W ↔ _
  have eb : ∀ x, bindP (.nm i) x env = some (env.set i (some (.val x))) := fun x => if_pos hi
  simp only [ok_bnd, fr, if_true, ok_nox, eb]
  rfl
/-- [e for x in xs]: each turn gives one thing and leaves the store alone -/
theorem map_ok {C : Ev} {e : Ex} {i : Nat} {own : List Nat} {it : It} {env : Env} {W : Sl → Sto → Prop} {st : Sto} {xs : List P} (g : P → P) (hi : i < (wipeE env own).length) (hn : (wipeE env own)[i]? = some none) (hx : Ok (evI C it env st) fun ys t => ys = xs ∧ t = st) (hl : xs.length ≤ 100000)
    (hs : ∀ x ∈ xs, Ok (evE C e ((wipeE env own).set i (some (.val x))) st) fun v t => v = .val (g x) ∧ t = st) (hw : W (.val (.lst (xs.map g))) st) : Ok (evE C (.lcm e own (.cons (.nm i) it .nil .nil)) env st) W := by
  rw [evE, ok_bnd, gen_one hi hn]
  refine hx.imp fun ys t ⟨e1, e2⟩ => ?_
  subst e1
  subst e2
  refine fold_ok (fun j acc u => acc = (ys.take j).map g ∧ u = t) ⟨rfl, rfl⟩ (fun j x acc u hj ⟨h1, h2⟩ => ?_) fun acc u ⟨h1, h2⟩ => ?_
  · subst h1
    subst h2
    have hm : x ∈ ys := List.mem_of_getElem? hj
    have lt := lt_of_some hj
    rw [ok_bnd]
    show Ok (ret true u) _
    rw [ok_ret, if_pos rfl, ok_bnd]
    refine (hs x hm).imp fun v w ⟨h3, h4⟩ => ?_
    subst h3
    subst h4
    rw [ok_bnd, asP_val]
    have lm : ((ys.take j).map g).length < lenMost := by
      rw [List.length_map, List.length_take]
      have : lenMost = 100000 := rfl
      omega
    rw [if_pos lm]
    refine ⟨?_, rfl⟩
    rw [List.take_succ, hj, List.map_append]
    rfl
  · subst h1
    subst h2
    rw [List.take_length]
    exact hw
/-- [e for x in xs if ..]: each turn gives at most one thing and leaves the store alone -/
theorem sift_ok {C : Ev} {e : Ex} {i : Nat} {own : List Nat} {it : It} {ifs : Exs} {env : Env} {W : Sl → Sto → Prop} {st : Sto} {xs : List P} (g : P → P) (keep : P → Bool) (hi : i < (wipeE env own).length) (hn : (wipeE env own)[i]? = some none) (hx : Ok (evI C it env st) fun ys t => ys = xs ∧ t = st) (hl : xs.length ≤ 100000)
    (ht : ∀ x ∈ xs, Ok (evTs C ifs ((wipeE env own).set i (some (.val x))) st) fun b t => b = keep x ∧ t = st)
    (hs : ∀ x ∈ xs, keep x = true → Ok (evE C e ((wipeE env own).set i (some (.val x))) st) fun v t => v = .val (g x) ∧ t = st) (hw : W (.val (.lst ((xs.filter keep).map g))) st) : Ok (evE C (.lcm e own (.cons (.nm i) it ifs .nil)) env st) W := by
  rw [evE, ok_bnd, gen_one hi hn]
  refine hx.imp fun ys t ⟨e1, e2⟩ => ?_
  subst e1
  subst e2
  refine fold_ok (fun j acc u => acc = ((ys.take j).filter keep).map g ∧ u = t) ⟨rfl, rfl⟩ (fun j x acc u hj ⟨h1, h2⟩ => ?_) fun acc u ⟨h1, h2⟩ => ?_
  · subst h1
    subst h2
    have hm : x ∈ ys := List.mem_of_getElem? hj
    have lt := lt_of_some hj
    rw [ok_bnd]
    refine (ht x hm).imp fun b u2 ⟨h5, h6⟩ => ?_
    subst h5
    subst h6
    have more : ys.take (j + 1) = ys.take j ++ [x] := by
      rw [List.take_succ, hj]
      rfl
    cases hk : keep x with
    | false =>
      (rw [if_neg Bool.false_ne_true])
      refine ⟨?_, rfl⟩
      rw [more, List.filter_append, List.filter_cons_of_neg (by rw [hk]; exact Bool.false_ne_true), List.filter_nil, List.append_nil]
    | true =>
      rw [if_pos rfl, ok_bnd]
      refine (hs x hm hk).imp fun v w ⟨h3, h4⟩ => ?_
      subst h3
      subst h4
      rw [ok_bnd, asP_val]
      have lm : (((ys.take j).filter keep).map g).length < lenMost := by
        have h7 := List.length_filter_le keep (ys.take j)
        rw [List.length_take] at h7
        rw [List.length_map]
        have : lenMost = 100000 := rfl
        omega
      rw [if_pos lm]
      refine ⟨?_, rfl⟩
      rw [more, List.filter_append, List.filter_cons_of_pos hk, List.filter_nil, List.map_append]
      rfl
  · subst h1
    subst h2
    rw [List.take_length]
    exact hw
/-! ### and, or, not -/
theorem and_nil {C : Ev} {env : Env} {x : Sl} {st : Sto} {W : Sl → Sto → Prop} : Ok (evA C .nil env x st) W ↔ W x st := .rfl
theorem and_cons {C : Ev} {e : Ex} {es : Exs} {env : Env} {b : Bool} {st : Sto} {W : Sl → Sto → Prop} : Ok (evA C (.cons e es) env (.val (.bl b)) st) W ↔ if b = true then Ok (evE C e env st) (fun y t => Ok (evA C es env y t) W) else W (.val (.bl false)) st := by
  rw [evA, ok_bnd, tru_bl]
  cases b with
  | false =>
    rw [if_neg Bool.false_ne_true, if_neg Bool.false_ne_true]
    rfl
  | true => rw [if_pos rfl, if_pos rfl, ok_bnd]
theorem or_nil {C : Ev} {env : Env} {x : Sl} {st : Sto} {W : Sl → Sto → Prop} : Ok (evR C .nil env x st) W ↔ W x st := .rfl
theorem or_cons {C : Ev} {e : Ex} {es : Exs} {env : Env} {b : Bool} {st : Sto} {W : Sl → Sto → Prop} : Ok (evR C (.cons e es) env (.val (.bl b)) st) W ↔ if b = true then W (.val (.bl true)) st else Ok (evE C e env st) (fun y t => Ok (evR C es env y t) W) := by
  rw [evR, ok_bnd, tru_bl]
  cases b with
  | true =>
    rw [if_pos rfl, if_pos rfl]
    rfl
  | false => rw [if_neg Bool.false_ne_true, if_neg Bool.false_ne_true, ok_bnd]
theorem bools_map {xs : List P} (g : P → Bool) : boolsP (xs.map fun x => .bl (g x)) = some (xs.map g) := by
  induction xs with
  | nil => rfl
  | cons x xs ih =>
    show (boolsP (xs.map fun x => .bl (g x))).map (g x :: ·) = _
    rw [ih]
    rfl
theorem all_map {xs : List P} (g : P → Bool) : bltP .all [.lst (xs.map fun x => .bl (g x))] = some (.bl (xs.all g)) := by
  show (boolsP _).map _ = _
  rw [bools_map]
  show some (P.bl ((xs.map g).all id)) = _
  rw [List.all_map]
  rfl
theorem len_str {x : Str} (h : x.cps.size ≤ 100000) : bltP .len [.str x] = some (.int x.cps.size) := if_pos h
end Fy

/-! Pl5: drawn things: of bounded size and depth. -/
namespace Fy
open PySem (Str)
inductive Th (c : Nat) : Nat → P → Prop where
  | non (d : Nat) : Th c d .non
  | bl (d : Nat) (b : Bool) : Th c d (.bl b)
  | int (d : Nat) (i : Int) (h : i.natAbs ≤ 10 ^ 50 * c) : Th c d (.int i)
  | str (d : Nat) (x : Str) (h : x.cps.size ≤ c) (g : ∀ a ∈ x.cps.toList, a < 128) : Th c d (.str x)
  | tup (d : Nat) (xs : List P) (h : xs.length ≤ c) (g : ∀ x ∈ xs, Th c d x) : Th c (d + 1) (.tup xs)
  | lst (d : Nat) (xs : List P) (h : xs.length ≤ c) (g : ∀ x ∈ xs, Th c d x) : Th c (d + 1) (.lst xs)
theorem Th.str_le {c d : Nat} {x : Str} (h : Th c d (.str x)) : x.cps.size ≤ c := by
  cases h
  assumption
theorem Th.tup_in {c d : Nat} {xs : List P} (h : Th c d (.tup xs)) : xs.length ≤ c ∧ ∃ e, d = e + 1 ∧ ∀ x ∈ xs, Th c e x := by
  cases h with
  | tup e xs h g => exact ⟨h, e, rfl, g⟩
theorem Th.lst_in {c d : Nat} {xs : List P} (h : Th c d (.lst xs)) : xs.length ≤ c ∧ ∃ e, d = e + 1 ∧ ∀ x ∈ xs, Th c e x := by
  cases h with
  | lst e xs h g => exact ⟨h, e, rfl, g⟩
theorem flats_all : ∀ {xs : List P}, (∀ x ∈ xs, x.flat = true) → P.flats xs = true
  | [], _ => rfl
  | x :: xs, h => by
    show (x.flat && P.flats xs) = true
    rw [h x (List.mem_cons_self ..), flats_all fun y hy => h y (List.mem_cons_of_mem _ hy)]
    rfl
theorem depths_all {d : Nat} : ∀ {xs : List P}, (∀ x ∈ xs, x.depth ≤ d) → P.depths xs ≤ d
  | [], _ => Nat.zero_le _
  | x :: xs, h => by
    show max x.depth (P.depths xs) ≤ d
    exact Nat.max_le.mpr ⟨h x (List.mem_cons_self ..), depths_all fun y hy => h y (List.mem_cons_of_mem _ hy)⟩
theorem Th.flat {c d : Nat} {p : P} (h : Th c d p) : p.flat = true := by
  induction h with
  | tup e xs h g ih => exact flats_all ih
  | lst e xs h g ih => exact flats_all ih
  | _ => rfl
theorem Th.depth {c d : Nat} {p : P} (h : Th c d p) : p.depth ≤ d := by
  induction h with
  | tup e xs h g ih => exact Nat.succ_le_succ (depths_all ih)
  | lst e xs h g ih => exact Nat.succ_le_succ (depths_all ih)
  | _ => exact Nat.zero_le _
theorem Th.mono {c c' d d' : Nat} {p : P} (h : Th c d p) (hc : c ≤ c') (hd : d ≤ d') : Th c' d' p := by
  induction h generalizing d' with
  | non e => exact .non _
  | bl e b => exact .bl _ b
  | int e i h => exact .int _ i (Nat.le_trans h (Nat.mul_le_mul_left _ hc))
  | str e x h g => exact .str _ x (Nat.le_trans h hc) g
  | tup e xs h g ih =>
    obtain ⟨e', rfl⟩ : ∃ e', d' = e' + 1 := ⟨d' - 1, by omega⟩
    exact .tup _ xs (Nat.le_trans h hc) fun x hx => ih x hx (by omega)
  | lst e xs h g ih =>
    obtain ⟨e', rfl⟩ : ∃ e', d' = e' + 1 := ⟨d' - 1, by omega⟩
    exact .lst _ xs (Nat.le_trans h hc) fun x hx => ih x hx (by omega)
end Fy

/-! Pl6: each once: what `uniq` holds, for rows of ints and texts. -/
namespace Fy
open PySem (Str)
theorem eqv_kk {p q : P} (hp : keyOk p = true) (hq : keyOk q = true) : p.eqv q = true ↔ p = q := by
  cases p <;> simp only [keyOk, Bool.false_eq_true] at hp
  · cases q <;> simp only [keyOk, Bool.false_eq_true] at hq
    · rename_i i j
      show (i == j) = true ↔ _
      rw [beq_iff_eq]
      exact ⟨fun h => by rw [h], fun h => by injection h⟩
    · exact ⟨fun h => (by cases h), fun h => (by cases h)⟩
  · cases q <;> simp only [keyOk, Bool.false_eq_true] at hq
    · exact ⟨fun h => (by cases h), fun h => (by cases h)⟩
    · rename_i x y
      show decide (x = y) = true ↔ _
      rw [decide_eq_true_eq]
      exact ⟨fun h => by rw [h], fun h => by injection h⟩
theorem addU_has {L : List P} {x : P} (hx : keyOk x = true) (hL : ∀ y ∈ L, keyOk y = true) : ∀ z, z ∈ addU L x ↔ z ∈ L ∨ z = x := fun z => by
  unfold addU
  split
  · rename_i h
    obtain ⟨y, hy, e⟩ := List.any_eq_true.mp h
    have e := (eqv_kk (hL y hy) hx).mp e
    exact ⟨.inl, fun h => h.elim id fun e2 => by
      rw [e2, ← e]
      exact hy⟩
  · rw [List.mem_append, List.mem_singleton]
theorem addU_nd {L : List P} {x : P} (hx : keyOk x = true) (hL : ∀ y ∈ L, keyOk y = true) (nd : L.Nodup) : (addU L x).Nodup := by
  unfold addU
  split
  · exact nd
  · rename_i h
    refine List.nodup_append.mpr ⟨nd, by simp, fun u hu v hv e => ?_⟩
    rw [List.mem_singleton.mp hv] at e
    refine h (List.any_eq_true.mpr ⟨u, hu, ?_⟩)
    exact (eqv_kk (hL u hu) hx).mpr e
theorem uniq_fold : ∀ (xs L : List P), (∀ x ∈ xs, keyOk x = true) → (∀ y ∈ L, keyOk y = true) → L.Nodup → (xs.foldl addU L).Nodup ∧ ∀ z, z ∈ xs.foldl addU L ↔ z ∈ L ∨ z ∈ xs
  | [], L, _, _, nd => ⟨nd, fun z => by simp⟩
  | x :: xs, L, hx, hL, nd => by
    have h0 := hx x (List.mem_cons_self ..)
    have has := addU_has h0 hL
    obtain ⟨h1, h2⟩ := uniq_fold xs (addU L x) (fun y hy => hx y (List.mem_cons_of_mem _ hy)) (fun y hy => by
      rcases (has y).mp hy with z | z
      · exact hL y z
      · rw [z]
        exact h0) (addU_nd h0 hL nd)
    refine ⟨h1, fun z => ?_⟩
    rw [List.foldl_cons, h2, has, List.mem_cons, or_assoc]
theorem uniq_has {xs : List P} (h : ∀ x ∈ xs, keyOk x = true) (z : P) : z ∈ uniq xs ↔ z ∈ xs := by
  have := (uniq_fold xs [] h (fun y hy => nomatch hy) List.nodup_nil).2 z
  unfold uniq
  rw [this]
  exact ⟨fun h => h.elim (fun z => nomatch z) id, .inr⟩
theorem uniq_nd {xs : List P} (h : ∀ x ∈ xs, keyOk x = true) : (uniq xs).Nodup := (uniq_fold xs [] h (fun y hy => nomatch hy) List.nodup_nil).1
/-- rows of the same members have as many things each once -/
theorem uniq_same {xs ys : List P} (hx : ∀ x ∈ xs, keyOk x = true) (hy : ∀ y ∈ ys, keyOk y = true) (h : ∀ z, z ∈ xs ↔ z ∈ ys) : (uniq xs).length = (uniq ys).length :=
  ((List.perm_ext_iff_of_nodup (uniq_nd hx) (uniq_nd hy)).mpr fun z => by rw [uniq_has hx, uniq_has hy, h]).length_eq
end Fy

/-! Pl7: comprehensions of several clauses. -/
namespace Fy
open PySem (Str)
theorem gen_more {C : Ev} {i : Nat} {it : It} {ifs : Exs} {g : Gen} {f : Env → List P → M (List P)} {ei env : Env} {acc : List P} {W : List P → Sto → Prop} {st : Sto} (hi : i < env.length) (hn : env[i]? = some none) :
    Ok (evG C (.cons (.nm i) it ifs g) f ei env acc st) W ↔ Ok (evI C it ei st) fun xs t => Ok (foldP xs acc (fun x acc => bnd (evTs C ifs (env.set i (some (.val x)))) fun k => if k then evG C g f (env.set i (some (.val x))) (env.set i (some (.val x))) acc else ret acc) t) W := by
  have fr : freeP (.nm i) env = true := by
    show (match env[i]? with | some none => true | _ => false) = true
    rw [hn]
  show Ok (bnd (evI C it ei) (fun xs => if freeP (.nm i) env then nox (foldP xs acc fun x acc => match bindP (.nm i) x env with | none => stuck | some env' => bnd (evTs C ifs env') fun k => if k then evG C g f env' env' acc else ret acc) else stuck) st) W ↔ _
  have eb : ∀ x, bindP (.nm i) x env = some (env.set i (some (.val x))) := fun x => if_pos hi
  simp only [ok_bnd, fr, if_true, ok_nox, eb]
/-- a clause adds, for each thing that it meets, what the rest adds -/
theorem gen_adds {C : Ev} {i B : Nat} {it : It} {g : Gen} {f : Env → List P → M (List P)} {ei env : Env} {st : Sto} {xs : List P} (add : P → List P) (hi : i < env.length) (hn : env[i]? = some none) (hx : Ok (evI C it ei st) fun ys t => ys = xs ∧ t = st)
    (hs : ∀ x ∈ xs, ∀ acc : List P, acc.length + (add x).length ≤ B → Ok (evG C g f (env.set i (some (.val x))) (env.set i (some (.val x))) acc st) fun a t => a = acc ++ add x ∧ t = st) (acc : List P) (hl : acc.length + (xs.flatMap add).length ≤ B) :
    Ok (evG C (.cons (.nm i) it .nil g) f ei env acc st) fun a t => a = acc ++ xs.flatMap add ∧ t = st := by
  rw [gen_more hi hn]
  refine hx.imp fun ys t ⟨e1, e2⟩ => ?_
  subst e1
  subst e2
  refine fold_ok (fun j a u => a = acc ++ (ys.take j).flatMap add ∧ u = t) ⟨by simp, rfl⟩ (fun j x a u hj ⟨h1, h2⟩ => ?_) fun a u ⟨h1, h2⟩ => ?_
  · subst h1
    subst h2
    have hm : x ∈ ys := List.mem_of_getElem? hj
    have more : ys.take (j + 1) = ys.take j ++ [x] := by
      rw [List.take_succ, hj]
      rfl
    have cut : ys.flatMap add = (ys.take (j + 1)).flatMap add ++ (ys.drop (j + 1)).flatMap add := by
      rw [← List.flatMap_append, List.take_append_drop]
    rw [ok_bnd]
    show Ok (ret true u) _
    rw [ok_ret, if_pos rfl]
    have size : (acc ++ (ys.take j).flatMap add).length + (add x).length ≤ B := by
      rw [cut, more, List.flatMap_append, List.length_append, List.length_append] at hl
      rw [List.length_append]
      have : ([x].flatMap add).length = (add x).length := by simp
      omega
    refine (hs x hm _ size).imp fun b w ⟨h3, h4⟩ => ⟨?_, h4⟩
    rw [h3, more, List.flatMap_append, List.append_assoc]
    simp
  · rw [List.take_length] at h1
    exact ⟨h1, h2⟩
theorem app_cell {n : Nat} {L : List P} {p : P} {t : Sto} {W : Sl → Sto → Prop} (h : t[n]? = some (.lst L)) (hl : L.length < 100000) : Ok (mthM .append (.ref n) [.val p] t) W ↔ W (.val .non) (t.set n (.lst (L ++ [p]))) := by
  unfold mthM
  show Ok (match (t[n]?).bind fun c => mthC .append c [p] with | some r => R.ok (Sl.val r.1) (t.set n r.2) | none => R.bad) W ↔ _
  rw [h]
  show Ok (match (if L.length < lenMost then some (P.non, Cell.lst (L ++ [p])) else none) with | some r => R.ok (Sl.val r.1) (t.set n r.2) | none => R.bad) W ↔ _
  rw [if_pos (show L.length < lenMost from hl)]
  rfl
end Fy

/-! Pl8: comprehensions that draw. -/
namespace Fy
open PySem (Str)
/-- [e for x in ..] where each turn may draw: what holds of the store stays, each thing is as wanted -/
theorem gather_ok {C : Ev} {e : Ex} {i m : Nat} {own : List Nat} {it : It} {env : Env} {W : Sl → Sto → Prop} {st : Sto} (S : Sto → Prop) (V E : P → Prop) (hi : i < (wipeE env own).length) (hn : (wipeE env own)[i]? = some none) (hm : m ≤ 100000)
    (hx : Ok (evI C it env st) fun ys t => ys.length ≤ m ∧ (∀ x ∈ ys, V x) ∧ S t) (hs : ∀ x t, V x → S t → Ok (evE C e ((wipeE env own).set i (some (.val x))) t) fun v u => ∃ p, v = .val p ∧ E p ∧ S u)
    (hw : ∀ ps t, ps.length ≤ m → (∀ p ∈ ps, E p) → S t → W (.val (.lst ps)) t) : Ok (evE C (.lcm e own (.cons (.nm i) it .nil .nil)) env st) W := by
  rw [evE.eq_21, ok_bnd, gen_one hi hn]
  refine hx.imp fun ys t ⟨lm, hv, h0⟩ => ?_
  refine fold_ok (fun j acc u => acc.length = j ∧ (∀ p ∈ acc, E p) ∧ S u) ⟨rfl, (fun p z => nomatch z), h0⟩ (fun j x acc u hj ⟨h1, h2, h3⟩ => ?_) fun acc u ⟨h1, h2, h3⟩ => ?_
  · have hmem : x ∈ ys := List.mem_of_getElem? hj
    have lt := lt_of_some hj
    rw [ok_bnd]
    show Ok (ret true u) _
    rw [ok_ret, if_pos rfl, ok_bnd]
    refine (hs x u (hv x hmem) h3).imp fun v w ⟨p, h4, h5, h6⟩ => ?_
    subst h4
    rw [ok_bnd, asP_val]
    rw [if_pos (show acc.length < lenMost by have : lenMost = 100000 := rfl; omega)]
    refine ⟨by rw [List.length_append, h1]; rfl, fun q hq => ?_, h6⟩
    rcases List.mem_append.mp hq with z | z
    · exact h2 q z
    · (rw [List.mem_singleton.mp z])
      exact h5
  · exact hw acc u (by omega) h2 h3
/-- range(n), n a number -/
theorem rng_ok {C : Ev} {a : Ex} {env : Env} {st : Sto} {W : List P → Sto → Prop} {B : Nat} (hB : B ≤ 100000) (h : Ok (evE C a env st) fun v t => ∃ i : Int, v = .val (.int i) ∧ i ≤ B ∧ -1000000 ≤ i ∧ ∀ ys : List P, ys.length ≤ B → (∀ y ∈ ys, ∃ j : Nat, y = .int j) → W ys t) : Ok (evI C (.rng1 a) env st) W := by
  rw [evI, ok_bnd]
  refine h.imp fun v t ⟨i, e, h1, h2, h3⟩ => ?_
  subst e
  show Ok ((if -1000000 ≤ i ∧ i ≤ 1000000 then ret ((List.range i.toNat).map fun (i : Nat) => P.int (i : Int)) else stuck) t) W
  rw [if_pos ⟨h2, by omega⟩]
  refine h3 _ ?_ fun y hy => ?_
  · (rw [List.length_map, List.length_range])
    omega
  · obtain ⟨j, _, rfl⟩ := List.mem_map.mp hy
    exact ⟨j, rfl⟩
end Fy

/-! Pl9: any value, drawn. -/
namespace Fy
open PySem (Str)
/-- a drawn thing's bounds, by looking -/
def thB (c : Nat) : Nat → P → Bool
  | 0, p => match p with
    | .non => true
    | .bl _ => true
    | .int i => decide (i.natAbs ≤ 10 ^ 50 * c)
    | .str x => decide (x.cps.size ≤ c) && x.cps.toList.all fun a => decide (a < 128)
    | _ => false
  | d + 1, p => match p with
    | .non => true
    | .bl _ => true
    | .int i => decide (i.natAbs ≤ 10 ^ 50 * c)
    | .str x => decide (x.cps.size ≤ c) && x.cps.toList.all fun a => decide (a < 128)
    | .tup xs => decide (xs.length ≤ c) && xs.all (thB c d)
    | .lst xs => decide (xs.length ≤ c) && xs.all (thB c d)
    | _ => false
theorem th_of {c : Nat} : ∀ {d : Nat} {p : P}, thB c d p = true → Th c d p
  | 0, p, h => by
    cases p with
    | non => exact .non _
    | bl b => exact .bl _ b
    | int i => exact .int _ i (of_decide_eq_true h)
    | str x =>
      have h : (decide (x.cps.size ≤ c) && x.cps.toList.all fun a => decide (a < 128)) = true := h
      rw [Bool.and_eq_true, List.all_eq_true] at h
      exact .str _ x (of_decide_eq_true h.1) fun a ha => of_decide_eq_true (h.2 a ha)
    | _ => exact absurd h Bool.false_ne_true
  | d + 1, p, h => by
    cases p with
    | non => exact .non _
    | bl b => exact .bl _ b
    | int i => exact .int _ i (of_decide_eq_true h)
    | str x =>
      have h : (decide (x.cps.size ≤ c) && x.cps.toList.all fun a => decide (a < 128)) = true := h
      rw [Bool.and_eq_true, List.all_eq_true] at h
      exact .str _ x (of_decide_eq_true h.1) fun a ha => of_decide_eq_true (h.2 a ha)
    | tup xs =>
      have h : (decide (xs.length ≤ c) && xs.all (thB c d)) = true := h
      rw [Bool.and_eq_true, List.all_eq_true] at h
      exact .tup _ xs (of_decide_eq_true h.1) fun a ha => th_of (h.2 a ha)
    | lst xs =>
      have h : (decide (xs.length ≤ c) && xs.all (thB c d)) = true := h
      rw [Bool.and_eq_true, List.all_eq_true] at h
      exact .lst _ xs (of_decide_eq_true h.1) fun a ha => th_of (h.2 a ha)
    | _ => exact absurd h Bool.false_ne_true
theorem ths_of {c d : Nat} {xs : List P} (h : xs.all (thB c d) = true) : ∀ x ∈ xs, Th c d x := fun x hx => th_of (List.all_eq_true.mp h x hx)
theorem bin_lst {xs ys : List P} (h : xs.length + ys.length ≤ 100000) : binP .add (.lst xs) (.lst ys) = some (.lst (xs ++ ys)) := if_pos h
theorem cmp_eqi {i j : Int} : cmpP .eq (.int i) (.int j) = some (i == j) := rfl
theorem blt_tupl {xs : List P} : bltP .tup [.lst xs] = some (.tup xs) := rfl
theorem blt_tupt {xs : List P} : bltP .tup [.tup xs] = some (.tup xs) := rfl
theorem blt_lstl {xs : List P} : bltP .lst [.lst xs] = some (.lst xs) := rfl
theorem blt_lstt {xs : List P} : bltP .lst [.tup xs] = some (.lst xs) := rfl
/-- the leaves of _law_thing, o: the number of _law_of -/
def gTleaf (o : Nat) : Sts := (.cons (.asg 3 (.lst (.cons (.cst (.int 0)) (.cons (.cst (.int 1)) (.cons (.neg (.cst (.int 1))) (.cons (.cst (.bl true)) (.cons (.cst (.bl false)) (.cons (.cst .non) (.cons (.cst (.str "")) (.cons (.cst (.str "a")) (.cons (.cst (.str "p")) (.cons (.cst (.str "f")) (.cons (.cst (.str "ask")) (.cons (.cst (.str "say")) (.cons (.cst (.str "A")) (.cons (.bin .pow (.cst (.int 10)) (.cst (.int 6))) (.cons (.cst (.str "abcdefghi")) .nil))))))))))))))))) (.cons (.ret (.cal o (.cons (.var 0) (.cons (.bin .add (.var 3) (.lst (.cons (.bin .add (.bin .pow (.cst (.int 10)) (.cst (.int 6))) (.cst (.int 1))) (.cons (.bin .pow (.cst (.int 10)) (.cst (.int 39))) (.cons (.tup .nil) (.cons (.lst .nil) (.cons (.tup (.cons (.cst (.int 1)) .nil)) (.cons (.tup (.cons (.cst (.str "p")) .nil)) (.cons (.tup (.cons (.cst (.str "say")) (.cons (.cst (.str "a")) .nil))) .nil))))))))) .nil)))) .nil))
/-- _law_thing: s its own number, d _law_draw, o _law_of -/
def gThing (s d o : Nat) : Sts := (.cons (.asg 2 (.cal d (.cons (.var 0) (.cons (.cst (.int 9)) .nil)))) (.cons (.ite (.or (.cmp .lt (.var 2) (.cst (.int 6))) (.cons (.cmp .eq (.var 1) (.cst (.int 0))) .nil)) (gTleaf o) .nil) (.cons (.asg 4 (.lcm (.cal s (.cons (.var 0) (.cons (.bin .sub (.var 1) (.cst (.int 1))) .nil))) [5] (.cons (.nm 5) (.rng1 (.cal d (.cons (.var 0) (.cons (.cst (.int 4)) .nil)))) .nil .nil))) (.cons (.ret (.idx (.lst (.cons (.var 4) (.cons (.blt .tup (.cons (.var 4) .nil)) (.cons (.blt .tup (.cons (.var 4) .nil)) .nil)))) (.bin .sub (.var 2) (.cst (.int 6))))) .nil))))
theorem tleaf_ok {T : Tab} {k d o n : Nat} {st s0 : Sto} {W : Sl → Sto → Prop} {a b : Option Sl} (hd : T.fns[d]? = some ⟨2, 5, gDraw⟩) (ho : T.fns[o]? = some ⟨2, 2, gOf d⟩) (hu : T.fuel = 1000) (hx : Nx s0 st n)
    (q : ∀ (p : P) (t : Sto), Th 16 1 p → Nx s0 t n → W (.val p) t) : Ok (evSs ⟨run T (k + 2), T.glo, T.fuel, s0.length⟩ (gTleaf o) [some (.ref n), a, b, none, none, none] st) (fun r t => match r.1 with | .rt v => Lv s0.length W r t | _ => False) := by
  unfold gTleaf
  have e6 : (10 : Int) ^ (6 : Int).toNat = 1000000 := by decide +kernel
  have e39 : (10 : Int) ^ (39 : Int).toNat = 1000000000000000000000000000000000000000 := by decide +kernel
  simp only [List.map_cons, List.map_nil, List.cons_append, List.nil_append, List.replicate, evSs, evS, evE.eq_1, evE.eq_2, evE.eq_3, evE.eq_4, evE.eq_5, evE.eq_6, evE.eq_7, evE.eq_8, evE.eq_9, evE.eq_10, evE.eq_11, evE.eq_12, evE.eq_13, evE.eq_14, evE.eq_15, evE.eq_16, evE.eq_17, evE.eq_18, evE.eq_19, evE.eq_20, evE.eq_24, evE.eq_25, evE.eq_26, evE.eq_27, evEs, ok_bnd, List.getElem?_cons_zero, List.getElem?_cons_succ, ok_ret, peek_val, asP_val, ok_some, Option.map_some, idx_lst, idx_tup, at_0, at_1, at_2, cmp_gt, cmp_ge, cmp_lt, cmp_le, tru_bl, bin_add, bin_sub, blt_int, blt_intb, peeks_nil, peeks_cons, List.set_cons_zero, List.set_cons_succ, lv_val, set_slot, vals_nil, vals_cons, ok_ok, cell_lst, cell_dct, Ex.fresh, if_true, List.length_cons, List.length_nil, Nat.reduceAdd, Nat.reduceLT, Nat.reduceSub, Nat.zero_add, pow_10 (e := 6) (by decide) (by decide), pow_10 (e := 39) (by decide) (by decide), e6, e39]
  rw [bin_lst (by decide)]
  simp only [List.map_cons, List.map_nil, List.cons_append, List.nil_append, List.replicate, evSs, evS, evE.eq_1, evE.eq_2, evE.eq_3, evE.eq_4, evE.eq_5, evE.eq_6, evE.eq_7, evE.eq_8, evE.eq_9, evE.eq_10, evE.eq_11, evE.eq_12, evE.eq_13, evE.eq_14, evE.eq_15, evE.eq_16, evE.eq_17, evE.eq_18, evE.eq_19, evE.eq_20, evE.eq_24, evE.eq_25, evE.eq_26, evE.eq_27, evEs, ok_bnd, List.getElem?_cons_zero, List.getElem?_cons_succ, ok_ret, peek_val, asP_val, ok_some, Option.map_some, idx_lst, idx_tup, at_0, at_1, at_2, cmp_gt, cmp_ge, cmp_lt, cmp_le, tru_bl, bin_add, bin_sub, blt_int, blt_intb, peeks_nil, peeks_cons, List.set_cons_zero, List.set_cons_succ, lv_val, set_slot, vals_nil, vals_cons, ok_ok, cell_lst, cell_dct, Ex.fresh, if_true, List.length_cons, List.length_nil, Nat.reduceAdd, Nat.reduceLT, Nat.reduceSub, Nat.zero_add]
  refine of_ok ho hd hu (by decide) (by decide) hx.drw fun p t hp nx => ?_
  have h := ths_of (c := 16) (d := 1) (by decide +kernel) p hp
  show Lv s0.length W (.rt (.val p), _) t
  rw [lv_val, (hx.trans nx).take]
  exact q p t h (hx.trans nx)
theorem thing_ok {T : Tab} {s d o n : Nat} (hs : T.fns[s]? = some ⟨2, 6, gThing s d o⟩) (hd : T.fns[d]? = some ⟨2, 5, gDraw⟩) (ho : T.fns[o]? = some ⟨2, 2, gOf d⟩) (hu : T.fuel = 1000) : ∀ (m k : Nat) (st : Sto) (W : Sl → Sto → Prop), Drw st n →
    (∀ (p : P) (t : Sto), Th 16 (m + 1) p → Nx st t n → W (.val p) t) → Ok (run T (k + m + 3) s [.ref n, .val (.int (m : Nat))] st) W
  | m, k, st, W, hn, q => by
    refine ok_run hs rfl (by decide) ?_
    unfold gThing
    simp only [List.map_cons, List.map_nil, List.cons_append, List.nil_append, List.replicate, evSs, evS, evE.eq_1, evE.eq_2, evE.eq_3, evE.eq_4, evE.eq_5, evE.eq_6, evE.eq_7, evE.eq_8, evE.eq_9, evE.eq_10, evE.eq_11, evE.eq_12, evE.eq_13, evE.eq_14, evE.eq_15, evE.eq_16, evE.eq_17, evE.eq_18, evE.eq_19, evE.eq_20, evE.eq_24, evE.eq_25, evE.eq_26, evE.eq_27, evEs, ok_bnd, List.getElem?_cons_zero, List.getElem?_cons_succ, ok_ret, peek_val, asP_val, ok_some, Option.map_some, idx_lst, idx_tup, at_0, at_1, at_2, cmp_gt, cmp_ge, cmp_lt, cmp_le, tru_bl, bin_add, bin_sub, blt_int, blt_intb, peeks_nil, peeks_cons, List.set_cons_zero, List.set_cons_succ, lv_val, set_slot, vals_nil, vals_cons, ok_ok, cell_lst, cell_dct, Ex.fresh, if_true, List.length_cons, List.length_nil, Nat.reduceAdd, Nat.reduceLT, Nat.reduceSub, Nat.zero_add]
    refine draw_nx (k := k + m + 1) hd hu (by decide) (by decide) hn fun a t a0 a1 nx => ?_
    have leaf := tleaf_ok (T := T) (k := k + m) (n := n) (a := some (.val (.int (m : Nat)))) (b := some (.val (.int a))) (W := W) hd ho hu nx fun p u h1 h2 => q p u (h1.mono (Nat.le_refl _) (by omega)) h2
    simp only [List.map_cons, List.map_nil, List.cons_append, List.nil_append, List.replicate, evSs, evS, evE.eq_1, evE.eq_2, evE.eq_3, evE.eq_4, evE.eq_5, evE.eq_6, evE.eq_7, evE.eq_8, evE.eq_9, evE.eq_10, evE.eq_11, evE.eq_12, evE.eq_13, evE.eq_14, evE.eq_15, evE.eq_16, evE.eq_17, evE.eq_18, evE.eq_19, evE.eq_20, evE.eq_24, evE.eq_25, evE.eq_26, evE.eq_27, evEs, ok_bnd, List.getElem?_cons_zero, List.getElem?_cons_succ, ok_ret, peek_val, asP_val, ok_some, Option.map_some, idx_lst, idx_tup, at_0, at_1, at_2, cmp_gt, cmp_ge, cmp_lt, cmp_le, tru_bl, bin_add, bin_sub, blt_int, blt_intb, peeks_nil, peeks_cons, List.set_cons_zero, List.set_cons_succ, lv_val, set_slot, vals_nil, vals_cons, ok_ok, cell_lst, cell_dct, Ex.fresh, if_true, List.length_cons, List.length_nil, Nat.reduceAdd, Nat.reduceLT, Nat.reduceSub, Nat.zero_add, or_cons, or_nil]
    by_cases c1 : a < 6
    · simp only [List.map_cons, List.map_nil, List.cons_append, List.nil_append, List.replicate, evSs, evS, evE.eq_1, evE.eq_2, evE.eq_3, evE.eq_4, evE.eq_5, evE.eq_6, evE.eq_7, evE.eq_8, evE.eq_9, evE.eq_10, evE.eq_11, evE.eq_12, evE.eq_13, evE.eq_14, evE.eq_15, evE.eq_16, evE.eq_17, evE.eq_18, evE.eq_19, evE.eq_20, evE.eq_24, evE.eq_25, evE.eq_26, evE.eq_27, evEs, ok_bnd, List.getElem?_cons_zero, List.getElem?_cons_succ, ok_ret, peek_val, asP_val, ok_some, Option.map_some, idx_lst, idx_tup, at_0, at_1, at_2, cmp_gt, cmp_ge, cmp_lt, cmp_le, tru_bl, bin_add, bin_sub, blt_int, blt_intb, peeks_nil, peeks_cons, List.set_cons_zero, List.set_cons_succ, lv_val, set_slot, vals_nil, vals_cons, ok_ok, cell_lst, cell_dct, Ex.fresh, if_true, List.length_cons, List.length_nil, Nat.reduceAdd, Nat.reduceLT, Nat.reduceSub, Nat.zero_add, decide_eq_true c1]
      refine leaf.imp fun r u h => ?_
      obtain ⟨fl, env⟩ := r
      cases fl with
      | rt v => exact h
      | _ => exact h.elim
    · simp only [List.map_cons, List.map_nil, List.cons_append, List.nil_append, List.replicate, evSs, evS, evE.eq_1, evE.eq_2, evE.eq_3, evE.eq_4, evE.eq_5, evE.eq_6, evE.eq_7, evE.eq_8, evE.eq_9, evE.eq_10, evE.eq_11, evE.eq_12, evE.eq_13, evE.eq_14, evE.eq_15, evE.eq_16, evE.eq_17, evE.eq_18, evE.eq_19, evE.eq_20, evE.eq_24, evE.eq_25, evE.eq_26, evE.eq_27, evEs, ok_bnd, List.getElem?_cons_zero, List.getElem?_cons_succ, ok_ret, peek_val, asP_val, ok_some, Option.map_some, idx_lst, idx_tup, at_0, at_1, at_2, cmp_gt, cmp_ge, cmp_lt, cmp_le, tru_bl, bin_add, bin_sub, blt_int, blt_intb, peeks_nil, peeks_cons, List.set_cons_zero, List.set_cons_succ, lv_val, set_slot, vals_nil, vals_cons, ok_ok, cell_lst, cell_dct, Ex.fresh, if_true, List.length_cons, List.length_nil, Nat.reduceAdd, Nat.reduceLT, Nat.reduceSub, Nat.zero_add, decide_eq_false c1, Bool.false_eq_true, if_false, cmp_eqi]
      match m with
      | 0 =>
        simp only [List.map_cons, List.map_nil, List.cons_append, List.nil_append, List.replicate, evSs, evS, evE.eq_1, evE.eq_2, evE.eq_3, evE.eq_4, evE.eq_5, evE.eq_6, evE.eq_7, evE.eq_8, evE.eq_9, evE.eq_10, evE.eq_11, evE.eq_12, evE.eq_13, evE.eq_14, evE.eq_15, evE.eq_16, evE.eq_17, evE.eq_18, evE.eq_19, evE.eq_20, evE.eq_24, evE.eq_25, evE.eq_26, evE.eq_27, evEs, ok_bnd, List.getElem?_cons_zero, List.getElem?_cons_succ, ok_ret, peek_val, asP_val, ok_some, Option.map_some, idx_lst, idx_tup, at_0, at_1, at_2, cmp_gt, cmp_ge, cmp_lt, cmp_le, tru_bl, bin_add, bin_sub, blt_int, blt_intb, peeks_nil, peeks_cons, List.set_cons_zero, List.set_cons_succ, lv_val, set_slot, vals_nil, vals_cons, ok_ok, cell_lst, cell_dct, Ex.fresh, if_true, List.length_cons, List.length_nil, Nat.reduceAdd, Nat.reduceLT, Nat.reduceSub, Nat.zero_add, show (((0 : Nat) : Int) == 0) = true from rfl]
        refine leaf.imp fun r u h => ?_
        obtain ⟨fl, env⟩ := r
        cases fl with
        | rt v => exact h
        | _ => exact h.elim
      | m + 1 =>
        have e0 : (((m + 1 : Nat) : Int) == 0) = false := by
          rw [beq_eq_false_iff_ne]
          omega
        have e1 : ((m + 1 : Nat) : Int) - 1 = (m : Nat) := by omega
        simp only [List.map_cons, List.map_nil, List.cons_append, List.nil_append, List.replicate, evSs, evS, evE.eq_1, evE.eq_2, evE.eq_3, evE.eq_4, evE.eq_5, evE.eq_6, evE.eq_7, evE.eq_8, evE.eq_9, evE.eq_10, evE.eq_11, evE.eq_12, evE.eq_13, evE.eq_14, evE.eq_15, evE.eq_16, evE.eq_17, evE.eq_18, evE.eq_19, evE.eq_20, evE.eq_24, evE.eq_25, evE.eq_26, evE.eq_27, evEs, ok_bnd, List.getElem?_cons_zero, List.getElem?_cons_succ, ok_ret, peek_val, asP_val, ok_some, Option.map_some, idx_lst, idx_tup, at_0, at_1, at_2, cmp_gt, cmp_ge, cmp_lt, cmp_le, tru_bl, bin_add, bin_sub, blt_int, blt_intb, peeks_nil, peeks_cons, List.set_cons_zero, List.set_cons_succ, lv_val, set_slot, vals_nil, vals_cons, ok_ok, cell_lst, cell_dct, Ex.fresh, if_true, List.length_cons, List.length_nil, Nat.reduceAdd, Nat.reduceLT, Nat.reduceSub, Nat.zero_add, e0, Bool.false_eq_true, if_false]
        refine gather_ok (m := 3) (S := fun u => Nx st u n) (V := fun _ => True) (E := Th 16 (m + 1)) (by simp [wipeE]) rfl (by decide) ?_ (fun x u _ h => ?_) fun ps u hl hp h => ?_
        · refine rng_ok (B := 3) (by decide) ?_
          simp only [List.map_cons, List.map_nil, List.cons_append, List.nil_append, List.replicate, evSs, evS, evE.eq_1, evE.eq_2, evE.eq_3, evE.eq_4, evE.eq_5, evE.eq_6, evE.eq_7, evE.eq_8, evE.eq_9, evE.eq_10, evE.eq_11, evE.eq_12, evE.eq_13, evE.eq_14, evE.eq_15, evE.eq_16, evE.eq_17, evE.eq_18, evE.eq_19, evE.eq_20, evE.eq_24, evE.eq_25, evE.eq_26, evE.eq_27, evEs, ok_bnd, List.getElem?_cons_zero, List.getElem?_cons_succ, ok_ret, peek_val, asP_val, ok_some, Option.map_some, idx_lst, idx_tup, at_0, at_1, at_2, cmp_gt, cmp_ge, cmp_lt, cmp_le, tru_bl, bin_add, bin_sub, blt_int, blt_intb, peeks_nil, peeks_cons, List.set_cons_zero, List.set_cons_succ, lv_val, set_slot, vals_nil, vals_cons, ok_ok, cell_lst, cell_dct, Ex.fresh, if_true, List.length_cons, List.length_nil, Nat.reduceAdd, Nat.reduceLT, Nat.reduceSub, Nat.zero_add]
          refine draw_nx (k := k + (m + 1) + 1) hd hu (by decide) (by decide) nx.drw fun b u b0 b1 nz => ⟨b, rfl, by omega, by omega, fun ys ly _ => ⟨ly, fun _ _ => trivial, nx.trans nz⟩⟩
        · simp only [List.map_cons, List.map_nil, List.cons_append, List.nil_append, List.replicate, evSs, evS, evE.eq_1, evE.eq_2, evE.eq_3, evE.eq_4, evE.eq_5, evE.eq_6, evE.eq_7, evE.eq_8, evE.eq_9, evE.eq_10, evE.eq_11, evE.eq_12, evE.eq_13, evE.eq_14, evE.eq_15, evE.eq_16, evE.eq_17, evE.eq_18, evE.eq_19, evE.eq_20, evE.eq_24, evE.eq_25, evE.eq_26, evE.eq_27, evEs, ok_bnd, List.getElem?_cons_zero, List.getElem?_cons_succ, ok_ret, peek_val, asP_val, ok_some, Option.map_some, idx_lst, idx_tup, at_0, at_1, at_2, cmp_gt, cmp_ge, cmp_lt, cmp_le, tru_bl, bin_add, bin_sub, blt_int, blt_intb, peeks_nil, peeks_cons, List.set_cons_zero, List.set_cons_succ, lv_val, set_slot, vals_nil, vals_cons, ok_ok, cell_lst, cell_dct, Ex.fresh, if_true, List.length_cons, List.length_nil, Nat.reduceAdd, Nat.reduceLT, Nat.reduceSub, Nat.zero_add, wipeE, e1]
          refine thing_ok hs hd ho hu m k u _ h.drw fun p w h3 h4 => ⟨p, rfl, h3, h.trans h4⟩
        · simp only [List.map_cons, List.map_nil, List.cons_append, List.nil_append, List.replicate, evSs, evS, evE.eq_1, evE.eq_2, evE.eq_3, evE.eq_4, evE.eq_5, evE.eq_6, evE.eq_7, evE.eq_8, evE.eq_9, evE.eq_10, evE.eq_11, evE.eq_12, evE.eq_13, evE.eq_14, evE.eq_15, evE.eq_16, evE.eq_17, evE.eq_18, evE.eq_19, evE.eq_20, evE.eq_24, evE.eq_25, evE.eq_26, evE.eq_27, evEs, ok_bnd, List.getElem?_cons_zero, List.getElem?_cons_succ, ok_ret, peek_val, asP_val, ok_some, Option.map_some, idx_lst, idx_tup, at_0, at_1, at_2, cmp_gt, cmp_ge, cmp_lt, cmp_le, tru_bl, bin_add, bin_sub, blt_int, blt_intb, peeks_nil, peeks_cons, List.set_cons_zero, List.set_cons_succ, lv_val, set_slot, vals_nil, vals_cons, ok_ok, cell_lst, cell_dct, Ex.fresh, if_true, List.length_cons, List.length_nil, Nat.reduceAdd, Nat.reduceLT, Nat.reduceSub, Nat.zero_add, blt_tupl]
          have c : a = 6 ∨ a = 7 ∨ a = 8 := by omega
          have z1 := q (.lst ps) u (.lst _ ps (by omega) hp) h
          have z2 := q (.tup ps) u (.tup _ ps (by omega) hp) h
          rcases c with rfl | rfl | rfl
          · simp only [List.map_cons, List.map_nil, List.cons_append, List.nil_append, List.replicate, evSs, evS, evE.eq_1, evE.eq_2, evE.eq_3, evE.eq_4, evE.eq_5, evE.eq_6, evE.eq_7, evE.eq_8, evE.eq_9, evE.eq_10, evE.eq_11, evE.eq_12, evE.eq_13, evE.eq_14, evE.eq_15, evE.eq_16, evE.eq_17, evE.eq_18, evE.eq_19, evE.eq_20, evE.eq_24, evE.eq_25, evE.eq_26, evE.eq_27, evEs, ok_bnd, List.getElem?_cons_zero, List.getElem?_cons_succ, ok_ret, peek_val, asP_val, ok_some, Option.map_some, idx_lst, idx_tup, at_0, at_1, at_2, cmp_gt, cmp_ge, cmp_lt, cmp_le, tru_bl, bin_add, bin_sub, blt_int, blt_intb, peeks_nil, peeks_cons, List.set_cons_zero, List.set_cons_succ, lv_val, set_slot, vals_nil, vals_cons, ok_ok, cell_lst, cell_dct, Ex.fresh, if_true, List.length_cons, List.length_nil, Nat.reduceAdd, Nat.reduceLT, Nat.reduceSub, Nat.zero_add, Int.reduceSub, h.take]
            exact z1
          · simp only [List.map_cons, List.map_nil, List.cons_append, List.nil_append, List.replicate, evSs, evS, evE.eq_1, evE.eq_2, evE.eq_3, evE.eq_4, evE.eq_5, evE.eq_6, evE.eq_7, evE.eq_8, evE.eq_9, evE.eq_10, evE.eq_11, evE.eq_12, evE.eq_13, evE.eq_14, evE.eq_15, evE.eq_16, evE.eq_17, evE.eq_18, evE.eq_19, evE.eq_20, evE.eq_24, evE.eq_25, evE.eq_26, evE.eq_27, evEs, ok_bnd, List.getElem?_cons_zero, List.getElem?_cons_succ, ok_ret, peek_val, asP_val, ok_some, Option.map_some, idx_lst, idx_tup, at_0, at_1, at_2, cmp_gt, cmp_ge, cmp_lt, cmp_le, tru_bl, bin_add, bin_sub, blt_int, blt_intb, peeks_nil, peeks_cons, List.set_cons_zero, List.set_cons_succ, lv_val, set_slot, vals_nil, vals_cons, ok_ok, cell_lst, cell_dct, Ex.fresh, if_true, List.length_cons, List.length_nil, Nat.reduceAdd, Nat.reduceLT, Nat.reduceSub, Nat.zero_add, Int.reduceSub, h.take]
            exact z2
          · simp only [List.map_cons, List.map_nil, List.cons_append, List.nil_append, List.replicate, evSs, evS, evE.eq_1, evE.eq_2, evE.eq_3, evE.eq_4, evE.eq_5, evE.eq_6, evE.eq_7, evE.eq_8, evE.eq_9, evE.eq_10, evE.eq_11, evE.eq_12, evE.eq_13, evE.eq_14, evE.eq_15, evE.eq_16, evE.eq_17, evE.eq_18, evE.eq_19, evE.eq_20, evE.eq_24, evE.eq_25, evE.eq_26, evE.eq_27, evEs, ok_bnd, List.getElem?_cons_zero, List.getElem?_cons_succ, ok_ret, peek_val, asP_val, ok_some, Option.map_some, idx_lst, idx_tup, at_0, at_1, at_2, cmp_gt, cmp_ge, cmp_lt, cmp_le, tru_bl, bin_add, bin_sub, blt_int, blt_intb, peeks_nil, peeks_cons, List.set_cons_zero, List.set_cons_succ, lv_val, set_slot, vals_nil, vals_cons, ok_ok, cell_lst, cell_dct, Ex.fresh, if_true, List.length_cons, List.length_nil, Nat.reduceAdd, Nat.reduceLT, Nat.reduceSub, Nat.zero_add, Int.reduceSub, h.take]
            exact z2
end Fy

/-! Pl10: another leaf. -/
namespace Fy
open PySem (Str)
theorem dig_ascii {m : Nat} {ch : Char} (h : ch ∈ Nat.toDigits 10 m) : ch.toNat < 128 := by
  have z := Nat.isDigit_of_mem_toDigits (by decide) (by decide) h
  unfold Char.isDigit at z
  rw [Bool.and_eq_true] at z
  have z2 := of_decide_eq_true z.2
  have : ch.val.toNat ≤ 57 := z2
  show ch.val.toNat < 128
  omega
theorem int_text {i : Int} {m : Nat} (h : i.natAbs < 10 ^ m) (hm : 0 < m) : (Str.ofString (toString i)).cps.size ≤ m + 1 ∧ ∀ a ∈ (Str.ofString (toString i)).cps.toList, a < 128 := by
  (rw [PySem.Str.ofString_eq_toList])
  have key : (toString i).toList.length ≤ m + 1 ∧ ∀ ch ∈ (toString i).toList, ch.toNat < 128 := by
    cases i with
    | ofNat n =>
      have e : (toString (Int.ofNat n)).toList = Nat.toDigits 10 n := by
        show (Nat.repr n).toList = _
        rw [Nat.toList_repr]
      rw [e]
      have := (Nat.length_toDigits_le_iff (b := 10) (n := n) (k := m) (by decide) hm).mpr h
      exact ⟨by omega, fun ch hc => dig_ascii hc⟩
    | negSucc n =>
      have e : (toString (Int.negSucc n)).toList = '-' :: Nat.toDigits 10 (n + 1) := by
        show ("-" ++ Nat.repr (n + 1)).toList = _
        rw [String.toList_append, Nat.toList_repr]
        rfl
      rw [e]
      have := (Nat.length_toDigits_le_iff (b := 10) (n := n + 1) (k := m) (by decide) hm).mpr h
      refine ⟨by rw [List.length_cons]; omega, fun ch hc => ?_⟩
      (rcases List.mem_cons.mp hc with rfl | hc)
      · decide
      · exact dig_ascii hc
  refine ⟨by simpa using key.1, fun a ha => ?_⟩
  obtain ⟨ch, h1, rfl⟩ := List.mem_map.mp (by simpa using ha)
  exact key.2 ch h1
/-- _law_other_leaf: d _law_draw, o _law_of, s _law_thing -/
def gOther (d o s : Nat) : Sts := (.cons (.ite (.and (.isi (.var 1) [.str] false) (.cons (.cmp .gt (.cal d (.cons (.var 0) (.cons (.cst (.int 3)) .nil))) (.cst (.int 0))) .nil)) (.cons (.asg 2 (.lst (.cons (.bin .add (.var 1) (.cst (.str "s"))) (.cons (.slc (.var 1) .no (.yes (.neg (.cst (.int 1))))) (.cons (.mth .upper (.var 1) .nil) (.cons (.bin .mul (.var 1) (.cst (.int 3))) (.cons (.cst (.str "ask")) (.cons (.cst (.str "look")) .nil)))))))) (.cons (.ret (.cal o (.cons (.var 0) (.cons (.bin .add (.var 2) (.lst (.cons (.cst (.str "say")) (.cons (.cst (.str "empty")) (.cons (.cst (.str "p")) (.cons (.cst (.str "zzz")) .nil)))))) .nil)))) .nil)) .nil) (.cons (.ite (.and (.isi (.var 1) [.int] false) (.cons (.cmp .gt (.cal d (.cons (.var 0) (.cons (.cst (.int 3)) .nil))) (.cst (.int 0))) .nil)) (.cons (.asg 3 (.lst (.cons (.bin .add (.var 1) (.cst (.int 1))) (.cons (.bin .sub (.var 1) (.cst (.int 1))) (.cons (.bin .sub (.cst (.int 0)) (.var 1)) (.cons (.cst (.bl true)) (.cons (.bin .add (.var 1) (.bin .pow (.cst (.int 10)) (.cst (.int 6)))) .nil))))))) (.cons (.ret (.cal o (.cons (.var 0) (.cons (.bin .add (.var 3) (.lst (.cons (.bin .pow (.cst (.int 10)) (.cst (.int 6))) (.cons (.blt .str (.cons (.var 1) .nil)) .nil)))) .nil)))) .nil)) .nil) (.cons (.ret (.cal s (.cons (.var 0) (.cons (.cst (.int 2)) .nil)))) .nil)))
theorem bin_cat {x y : Str} (h : x.cps.size + y.cps.size ≤ 100000) : binP .add (.str x) (.str y) = some (.str (strCat x y)) := if_pos h
theorem slc_str {x : Str} {lo hi : Option Int} (h : x.cps.size ≤ 100000) : slcP (.str x) lo hi = some (.str ⟨(cutL x.cps.toList lo hi).toArray⟩) := if_pos h
theorem upper_up {x : Str} (h : x.cps.size ≤ 100000) (g : ∀ a ∈ x.cps.toList, a < 128) : mthP .upper (.str x) [] = some (.str ⟨x.cps.map upC⟩) :=
  if_pos ⟨h, List.all_eq_true.mpr fun a ha => decide_eq_true (g a ha)⟩
theorem mul_3 {x : Str} (h : x.cps.size ≤ 10000) (g : ∀ a ∈ x.cps.toList, a < 128) : ∃ y : Str, binP .mul (.str x) (.int 3) = some (.str y) ∧ y.cps.size ≤ 3 * x.cps.size ∧ ∀ a ∈ y.cps.toList, a < 128 := by
  by_cases h0 : 0 < x.cps.size
  · refine ⟨⟨#[] ++ x.cps ++ x.cps ++ x.cps⟩, if_pos ⟨by decide, by decide, h0, h⟩, ?_, fun a ha => ?_⟩
    · simp only [Array.size_append]
      show 0 + _ + _ + _ ≤ _
      omega
    · simp only [Array.toList_append, List.mem_append] at ha
      rcases ha with ((ha | ha) | ha) | ha
      · exact nomatch ha
      · exact g a ha
      · exact g a ha
      · exact g a ha
  · refine ⟨x, ?_, by omega, g⟩
    show (if _ then _ else if _ then _ else _) = _
    rw [if_neg (fun z => h0 z.2.2.1), if_pos ⟨by decide, by decide, by omega⟩]
theorem cutL_in {α : Type} {ys : List α} {lo hi : Option Int} {a : α} (h : a ∈ cutL ys lo hi) : a ∈ ys := List.mem_of_mem_drop (List.mem_of_mem_take h)
theorem cutL_le {α : Type} {ys : List α} {lo hi : Option Int} : (cutL ys lo hi).length ≤ ys.length := by
  unfold cutL
  (rw [List.length_take, List.length_drop])
  omega
theorem mth_val {m : Mth} {p q : P} {st : Sto} {W : Sl → Sto → Prop} (hm : m.mut = false) (h : mthP m p [] = some q) : Ok (mthM m (.val p) [] st) W ↔ W (.val q) st := by
  unfold mthM
  rw [hm, if_neg Bool.false_ne_true, ok_bnd, peek_val]
  show Ok (lift ((mthP m p []).map Sl.val) st) W ↔ _
  rw [h]
  rfl
theorem str_in {i : Int} (h : i.natAbs ≤ 10 ^ 50 * 10000) : bltP .str [.int i] = some (.str (Str.ofString (toString i))) := by
  refine if_pos ?_
  have := log_lt (i := (i.natAbs : Int)) (k := 1920) (by
    refine Int.lt_of_le_of_lt (Int.ofNat_le.mpr h) ?_
    decide +kernel) (by omega) (by decide)
  simpa using this
theorem of_up {α : Type} {x : Str} {a b : α} : (if Mth.of .upper (.str x) = true then a else b) = a := rfl
theorem bin_addb {b : Bool} {j : Int} : binP .add (.bl b) (.int j) = some (.int (b2i b + j)) := rfl
theorem bin_subb {b : Bool} {j : Int} : binP .sub (.bl b) (.int j) = some (.int (b2i b - j)) := rfl
theorem bin_bsub {b : Bool} {i : Int} : binP .sub (.int i) (.bl b) = some (.int (i - b2i b)) := rfl
theorem blt_strb {b : Bool} : bltP .str [.bl b] = some (.str (Str.ofString (if b then "True" else "False"))) := rfl
theorem cat_th {c d : Nat} {x y : Str} (h : x.cps.size + y.cps.size ≤ c) (g : ∀ a ∈ x.cps.toList, a < 128) (g' : ∀ a ∈ y.cps.toList, a < 128) : Th c d (.str (strCat x y)) := by
  refine .str _ _ ?_ fun a ha => ?_
  · show (x.cps ++ y.cps).size ≤ c
    rw [Array.size_append]
    exact h
  · have ha : a ∈ (x.cps ++ y.cps).toList := ha
    rw [Array.toList_append, List.mem_append] at ha
    exact ha.elim (g a) (g' a)
theorem other_ok {T : Tab} {f s d o n c e k : Nat} {p : P} {st : Sto} {W : Sl → Sto → Prop} (hf : T.fns[f]? = some ⟨2, 4, gOther d o s⟩) (hs : T.fns[s]? = some ⟨2, 6, gThing s d o⟩) (hd : T.fns[d]? = some ⟨2, 5, gDraw⟩) (ho : T.fns[o]? = some ⟨2, 2, gOf d⟩) (hu : T.fuel = 1000)
    (hn : Drw st n) (hp : Th c e p) (h0 : 16 ≤ c) (h1 : c ≤ 10000) (q : ∀ (p : P) (t : Sto), Th (3 * c + 60) 3 p → Nx st t n → W (.val p) t) : Ok (run T (k + 6) f [.ref n, .val p] st) W := by
  refine ok_run hf rfl (by decide) ?_
  unfold gOther
  have fin : ∀ (p : P) (t : Sto) (env : Env), Th (3 * c + 60) 3 p → Nx st t n → Lv st.length W (.rt (.val p), env) t := fun p t env h3 h4 => by
    rw [lv_val, h4.take]
    exact q p t h3 h4
  have els : ∀ (env : Env) (t : Sto), Nx st t n → Ok (run T (k + 5) s [.ref n, .val (.int 2)] t) fun a t => Lv st.length W (.rt a, env) t := fun env t nx =>
    thing_ok hs hd ho hu 2 k t _ nx.drw fun p u h3 h4 => fin p u env (h3.mono (by omega) (by omega)) (nx.trans h4)
  have e6 : (10 : Int) ^ (6 : Int).toNat = 1000000 := by decide +kernel
  have ps (x : Str) (h : (decide (x.cps.size ≤ 16) && x.cps.toList.all fun a => decide (a < 128)) = true) : Th (3 * c + 60) 3 (.str x) := (th_of (d := 0) (c := 16) (p := .str x) h).mono (by omega) (by omega)
  cases hp with
  | str _ x hx g =>
    obtain ⟨y, y1, y2, y3⟩ := mul_3 (x := x) (by omega) g
    have es : (Str.ofString "s").cps.size = 1 := by decide +kernel
    simp only [List.map_cons, List.map_nil, List.cons_append, List.nil_append, List.replicate, evSs, evS, evE.eq_1, evE.eq_2, evE.eq_3, evE.eq_4, evE.eq_5, evE.eq_6, evE.eq_7, evE.eq_8, evE.eq_9, evE.eq_10, evE.eq_11, evE.eq_12, evE.eq_13, evE.eq_14, evE.eq_15, evE.eq_16, evE.eq_17, evE.eq_18, evE.eq_19, evE.eq_20, evE.eq_24, evE.eq_25, evE.eq_26, evE.eq_27, evEs, ok_bnd, List.getElem?_cons_zero, List.getElem?_cons_succ, ok_ret, peek_val, asP_val, ok_some, Option.map_some, idx_lst, idx_tup, at_0, at_1, at_2, cmp_gt, cmp_ge, cmp_lt, cmp_le, tru_bl, bin_add, bin_sub, blt_int, blt_intb, peeks_nil, peeks_cons, List.set_cons_zero, List.set_cons_succ, lv_val, set_slot, vals_nil, vals_cons, ok_ok, cell_lst, cell_dct, Ex.fresh, if_true, List.length_cons, List.length_nil, Nat.reduceAdd, Nat.reduceLT, Nat.reduceSub, Nat.zero_add, List.any_cons, List.any_nil, Bool.or_false, isTy, and_cons, and_nil]
    refine draw_nx (k := k + 4) hd hu (by decide) (by decide) hn fun a t a0 a1 nx => ?_
    simp only [List.map_cons, List.map_nil, List.cons_append, List.nil_append, List.replicate, evSs, evS, evE.eq_1, evE.eq_2, evE.eq_3, evE.eq_4, evE.eq_5, evE.eq_6, evE.eq_7, evE.eq_8, evE.eq_9, evE.eq_10, evE.eq_11, evE.eq_12, evE.eq_13, evE.eq_14, evE.eq_15, evE.eq_16, evE.eq_17, evE.eq_18, evE.eq_19, evE.eq_20, evE.eq_24, evE.eq_25, evE.eq_26, evE.eq_27, evEs, ok_bnd, List.getElem?_cons_zero, List.getElem?_cons_succ, ok_ret, peek_val, asP_val, ok_some, Option.map_some, idx_lst, idx_tup, at_0, at_1, at_2, cmp_gt, cmp_ge, cmp_lt, cmp_le, tru_bl, bin_add, bin_sub, blt_int, blt_intb, peeks_nil, peeks_cons, List.set_cons_zero, List.set_cons_succ, lv_val, set_slot, vals_nil, vals_cons, ok_ok, cell_lst, cell_dct, Ex.fresh, if_true, List.length_cons, List.length_nil, Nat.reduceAdd, Nat.reduceLT, Nat.reduceSub, Nat.zero_add, and_nil]
    by_cases c1 : 0 < a
    · simp only [List.map_cons, List.map_nil, List.cons_append, List.nil_append, List.replicate, evSs, evS, evE.eq_1, evE.eq_2, evE.eq_3, evE.eq_4, evE.eq_5, evE.eq_6, evE.eq_7, evE.eq_8, evE.eq_9, evE.eq_10, evE.eq_11, evE.eq_12, evE.eq_13, evE.eq_14, evE.eq_15, evE.eq_16, evE.eq_17, evE.eq_18, evE.eq_19, evE.eq_20, evE.eq_24, evE.eq_25, evE.eq_26, evE.eq_27, evEs, ok_bnd, List.getElem?_cons_zero, List.getElem?_cons_succ, ok_ret, peek_val, asP_val, ok_some, Option.map_some, idx_lst, idx_tup, at_0, at_1, at_2, cmp_gt, cmp_ge, cmp_lt, cmp_le, tru_bl, bin_add, bin_sub, blt_int, blt_intb, peeks_nil, peeks_cons, List.set_cons_zero, List.set_cons_succ, lv_val, set_slot, vals_nil, vals_cons, ok_ok, cell_lst, cell_dct, Ex.fresh, if_true, List.length_cons, List.length_nil, Nat.reduceAdd, Nat.reduceLT, Nat.reduceSub, Nat.zero_add, decide_eq_true c1, bin_cat (x := x) (y := Str.ofString "s") (by rw [es]; omega), evO, slc_str (x := x) (by omega), of_up, mth_val (m := .upper) rfl (upper_up (x := x) (by omega) g), y1, ixOf]
      rw [bin_lst (by simp only [List.length_cons, List.length_nil]; omega)]
      simp only [List.map_cons, List.map_nil, List.cons_append, List.nil_append, List.replicate, evSs, evS, evE.eq_1, evE.eq_2, evE.eq_3, evE.eq_4, evE.eq_5, evE.eq_6, evE.eq_7, evE.eq_8, evE.eq_9, evE.eq_10, evE.eq_11, evE.eq_12, evE.eq_13, evE.eq_14, evE.eq_15, evE.eq_16, evE.eq_17, evE.eq_18, evE.eq_19, evE.eq_20, evE.eq_24, evE.eq_25, evE.eq_26, evE.eq_27, evEs, ok_bnd, List.getElem?_cons_zero, List.getElem?_cons_succ, ok_ret, peek_val, asP_val, ok_some, Option.map_some, idx_lst, idx_tup, at_0, at_1, at_2, cmp_gt, cmp_ge, cmp_lt, cmp_le, tru_bl, bin_add, bin_sub, blt_int, blt_intb, peeks_nil, peeks_cons, List.set_cons_zero, List.set_cons_succ, lv_val, set_slot, vals_nil, vals_cons, ok_ok, cell_lst, cell_dct, Ex.fresh, if_true, List.length_cons, List.length_nil, Nat.reduceAdd, Nat.reduceLT, Nat.reduceSub, Nat.zero_add]
      refine of_ok (k := k + 3) ho hd hu (by simp only [List.length_cons, List.length_append]; omega) (by simp only [List.length_cons, List.length_append, List.length_nil]; omega) nx.drw fun p t hp nz => ?_
      refine fin p t _ ?_ (nx.trans nz)
      simp only [List.cons_append, List.nil_append, List.mem_cons, List.not_mem_nil, or_false] at hp
      rcases hp with rfl | rfl | rfl | rfl | rfl | rfl | rfl | rfl | rfl | rfl
      · refine cat_th (by rw [es]; omega) g fun a ha => ?_
        have : a ∈ [115] := ha
        rw [List.mem_singleton] at this
        omega
      · refine .str _ _ ?_ fun a ha => g a (cutL_in (by simpa using ha))
        have := cutL_le (ys := x.cps.toList) (lo := none) (hi := some (-1))
        show (cutL x.cps.toList none (some (-1))).toArray.size ≤ _
        rw [List.size_toArray]
        have h2 : x.cps.toList.length = x.cps.size := Array.length_toList
        omega
      · refine .str _ _ ?_ fun a ha => ?_
        · show (x.cps.map upC).size ≤ _
          rw [Array.size_map]
          omega
        · have ha : a ∈ (x.cps.map upC).toList := ha
          rw [Array.toList_map, List.mem_map] at ha
          obtain ⟨b, hb, rfl⟩ := ha
          have := g b hb
          unfold upC
          split <;> omega
      · exact .str _ _ (by omega) y3
      all_goals exact ps _ (by decide +kernel)
    · simp only [List.map_cons, List.map_nil, List.cons_append, List.nil_append, List.replicate, evSs, evS, evE.eq_1, evE.eq_2, evE.eq_3, evE.eq_4, evE.eq_5, evE.eq_6, evE.eq_7, evE.eq_8, evE.eq_9, evE.eq_10, evE.eq_11, evE.eq_12, evE.eq_13, evE.eq_14, evE.eq_15, evE.eq_16, evE.eq_17, evE.eq_18, evE.eq_19, evE.eq_20, evE.eq_24, evE.eq_25, evE.eq_26, evE.eq_27, evEs, ok_bnd, List.getElem?_cons_zero, List.getElem?_cons_succ, ok_ret, peek_val, asP_val, ok_some, Option.map_some, idx_lst, idx_tup, at_0, at_1, at_2, cmp_gt, cmp_ge, cmp_lt, cmp_le, tru_bl, bin_add, bin_sub, blt_int, blt_intb, peeks_nil, peeks_cons, List.set_cons_zero, List.set_cons_succ, lv_val, set_slot, vals_nil, vals_cons, ok_ok, cell_lst, cell_dct, Ex.fresh, if_true, List.length_cons, List.length_nil, Nat.reduceAdd, Nat.reduceLT, Nat.reduceSub, Nat.zero_add, decide_eq_false c1, Bool.false_eq_true, if_false, isTy, List.any_cons, List.any_nil, Bool.or_false, and_cons]
      exact els _ t nx
  | int _ i hi =>
    have hb : i.natAbs ≤ 10 ^ 50 * 10000 := Nat.le_trans hi (Nat.mul_le_mul_left _ h1)
    have hz : i.natAbs + 1000000 ≤ 10 ^ 50 * (3 * c + 60) := by omega
    obtain ⟨t1, t2⟩ := int_text (i := i) (m := 55) (Nat.lt_of_le_of_lt hb (by decide +kernel)) (by decide)
    simp only [List.map_cons, List.map_nil, List.cons_append, List.nil_append, List.replicate, evSs, evS, evE.eq_1, evE.eq_2, evE.eq_3, evE.eq_4, evE.eq_5, evE.eq_6, evE.eq_7, evE.eq_8, evE.eq_9, evE.eq_10, evE.eq_11, evE.eq_12, evE.eq_13, evE.eq_14, evE.eq_15, evE.eq_16, evE.eq_17, evE.eq_18, evE.eq_19, evE.eq_20, evE.eq_24, evE.eq_25, evE.eq_26, evE.eq_27, evEs, ok_bnd, List.getElem?_cons_zero, List.getElem?_cons_succ, ok_ret, peek_val, asP_val, ok_some, Option.map_some, idx_lst, idx_tup, at_0, at_1, at_2, cmp_gt, cmp_ge, cmp_lt, cmp_le, tru_bl, bin_add, bin_sub, blt_int, blt_intb, peeks_nil, peeks_cons, List.set_cons_zero, List.set_cons_succ, lv_val, set_slot, vals_nil, vals_cons, ok_ok, cell_lst, cell_dct, Ex.fresh, if_true, List.length_cons, List.length_nil, Nat.reduceAdd, Nat.reduceLT, Nat.reduceSub, Nat.zero_add, List.any_cons, List.any_nil, Bool.or_false, isTy, and_cons, and_nil, Bool.false_eq_true, if_false]
    refine draw_nx (k := k + 4) hd hu (by decide) (by decide) hn fun a t a0 a1 nx => ?_
    simp only [List.map_cons, List.map_nil, List.cons_append, List.nil_append, List.replicate, evSs, evS, evE.eq_1, evE.eq_2, evE.eq_3, evE.eq_4, evE.eq_5, evE.eq_6, evE.eq_7, evE.eq_8, evE.eq_9, evE.eq_10, evE.eq_11, evE.eq_12, evE.eq_13, evE.eq_14, evE.eq_15, evE.eq_16, evE.eq_17, evE.eq_18, evE.eq_19, evE.eq_20, evE.eq_24, evE.eq_25, evE.eq_26, evE.eq_27, evEs, ok_bnd, List.getElem?_cons_zero, List.getElem?_cons_succ, ok_ret, peek_val, asP_val, ok_some, Option.map_some, idx_lst, idx_tup, at_0, at_1, at_2, cmp_gt, cmp_ge, cmp_lt, cmp_le, tru_bl, bin_add, bin_sub, blt_int, blt_intb, peeks_nil, peeks_cons, List.set_cons_zero, List.set_cons_succ, lv_val, set_slot, vals_nil, vals_cons, ok_ok, cell_lst, cell_dct, Ex.fresh, if_true, List.length_cons, List.length_nil, Nat.reduceAdd, Nat.reduceLT, Nat.reduceSub, Nat.zero_add, and_nil]
    by_cases c1 : 0 < a
    · simp only [List.map_cons, List.map_nil, List.cons_append, List.nil_append, List.replicate, evSs, evS, evE.eq_1, evE.eq_2, evE.eq_3, evE.eq_4, evE.eq_5, evE.eq_6, evE.eq_7, evE.eq_8, evE.eq_9, evE.eq_10, evE.eq_11, evE.eq_12, evE.eq_13, evE.eq_14, evE.eq_15, evE.eq_16, evE.eq_17, evE.eq_18, evE.eq_19, evE.eq_20, evE.eq_24, evE.eq_25, evE.eq_26, evE.eq_27, evEs, ok_bnd, List.getElem?_cons_zero, List.getElem?_cons_succ, ok_ret, peek_val, asP_val, ok_some, Option.map_some, idx_lst, idx_tup, at_0, at_1, at_2, cmp_gt, cmp_ge, cmp_lt, cmp_le, tru_bl, bin_add, bin_sub, blt_int, blt_intb, peeks_nil, peeks_cons, List.set_cons_zero, List.set_cons_succ, lv_val, set_slot, vals_nil, vals_cons, ok_ok, cell_lst, cell_dct, Ex.fresh, if_true, List.length_cons, List.length_nil, Nat.reduceAdd, Nat.reduceLT, Nat.reduceSub, Nat.zero_add, decide_eq_true c1, pow_10 (e := 6) (by decide) (by decide), e6, str_in hb]
      rw [bin_lst (by simp only [List.length_cons, List.length_nil]; omega)]
      simp only [List.map_cons, List.map_nil, List.cons_append, List.nil_append, List.replicate, evSs, evS, evE.eq_1, evE.eq_2, evE.eq_3, evE.eq_4, evE.eq_5, evE.eq_6, evE.eq_7, evE.eq_8, evE.eq_9, evE.eq_10, evE.eq_11, evE.eq_12, evE.eq_13, evE.eq_14, evE.eq_15, evE.eq_16, evE.eq_17, evE.eq_18, evE.eq_19, evE.eq_20, evE.eq_24, evE.eq_25, evE.eq_26, evE.eq_27, evEs, ok_bnd, List.getElem?_cons_zero, List.getElem?_cons_succ, ok_ret, peek_val, asP_val, ok_some, Option.map_some, idx_lst, idx_tup, at_0, at_1, at_2, cmp_gt, cmp_ge, cmp_lt, cmp_le, tru_bl, bin_add, bin_sub, blt_int, blt_intb, peeks_nil, peeks_cons, List.set_cons_zero, List.set_cons_succ, lv_val, set_slot, vals_nil, vals_cons, ok_ok, cell_lst, cell_dct, Ex.fresh, if_true, List.length_cons, List.length_nil, Nat.reduceAdd, Nat.reduceLT, Nat.reduceSub, Nat.zero_add]
      refine of_ok (k := k + 3) ho hd hu (by simp only [List.length_cons, List.length_append]; omega) (by simp only [List.length_cons, List.length_append, List.length_nil]; omega) nx.drw fun p t hp nz => ?_
      refine fin p t _ ?_ (nx.trans nz)
      simp only [List.cons_append, List.nil_append, List.mem_cons, List.not_mem_nil, or_false] at hp
      rcases hp with rfl | rfl | rfl | rfl | rfl | rfl | rfl
      · exact .int _ _ (by omega)
      · exact .int _ _ (by omega)
      · exact .int _ _ (by omega)
      · exact .bl _ _
      · exact .int _ _ (by omega)
      · exact .int _ _ (by omega)
      · exact .str _ _ (by omega) t2
    · simp only [List.map_cons, List.map_nil, List.cons_append, List.nil_append, List.replicate, evSs, evS, evE.eq_1, evE.eq_2, evE.eq_3, evE.eq_4, evE.eq_5, evE.eq_6, evE.eq_7, evE.eq_8, evE.eq_9, evE.eq_10, evE.eq_11, evE.eq_12, evE.eq_13, evE.eq_14, evE.eq_15, evE.eq_16, evE.eq_17, evE.eq_18, evE.eq_19, evE.eq_20, evE.eq_24, evE.eq_25, evE.eq_26, evE.eq_27, evEs, ok_bnd, List.getElem?_cons_zero, List.getElem?_cons_succ, ok_ret, peek_val, asP_val, ok_some, Option.map_some, idx_lst, idx_tup, at_0, at_1, at_2, cmp_gt, cmp_ge, cmp_lt, cmp_le, tru_bl, bin_add, bin_sub, blt_int, blt_intb, peeks_nil, peeks_cons, List.set_cons_zero, List.set_cons_succ, lv_val, set_slot, vals_nil, vals_cons, ok_ok, cell_lst, cell_dct, Ex.fresh, if_true, List.length_cons, List.length_nil, Nat.reduceAdd, Nat.reduceLT, Nat.reduceSub, Nat.zero_add, decide_eq_false c1, Bool.false_eq_true, if_false]
      exact els _ t nx
  | bl _ b =>
    have hb : (b2i b).natAbs ≤ 1 := by cases b <;> decide
    simp only [List.map_cons, List.map_nil, List.cons_append, List.nil_append, List.replicate, evSs, evS, evE.eq_1, evE.eq_2, evE.eq_3, evE.eq_4, evE.eq_5, evE.eq_6, evE.eq_7, evE.eq_8, evE.eq_9, evE.eq_10, evE.eq_11, evE.eq_12, evE.eq_13, evE.eq_14, evE.eq_15, evE.eq_16, evE.eq_17, evE.eq_18, evE.eq_19, evE.eq_20, evE.eq_24, evE.eq_25, evE.eq_26, evE.eq_27, evEs, ok_bnd, List.getElem?_cons_zero, List.getElem?_cons_succ, ok_ret, peek_val, asP_val, ok_some, Option.map_some, idx_lst, idx_tup, at_0, at_1, at_2, cmp_gt, cmp_ge, cmp_lt, cmp_le, tru_bl, bin_add, bin_sub, blt_int, blt_intb, peeks_nil, peeks_cons, List.set_cons_zero, List.set_cons_succ, lv_val, set_slot, vals_nil, vals_cons, ok_ok, cell_lst, cell_dct, Ex.fresh, if_true, List.length_cons, List.length_nil, Nat.reduceAdd, Nat.reduceLT, Nat.reduceSub, Nat.zero_add, List.any_cons, List.any_nil, Bool.or_false, isTy, and_cons, and_nil, Bool.false_eq_true, if_false]
    refine draw_nx (k := k + 4) hd hu (by decide) (by decide) hn fun a t a0 a1 nx => ?_
    simp only [List.map_cons, List.map_nil, List.cons_append, List.nil_append, List.replicate, evSs, evS, evE.eq_1, evE.eq_2, evE.eq_3, evE.eq_4, evE.eq_5, evE.eq_6, evE.eq_7, evE.eq_8, evE.eq_9, evE.eq_10, evE.eq_11, evE.eq_12, evE.eq_13, evE.eq_14, evE.eq_15, evE.eq_16, evE.eq_17, evE.eq_18, evE.eq_19, evE.eq_20, evE.eq_24, evE.eq_25, evE.eq_26, evE.eq_27, evEs, ok_bnd, List.getElem?_cons_zero, List.getElem?_cons_succ, ok_ret, peek_val, asP_val, ok_some, Option.map_some, idx_lst, idx_tup, at_0, at_1, at_2, cmp_gt, cmp_ge, cmp_lt, cmp_le, tru_bl, bin_add, bin_sub, blt_int, blt_intb, peeks_nil, peeks_cons, List.set_cons_zero, List.set_cons_succ, lv_val, set_slot, vals_nil, vals_cons, ok_ok, cell_lst, cell_dct, Ex.fresh, if_true, List.length_cons, List.length_nil, Nat.reduceAdd, Nat.reduceLT, Nat.reduceSub, Nat.zero_add, and_nil]
    by_cases c1 : 0 < a
    · simp only [List.map_cons, List.map_nil, List.cons_append, List.nil_append, List.replicate, evSs, evS, evE.eq_1, evE.eq_2, evE.eq_3, evE.eq_4, evE.eq_5, evE.eq_6, evE.eq_7, evE.eq_8, evE.eq_9, evE.eq_10, evE.eq_11, evE.eq_12, evE.eq_13, evE.eq_14, evE.eq_15, evE.eq_16, evE.eq_17, evE.eq_18, evE.eq_19, evE.eq_20, evE.eq_24, evE.eq_25, evE.eq_26, evE.eq_27, evEs, ok_bnd, List.getElem?_cons_zero, List.getElem?_cons_succ, ok_ret, peek_val, asP_val, ok_some, Option.map_some, idx_lst, idx_tup, at_0, at_1, at_2, cmp_gt, cmp_ge, cmp_lt, cmp_le, tru_bl, bin_add, bin_sub, blt_int, blt_intb, peeks_nil, peeks_cons, List.set_cons_zero, List.set_cons_succ, lv_val, set_slot, vals_nil, vals_cons, ok_ok, cell_lst, cell_dct, Ex.fresh, if_true, List.length_cons, List.length_nil, Nat.reduceAdd, Nat.reduceLT, Nat.reduceSub, Nat.zero_add, decide_eq_true c1, pow_10 (e := 6) (by decide) (by decide), e6, bin_addb, bin_subb, bin_bsub, blt_strb]
      rw [bin_lst (by simp only [List.length_cons, List.length_nil]; omega)]
      simp only [List.map_cons, List.map_nil, List.cons_append, List.nil_append, List.replicate, evSs, evS, evE.eq_1, evE.eq_2, evE.eq_3, evE.eq_4, evE.eq_5, evE.eq_6, evE.eq_7, evE.eq_8, evE.eq_9, evE.eq_10, evE.eq_11, evE.eq_12, evE.eq_13, evE.eq_14, evE.eq_15, evE.eq_16, evE.eq_17, evE.eq_18, evE.eq_19, evE.eq_20, evE.eq_24, evE.eq_25, evE.eq_26, evE.eq_27, evEs, ok_bnd, List.getElem?_cons_zero, List.getElem?_cons_succ, ok_ret, peek_val, asP_val, ok_some, Option.map_some, idx_lst, idx_tup, at_0, at_1, at_2, cmp_gt, cmp_ge, cmp_lt, cmp_le, tru_bl, bin_add, bin_sub, blt_int, blt_intb, peeks_nil, peeks_cons, List.set_cons_zero, List.set_cons_succ, lv_val, set_slot, vals_nil, vals_cons, ok_ok, cell_lst, cell_dct, Ex.fresh, if_true, List.length_cons, List.length_nil, Nat.reduceAdd, Nat.reduceLT, Nat.reduceSub, Nat.zero_add]
      refine of_ok (k := k + 3) ho hd hu (by simp only [List.length_cons, List.length_append]; omega) (by simp only [List.length_cons, List.length_append, List.length_nil]; omega) nx.drw fun p t hp nz => ?_
      refine fin p t _ ?_ (nx.trans nz)
      simp only [List.cons_append, List.nil_append, List.mem_cons, List.not_mem_nil, or_false] at hp
      rcases hp with rfl | rfl | rfl | rfl | rfl | rfl | rfl
      · exact .int _ _ (by omega)
      · exact .int _ _ (by omega)
      · exact .int _ _ (by omega)
      · exact .bl _ _
      · exact .int _ _ (by omega)
      · exact .int _ _ (by omega)
      · cases b
        · exact ps _ (by decide +kernel)
        · exact ps _ (by decide +kernel)
    · simp only [List.map_cons, List.map_nil, List.cons_append, List.nil_append, List.replicate, evSs, evS, evE.eq_1, evE.eq_2, evE.eq_3, evE.eq_4, evE.eq_5, evE.eq_6, evE.eq_7, evE.eq_8, evE.eq_9, evE.eq_10, evE.eq_11, evE.eq_12, evE.eq_13, evE.eq_14, evE.eq_15, evE.eq_16, evE.eq_17, evE.eq_18, evE.eq_19, evE.eq_20, evE.eq_24, evE.eq_25, evE.eq_26, evE.eq_27, evEs, ok_bnd, List.getElem?_cons_zero, List.getElem?_cons_succ, ok_ret, peek_val, asP_val, ok_some, Option.map_some, idx_lst, idx_tup, at_0, at_1, at_2, cmp_gt, cmp_ge, cmp_lt, cmp_le, tru_bl, bin_add, bin_sub, blt_int, blt_intb, peeks_nil, peeks_cons, List.set_cons_zero, List.set_cons_succ, lv_val, set_slot, vals_nil, vals_cons, ok_ok, cell_lst, cell_dct, Ex.fresh, if_true, List.length_cons, List.length_nil, Nat.reduceAdd, Nat.reduceLT, Nat.reduceSub, Nat.zero_add, decide_eq_false c1, Bool.false_eq_true, if_false]
      exact els _ t nx
  | _ =>
    simp only [List.map_cons, List.map_nil, List.cons_append, List.nil_append, List.replicate, evSs, evS, evE.eq_1, evE.eq_2, evE.eq_3, evE.eq_4, evE.eq_5, evE.eq_6, evE.eq_7, evE.eq_8, evE.eq_9, evE.eq_10, evE.eq_11, evE.eq_12, evE.eq_13, evE.eq_14, evE.eq_15, evE.eq_16, evE.eq_17, evE.eq_18, evE.eq_19, evE.eq_20, evE.eq_24, evE.eq_25, evE.eq_26, evE.eq_27, evEs, ok_bnd, List.getElem?_cons_zero, List.getElem?_cons_succ, ok_ret, peek_val, asP_val, ok_some, Option.map_some, idx_lst, idx_tup, at_0, at_1, at_2, cmp_gt, cmp_ge, cmp_lt, cmp_le, tru_bl, bin_add, bin_sub, blt_int, blt_intb, peeks_nil, peeks_cons, List.set_cons_zero, List.set_cons_succ, lv_val, set_slot, vals_nil, vals_cons, ok_ok, cell_lst, cell_dct, Ex.fresh, if_true, List.length_cons, List.length_nil, Nat.reduceAdd, Nat.reduceLT, Nat.reduceSub, Nat.zero_add, List.any_cons, List.any_nil, Bool.or_false, isTy, and_cons, and_nil, Bool.false_eq_true, if_false]
    exact els _ st (.refl hn)
end Fy

/-! Pl11: a row with one thing otherwise. -/
namespace Fy
open PySem (Str)
/-- st with one row more at the end, behind draws from cell n -/
structure Nk (st u : Sto) (n : Nat) (ys : List P) : Prop where
  drw : Drw u n
  len : u.length = st.length + 1
  top : u[st.length]? = some (.lst ys)
  els : ∀ j, j ≠ n → j < st.length → u[j]? = st[j]?
theorem Drw.lt {st : Sto} {n : Nat} (h : Drw st n) : n < st.length := by
  obtain ⟨x, y, e, _⟩ := h
  exact lt_of_some e
theorem Nk.start {st : Sto} {n : Nat} {xs : List P} (h : Drw st n) : Nk st (st ++ [.lst xs]) n xs := by
  have hl := h.lt
  refine ⟨?_, by rw [List.length_append]; rfl, by rw [List.getElem?_append_right (Nat.le_refl _), Nat.sub_self]; rfl, fun j _ hj => by rw [List.getElem?_append_left hj]⟩
  obtain ⟨x, y, e, z⟩ := h
  exact ⟨x, y, by rw [List.getElem?_append_left hl]; exact e, z⟩
theorem Nk.nx {st u : Sto} {n : Nat} {ys : List P} (h : Nk st u n ys) (hn : n < st.length) : Nx st (u.take st.length) n := by
  refine ⟨?_, by rw [List.length_take, h.len]; omega, fun j hj => ?_⟩
  · obtain ⟨x, y, e, z⟩ := h.drw
    exact ⟨x, y, by rw [List.getElem?_take_of_lt hn]; exact e, z⟩
  · by_cases hl : j < st.length
    · rw [List.getElem?_take_of_lt hl]
      exact h.els j hj hl
    · rw [List.getElem?_eq_none (by rw [List.length_take, h.len]; omega), List.getElem?_eq_none (by omega)]
theorem Nk.draw {st u v : Sto} {n : Nat} {ys : List P} (h : Nk st u n ys) (hn : n < st.length) (g : Nx u v n) : Nk st v n ys :=
  ⟨g.drw, g.len.trans h.len, (g.els _ (by omega)).trans h.top, fun j h1 h2 => (g.els j h1).trans (h.els j h1 h2)⟩
theorem Nk.set {st u : Sto} {n : Nat} {ys : List P} (zs : List P) (h : Nk st u n ys) (hn : n < st.length) : Nk st (u.set st.length (.lst zs)) n zs := by
  refine ⟨?_, by rw [List.length_set]; exact h.len, by rw [List.getElem?_set_self (by rw [h.len]; omega)], fun j h1 h2 => ?_⟩
  · obtain ⟨x, y, e, z⟩ := h.drw
    exact ⟨x, y, by rw [List.getElem?_set_ne (by omega)]; exact e, z⟩
  · rw [List.getElem?_set_ne (by omega)]
    exact h.els j h1 h2
/-- no cell holds a place that is not there yet -/
def Cl (st : Sto) : Prop := ∀ (j : Nat) (c : Cell) (m : Nat), st[j]? = some c → st.length ≤ m → holdsRef m c = false
theorem Cl.nx {st t : Sto} {n : Nat} (h : Cl st) (g : Nx st t n) : Cl t := fun j c m e l => by
  rw [g.len] at l
  by_cases q : j = n
  · subst q
    obtain ⟨x, y, e2, _⟩ := g.drw
    rw [e2] at e
    cases e
    rfl
  · rw [g.els j q] at e
    exact h j c m e l
theorem Cl.nk {st t : Sto} {n : Nat} {ys : List P} (h : Cl st) (g : Nk st t n ys) : Cl t := fun j c m e l => by
  have lj := lt_of_some e
  rw [g.len] at l lj
  by_cases q : j = n
  · subst q
    obtain ⟨x, y, e2, _⟩ := g.drw
    rw [e2] at e
    cases e
    rfl
  · by_cases q2 : j = st.length
    · subst q2
      rw [g.top] at e
      cases e
      rfl
    · rw [g.els j q (by omega)] at e
      exact h j c m e (by omega)
theorem frz_one {b : Nat} {st u : Sto} {n i : Nat} {ys : List P} {env : Env} {W : Flow × Env → Sto → Prop} (hk : Nk st u n ys) (hb : b = st.length) (hc : Cl st) (he : env[i]? = some (some (.ref st.length))) (ho : (env.set i none).any (isRef st.length) = false) :
    Ok (freeze b i env u) W ↔ W (.nx, env.set i (some (.val (.lst ys)))) (u.take st.length) := by
  subst hb
  have ha : u.any (holdsRef st.length) = false := by
    rw [List.any_eq_false]
    intro c hm
    (obtain ⟨j, hj⟩ := List.getElem?_of_mem hm)
    have lj := lt_of_some hj
    rw [hk.len] at lj
    by_cases q : j = n
    · subst q
      obtain ⟨x, y, e2, _⟩ := hk.drw
      rw [e2] at hj
      cases hj
      exact Bool.false_ne_true
    · by_cases q2 : j = st.length
      · subst q2
        rw [hk.top] at hj
        cases hj
        exact Bool.false_ne_true
      · rw [hk.els j q (by omega)] at hj
        rw [hc j c _ hj (Nat.le_refl _)]
        exact Bool.false_ne_true
  unfold freeze
  simp only [he, hk.len, hk.top, ho, ha, Option.bind_some, cellP]
  rw [if_pos ⟨trivial, Nat.le_refl _⟩]
  exact .rfl
theorem pop_cell {n j : Nat} {L : List P} {t : Sto} {W : Sl → Sto → Prop} (h : t[n]? = some (.lst L)) (hj : j < L.length) : Ok (mthM .pop1 (.ref n) [.val (.int (j : Nat))] t) W ↔ W (.val L[j]) (t.set n (.lst (L.eraseIdx j))) := by
  unfold mthM
  show Ok (match (t[n]?).bind fun c => mthC .pop1 c [.int (j : Nat)] with | some r => R.ok (Sl.val r.1) (t.set n r.2) | none => R.bad) W ↔ _
  rw [h]
  have e : mthC .pop1 (.lst L) [.int (j : Nat)] = some (L[j], .lst (L.eraseIdx j)) := by
    show (if 0 ≤ ((j : Nat) : Int) ∧ ((j : Nat) : Int).toNat < L.length then _ else _) = _
    rw [if_pos ⟨by omega, by omega⟩, Int.toNat_natCast, List.getElem?_eq_getElem hj]
    rfl
  show Ok (match mthC .pop1 (.lst L) [.int (j : Nat)] with | some r => R.ok (Sl.val r.1) (t.set n r.2) | none => R.bad) W ↔ _
  rw [e]
  rfl
theorem ins_cell {n j : Nat} {L : List P} {p : P} {t : Sto} {W : Sl → Sto → Prop} (h : t[n]? = some (.lst L)) (hj : j ≤ L.length) (hl : L.length < 100000) : Ok (mthM .insert (.ref n) [.val (.int (j : Nat)), .val p] t) W ↔ W (.val .non) (t.set n (.lst (L.take j ++ p :: L.drop j))) := by
  unfold mthM
  have e : mthC .insert (.lst L) [.int (j : Nat), p] = some (.non, .lst (L.take j ++ p :: L.drop j)) := by
    show (if 0 ≤ ((j : Nat) : Int) ∧ ((j : Nat) : Int).toNat ≤ L.length ∧ L.length < lenMost then _ else _) = _
    rw [if_pos ⟨by omega, by omega, hl⟩, Int.toNat_natCast]
  show Ok (match (t[n]?).bind fun c => mthC .insert c [.int (j : Nat), p] with | some r => R.ok (Sl.val r.1) (t.set n r.2) | none => R.bad) W ↔ _
  rw [h]
  show Ok (match mthC .insert (.lst L) [.int (j : Nat), p] with | some r => R.ok (Sl.val r.1) (t.set n r.2) | none => R.bad) W ↔ _
  rw [e]
  rfl
theorem of_pop {α : Type} {xs : List P} {a b : α} : (if Mth.of .pop1 (.lst xs) = true then a else b) = a := rfl
theorem of_ins {α : Type} {xs : List P} {a b : α} : (if Mth.of .insert (.lst xs) = true then a else b) = a := rfl
theorem of_app {α : Type} {xs : List P} {a b : α} : (if Mth.of .append (.lst xs) = true then a else b) = a := rfl
theorem seti_c {xs : List P} {j : Nat} {p : P} (hj : j < xs.length) : setC (.lst xs) (.int (j : Nat)) p = some (.lst (xs.set j p)) := by
  show (if 0 ≤ ((j : Nat) : Int) ∧ ((j : Nat) : Int).toNat < xs.length then _ else _) = _
  rw [if_pos ⟨by omega, by omega⟩, Int.toNat_natCast]
theorem eq_nil {xs : List P} (h : ∀ x ∈ xs, x.flat = true) : cmpP .eq (.lst xs) (.lst []) = some xs.isEmpty := by
  show (if P.flats xs && P.flats [] && decide (min _ _ ≤ depthMost) then some _ else none) = _
  have e : decide (min (P.lst xs).depth (P.lst []).depth ≤ depthMost) = true := decide_eq_true (Nat.le_trans (Nat.min_le_right _ _) (by decide))
  rw [flats_all h, e]
  cases xs <;> rfl
def isRow : P → Bool
  | .tup _ => true
  | .lst _ => true
  | _ => false
def rowOf : P → List P
  | .tup xs => xs
  | .lst xs => xs
  | _ => []
/-- a row of p's kind -/
def likeP (p : P) (ys : List P) : P := if isTy .lst p then .lst ys else .tup ys
def unlikeP (p : P) (ys : List P) : P := if isTy .lst p then .tup ys else .lst ys
/-- _law_otherwise: f its own number, d _law_draw, h _law_other_leaf, s _law_thing -/
def gEnd : Sts := (.cons (.frz 3) (.cons (.ret (.ife (.isi (.var 1) [.lst] false) (.var 3) (.blt .tup (.cons (.var 3) .nil)))) .nil))
def gFlip : Sts := (.cons (.frz 3) (.cons (.ret (.ife (.isi (.var 1) [.lst] false) (.blt .tup (.cons (.var 3) .nil)) (.var 3))) .nil))
def gRest (d h : Nat) : Sts := (.cons (.asg 5 (.cal d (.cons (.var 0) (.cons (.cst (.int 7)) .nil)))) (.cons (.ite (.cmp .eq (.var 5) (.cst (.int 0))) (.cons (.expr (.mth .pop1 (.var 3) (.cons (.var 4) .nil))) .nil) (.cons (.ite (.cmp .eq (.var 5) (.cst (.int 1))) (.cons (.expr (.mth .insert (.var 3) (.cons (.var 4) (.cons (.idx (.var 3) (.var 4)) .nil)))) .nil) (.cons (.ite (.cmp .eq (.var 5) (.cst (.int 2))) (.cons (.sets (.var 3) (.var 4) (.bin .add (.var 4) (.cst (.int 2))) (.rev (.slc (.var 3) (.yes (.var 4)) (.yes (.bin .add (.var 4) (.cst (.int 2))))))) .nil) (.cons (.ite (.cmp .lt (.var 5) (.cst (.int 6))) (.cons (.seti (.var 3) (.var 4) (.cal h (.cons (.var 0) (.cons (.idx (.var 3) (.var 4)) .nil)))) .nil) gFlip) .nil)) .nil)) .nil)) gEnd))
def gElse (f d h s : Nat) : Sts := (.cons (.asg 3 (.new (.blt .lst (.cons (.var 1) .nil)))) (.cons (.ite (.cmp .eq (.var 3) (.lst .nil)) (.cons (.ret (.tup (.cons (.cal s (.cons (.var 0) (.cons (.cst (.int 1)) .nil))) .nil))) .nil) .nil) (.cons (.asg 4 (.cal d (.cons (.var 0) (.cons (.blt .len (.cons (.var 3) .nil)) .nil)))) (.cons (.ite (.and (.isi (.idx (.var 3) (.var 4)) [.tup, .lst] true) (.cons (.cmp .gt (.var 2) (.cst (.int 0))) (.cons (.cmp .gt (.cal d (.cons (.var 0) (.cons (.cst (.int 4)) .nil))) (.cst (.int 0))) .nil))) (.cons (.seti (.var 3) (.var 4) (.cal f (.cons (.var 0) (.cons (.idx (.var 3) (.var 4)) (.cons (.bin .sub (.var 2) (.cst (.int 1))) .nil))))) gEnd) .nil) (gRest d h)))))
end Fy

/-! Pl12: a row with one thing otherwise: its turns. -/
namespace Fy
open PySem (Str)
theorem gend_ok {T : Tab} {k n : Nat} {st u : Sto} {p : P} {m : Sl} {z w : Option Sl} {ys : List P} {W : Sl → Sto → Prop} (hk : Nk st u n ys) (hn : n < st.length) (hc : Cl st) (hm : isRef st.length (some m) = false) (hz : isRef st.length z = false) (hw : isRef st.length w = false)
    (q : Nx st (u.take st.length) n → W (.val (likeP p ys)) (u.take st.length)) : Ok (evSs ⟨run T k, T.glo, T.fuel, st.length⟩ gEnd [some (.ref n), some (.val p), some m, some (.ref st.length), z, w] u) (fun r t => match r.1 with | .rt v => Lv st.length W r t | _ => False) := by
  unfold gEnd
  have o : ([some (Sl.ref n), some (.val p), some m, none, z, w] : Env).any (isRef st.length) = false := by
    have : isRef st.length (some (Sl.ref n)) = false := by
      show (n == st.length) = false
      rw [beq_eq_false_iff_ne]
      omega
    simp only [List.any_cons, List.any_nil, this, hm, hz, hw]
    rfl
  simp only [List.map_cons, List.map_nil, List.cons_append, List.nil_append, List.replicate, evSs, evS, evE.eq_1, evE.eq_2, evE.eq_3, evE.eq_4, evE.eq_5, evE.eq_6, evE.eq_7, evE.eq_8, evE.eq_9, evE.eq_10, evE.eq_11, evE.eq_12, evE.eq_13, evE.eq_14, evE.eq_15, evE.eq_16, evE.eq_17, evE.eq_18, evE.eq_19, evE.eq_20, evE.eq_24, evE.eq_25, evE.eq_26, evE.eq_27, evEs, ok_bnd, List.getElem?_cons_zero, List.getElem?_cons_succ, ok_ret, peek_val, asP_val, ok_some, Option.map_some, idx_lst, idx_tup, at_0, at_1, at_2, cmp_gt, cmp_ge, cmp_lt, cmp_le, tru_bl, bin_add, bin_sub, blt_int, blt_intb, peeks_nil, peeks_cons, List.set_cons_zero, List.set_cons_succ, lv_val, set_slot, vals_nil, vals_cons, ok_ok, cell_lst, cell_dct, Ex.fresh, if_true, List.length_cons, List.length_nil, Nat.reduceAdd, Nat.reduceLT, Nat.reduceSub, Nat.zero_add]
  rw [frz_one (i := 3) (env := [some (.ref n), some (.val p), some m, some (.ref st.length), z, w]) hk rfl hc rfl o]
  have e : likeP p ys = if isTy .lst p then .lst ys else .tup ys := rfl
  have l : (u.take st.length).take st.length = u.take st.length := List.take_of_length_le (by rw [List.length_take]; omega)
  have q := q (hk.nx hn)
  rw [e] at q
  simp only [List.map_cons, List.map_nil, List.cons_append, List.nil_append, List.replicate, evSs, evS, evE.eq_1, evE.eq_2, evE.eq_3, evE.eq_4, evE.eq_5, evE.eq_6, evE.eq_7, evE.eq_8, evE.eq_9, evE.eq_10, evE.eq_11, evE.eq_12, evE.eq_13, evE.eq_14, evE.eq_15, evE.eq_16, evE.eq_17, evE.eq_18, evE.eq_19, evE.eq_20, evE.eq_24, evE.eq_25, evE.eq_26, evE.eq_27, evEs, ok_bnd, List.getElem?_cons_zero, List.getElem?_cons_succ, ok_ret, peek_val, asP_val, ok_some, Option.map_some, idx_lst, idx_tup, at_0, at_1, at_2, cmp_gt, cmp_ge, cmp_lt, cmp_le, tru_bl, bin_add, bin_sub, blt_int, blt_intb, peeks_nil, peeks_cons, List.set_cons_zero, List.set_cons_succ, lv_val, set_slot, vals_nil, vals_cons, ok_ok, cell_lst, cell_dct, Ex.fresh, if_true, List.length_cons, List.length_nil, Nat.reduceAdd, Nat.reduceLT, Nat.reduceSub, Nat.zero_add, List.any_cons, List.any_nil, Bool.or_false, blt_tupl]
  cases hb : isTy .lst p with
  | true =>
    rw [hb, if_pos rfl] at q
    simp only [List.map_cons, List.map_nil, List.cons_append, List.nil_append, List.replicate, evSs, evS, evE.eq_1, evE.eq_2, evE.eq_3, evE.eq_4, evE.eq_5, evE.eq_6, evE.eq_7, evE.eq_8, evE.eq_9, evE.eq_10, evE.eq_11, evE.eq_12, evE.eq_13, evE.eq_14, evE.eq_15, evE.eq_16, evE.eq_17, evE.eq_18, evE.eq_19, evE.eq_20, evE.eq_24, evE.eq_25, evE.eq_26, evE.eq_27, evEs, ok_bnd, List.getElem?_cons_zero, List.getElem?_cons_succ, ok_ret, peek_val, asP_val, ok_some, Option.map_some, idx_lst, idx_tup, at_0, at_1, at_2, cmp_gt, cmp_ge, cmp_lt, cmp_le, tru_bl, bin_add, bin_sub, blt_int, blt_intb, peeks_nil, peeks_cons, List.set_cons_zero, List.set_cons_succ, lv_val, set_slot, vals_nil, vals_cons, ok_ok, cell_lst, cell_dct, Ex.fresh, if_true, List.length_cons, List.length_nil, Nat.reduceAdd, Nat.reduceLT, Nat.reduceSub, Nat.zero_add, l]
    exact q
  | false =>
    rw [hb, if_neg Bool.false_ne_true] at q
    simp only [List.map_cons, List.map_nil, List.cons_append, List.nil_append, List.replicate, evSs, evS, evE.eq_1, evE.eq_2, evE.eq_3, evE.eq_4, evE.eq_5, evE.eq_6, evE.eq_7, evE.eq_8, evE.eq_9, evE.eq_10, evE.eq_11, evE.eq_12, evE.eq_13, evE.eq_14, evE.eq_15, evE.eq_16, evE.eq_17, evE.eq_18, evE.eq_19, evE.eq_20, evE.eq_24, evE.eq_25, evE.eq_26, evE.eq_27, evEs, ok_bnd, List.getElem?_cons_zero, List.getElem?_cons_succ, ok_ret, peek_val, asP_val, ok_some, Option.map_some, idx_lst, idx_tup, at_0, at_1, at_2, cmp_gt, cmp_ge, cmp_lt, cmp_le, tru_bl, bin_add, bin_sub, blt_int, blt_intb, peeks_nil, peeks_cons, List.set_cons_zero, List.set_cons_succ, lv_val, set_slot, vals_nil, vals_cons, ok_ok, cell_lst, cell_dct, Ex.fresh, if_true, List.length_cons, List.length_nil, Nat.reduceAdd, Nat.reduceLT, Nat.reduceSub, Nat.zero_add, l, Bool.false_eq_true, if_false, blt_tupl]
    exact q
theorem rt_lv {n : Nat} {W : Sl → Sto → Prop} {r : R (Flow × Env)} (h : Ok r (fun r t => match r.1 with | .rt v => Lv n W r t | _ => False)) : Ok r (Lv n W) := h.imp fun r t z => by
  obtain ⟨fl, env⟩ := r
  cases fl with
  | rt v => exact z
  | _ => exact z.elim
theorem gflip_ok {T : Tab} {k n : Nat} {st u : Sto} {p : P} {m : Sl} {z w : Option Sl} {ys : List P} {W : Sl → Sto → Prop} (hk : Nk st u n ys) (hn : n < st.length) (hc : Cl st) (hm : isRef st.length (some m) = false) (hz : isRef st.length z = false) (hw : isRef st.length w = false)
    (q : Nx st (u.take st.length) n → W (.val (unlikeP p ys)) (u.take st.length)) : Ok (evSs ⟨run T k, T.glo, T.fuel, st.length⟩ gFlip [some (.ref n), some (.val p), some m, some (.ref st.length), z, w] u) (fun r t => match r.1 with | .rt v => Lv st.length W r t | _ => False) := by
  unfold gFlip
  have o : ([some (Sl.ref n), some (.val p), some m, none, z, w] : Env).any (isRef st.length) = false := by
    have : isRef st.length (some (Sl.ref n)) = false := by
      show (n == st.length) = false
      rw [beq_eq_false_iff_ne]
      omega
    simp only [List.any_cons, List.any_nil, this, hm, hz, hw]
    rfl
  simp only [List.map_cons, List.map_nil, List.cons_append, List.nil_append, List.replicate, evSs, evS, evE.eq_1, evE.eq_2, evE.eq_3, evE.eq_4, evE.eq_5, evE.eq_6, evE.eq_7, evE.eq_8, evE.eq_9, evE.eq_10, evE.eq_11, evE.eq_12, evE.eq_13, evE.eq_14, evE.eq_15, evE.eq_16, evE.eq_17, evE.eq_18, evE.eq_19, evE.eq_20, evE.eq_24, evE.eq_25, evE.eq_26, evE.eq_27, evEs, ok_bnd, List.getElem?_cons_zero, List.getElem?_cons_succ, ok_ret, peek_val, asP_val, ok_some, Option.map_some, idx_lst, idx_tup, at_0, at_1, at_2, cmp_gt, cmp_ge, cmp_lt, cmp_le, tru_bl, bin_add, bin_sub, blt_int, blt_intb, peeks_nil, peeks_cons, List.set_cons_zero, List.set_cons_succ, lv_val, set_slot, vals_nil, vals_cons, ok_ok, cell_lst, cell_dct, Ex.fresh, if_true, List.length_cons, List.length_nil, Nat.reduceAdd, Nat.reduceLT, Nat.reduceSub, Nat.zero_add]
  rw [frz_one (i := 3) (env := [some (.ref n), some (.val p), some m, some (.ref st.length), z, w]) hk rfl hc rfl o]
  have e : unlikeP p ys = if isTy .lst p then .tup ys else .lst ys := rfl
  have l : (u.take st.length).take st.length = u.take st.length := List.take_of_length_le (by rw [List.length_take]; omega)
  have q := q (hk.nx hn)
  rw [e] at q
  simp only [List.map_cons, List.map_nil, List.cons_append, List.nil_append, List.replicate, evSs, evS, evE.eq_1, evE.eq_2, evE.eq_3, evE.eq_4, evE.eq_5, evE.eq_6, evE.eq_7, evE.eq_8, evE.eq_9, evE.eq_10, evE.eq_11, evE.eq_12, evE.eq_13, evE.eq_14, evE.eq_15, evE.eq_16, evE.eq_17, evE.eq_18, evE.eq_19, evE.eq_20, evE.eq_24, evE.eq_25, evE.eq_26, evE.eq_27, evEs, ok_bnd, List.getElem?_cons_zero, List.getElem?_cons_succ, ok_ret, peek_val, asP_val, ok_some, Option.map_some, idx_lst, idx_tup, at_0, at_1, at_2, cmp_gt, cmp_ge, cmp_lt, cmp_le, tru_bl, bin_add, bin_sub, blt_int, blt_intb, peeks_nil, peeks_cons, List.set_cons_zero, List.set_cons_succ, lv_val, set_slot, vals_nil, vals_cons, ok_ok, cell_lst, cell_dct, Ex.fresh, if_true, List.length_cons, List.length_nil, Nat.reduceAdd, Nat.reduceLT, Nat.reduceSub, Nat.zero_add, List.any_cons, List.any_nil, Bool.or_false, blt_tupl]
  cases hb : isTy .lst p with
  | true =>
    rw [hb, if_pos rfl] at q
    simp only [List.map_cons, List.map_nil, List.cons_append, List.nil_append, List.replicate, evSs, evS, evE.eq_1, evE.eq_2, evE.eq_3, evE.eq_4, evE.eq_5, evE.eq_6, evE.eq_7, evE.eq_8, evE.eq_9, evE.eq_10, evE.eq_11, evE.eq_12, evE.eq_13, evE.eq_14, evE.eq_15, evE.eq_16, evE.eq_17, evE.eq_18, evE.eq_19, evE.eq_20, evE.eq_24, evE.eq_25, evE.eq_26, evE.eq_27, evEs, ok_bnd, List.getElem?_cons_zero, List.getElem?_cons_succ, ok_ret, peek_val, asP_val, ok_some, Option.map_some, idx_lst, idx_tup, at_0, at_1, at_2, cmp_gt, cmp_ge, cmp_lt, cmp_le, tru_bl, bin_add, bin_sub, blt_int, blt_intb, peeks_nil, peeks_cons, List.set_cons_zero, List.set_cons_succ, lv_val, set_slot, vals_nil, vals_cons, ok_ok, cell_lst, cell_dct, Ex.fresh, if_true, List.length_cons, List.length_nil, Nat.reduceAdd, Nat.reduceLT, Nat.reduceSub, Nat.zero_add, l, blt_tupl]
    exact q
  | false =>
    rw [hb, if_neg Bool.false_ne_true] at q
    simp only [List.map_cons, List.map_nil, List.cons_append, List.nil_append, List.replicate, evSs, evS, evE.eq_1, evE.eq_2, evE.eq_3, evE.eq_4, evE.eq_5, evE.eq_6, evE.eq_7, evE.eq_8, evE.eq_9, evE.eq_10, evE.eq_11, evE.eq_12, evE.eq_13, evE.eq_14, evE.eq_15, evE.eq_16, evE.eq_17, evE.eq_18, evE.eq_19, evE.eq_20, evE.eq_24, evE.eq_25, evE.eq_26, evE.eq_27, evEs, ok_bnd, List.getElem?_cons_zero, List.getElem?_cons_succ, ok_ret, peek_val, asP_val, ok_some, Option.map_some, idx_lst, idx_tup, at_0, at_1, at_2, cmp_gt, cmp_ge, cmp_lt, cmp_le, tru_bl, bin_add, bin_sub, blt_int, blt_intb, peeks_nil, peeks_cons, List.set_cons_zero, List.set_cons_succ, lv_val, set_slot, vals_nil, vals_cons, ok_ok, cell_lst, cell_dct, Ex.fresh, if_true, List.length_cons, List.length_nil, Nat.reduceAdd, Nat.reduceLT, Nat.reduceSub, Nat.zero_add, l, Bool.false_eq_true, if_false]
    exact q
theorem like_th {c d : Nat} {p : P} {ys : List P} (hl : ys.length ≤ c) (h : ∀ y ∈ ys, Th c d y) : Th c (d + 1) (likeP p ys) ∧ isRow (likeP p ys) = true := by
  unfold likeP
  split
  · exact ⟨.lst _ ys hl h, rfl⟩
  · exact ⟨.tup _ ys hl h, rfl⟩
theorem unlike_th {c d : Nat} {p : P} {ys : List P} (hl : ys.length ≤ c) (h : ∀ y ∈ ys, Th c d y) : Th c (d + 1) (unlikeP p ys) ∧ isRow (unlikeP p ys) = true := by
  unfold unlikeP
  split
  · exact ⟨.tup _ ys hl h, rfl⟩
  · exact ⟨.lst _ ys hl h, rfl⟩
theorem slc_lst {xs : List P} {lo hi : Option Int} : slcP (.lst xs) lo hi = some (.lst (cutL xs lo hi)) := rfl
theorem slc_tup {xs : List P} {lo hi : Option Int} : slcP (.tup xs) lo hi = some (.tup (cutL xs lo hi)) := rfl
theorem rev_lst {xs : List P} : revP (.lst xs) = some (.lst xs.reverse) := rfl
theorem asI_int {i : Int} {W : Int → Sto → Prop} {t : Sto} : Ok (asI (.val (.int i)) t) W ↔ W i t := .rfl
theorem sets_c {xs ys : List P} {i j : Int} (h0 : 0 ≤ i) (h1 : i ≤ j) (h2 : i.toNat ≤ xs.length) (h3 : xs.length + ys.length ≤ 100000) : setS (.lst xs) (.int i) (.int j) (.lst ys) = some (.lst (xs.take i.toNat ++ ys ++ xs.drop j.toNat)) := if_pos ⟨h0, h1, h2, h3⟩
section
variable {T : Tab} {f h s d o n : Nat}
theorem grest_ok {k c e j : Nat} {st u : Sto} {p : P} {m : Sl} {xs : List P} {W : Sl → Sto → Prop} (hf : T.fns[h]? = some ⟨2, 4, gOther d o s⟩) (hs : T.fns[s]? = some ⟨2, 6, gThing s d o⟩) (hd : T.fns[d]? = some ⟨2, 5, gDraw⟩) (ho : T.fns[o]? = some ⟨2, 2, gOf d⟩) (hu : T.fuel = 1000)
    (hk : Nk st u n xs) (hn : n < st.length) (hc : Cl st) (hm : isRef st.length (some m) = false) (h0 : 16 ≤ c) (h1 : c ≤ 10000) (hl : xs.length ≤ c) (hx : ∀ x ∈ xs, Th c e x) (hj : j < xs.length)
    (q : ∀ (p' : P) (t : Sto), Th (3 * c + 60) (e + 4) p' → isRow p' = true → Nx st t n → W (.val p') t) :
    Ok (evSs ⟨run T (k + 6), T.glo, T.fuel, st.length⟩ (gRest d h) [some (.ref n), some (.val p), some m, some (.ref st.length), some (.val (.int (j : Nat))), none] u) (Lv st.length W) := by
  unfold gRest
  have hx' : ∀ x ∈ xs, Th (3 * c + 60) (e + 3) x := fun x hm => (hx x hm).mono (by omega) (by omega)
  have fin : ∀ (v : Sto) (a : Int) (ys : List P), Nk st v n ys → ys.length ≤ 3 * c + 60 → (∀ y ∈ ys, Th (3 * c + 60) (e + 3) y) → Ok (evSs ⟨run T (k + 6), T.glo, T.fuel, st.length⟩ gEnd [some (.ref n), some (.val p), some m, some (.ref st.length), some (.val (.int (j : Nat))), some (.val (.int a))] v) (Lv st.length W) := fun v a ys hv ly hy =>
    rt_lv <| gend_ok hv hn hc hm rfl rfl fun nx => q _ _ (like_th ly hy).1 (like_th (p := p) ly hy).2 nx
  simp only [List.map_cons, List.map_nil, List.cons_append, List.nil_append, List.replicate, evSs, evS, evE.eq_1, evE.eq_2, evE.eq_3, evE.eq_4, evE.eq_5, evE.eq_6, evE.eq_7, evE.eq_8, evE.eq_9, evE.eq_10, evE.eq_11, evE.eq_12, evE.eq_13, evE.eq_14, evE.eq_15, evE.eq_16, evE.eq_17, evE.eq_18, evE.eq_19, evE.eq_20, evE.eq_24, evE.eq_25, evE.eq_26, evE.eq_27, evEs, ok_bnd, List.getElem?_cons_zero, List.getElem?_cons_succ, ok_ret, peek_val, asP_val, ok_some, Option.map_some, idx_lst, idx_tup, at_0, at_1, at_2, cmp_gt, cmp_ge, cmp_lt, cmp_le, tru_bl, bin_add, bin_sub, blt_int, blt_intb, peeks_nil, peeks_cons, List.set_cons_zero, List.set_cons_succ, lv_val, set_slot, vals_nil, vals_cons, ok_ok, cell_lst, cell_dct, Ex.fresh, if_true, List.length_cons, List.length_nil, Nat.reduceAdd, Nat.reduceLT, Nat.reduceSub, Nat.zero_add]
  refine draw_nx (k := k + 5) hd hu (by decide) (by decide) hk.drw fun a u1 a0 a1 nx => ?_
  have hk := hk.draw hn nx
  simp only [List.map_cons, List.map_nil, List.cons_append, List.nil_append, List.replicate, evSs, evS, evE.eq_1, evE.eq_2, evE.eq_3, evE.eq_4, evE.eq_5, evE.eq_6, evE.eq_7, evE.eq_8, evE.eq_9, evE.eq_10, evE.eq_11, evE.eq_12, evE.eq_13, evE.eq_14, evE.eq_15, evE.eq_16, evE.eq_17, evE.eq_18, evE.eq_19, evE.eq_20, evE.eq_24, evE.eq_25, evE.eq_26, evE.eq_27, evEs, ok_bnd, List.getElem?_cons_zero, List.getElem?_cons_succ, ok_ret, peek_val, asP_val, ok_some, Option.map_some, idx_lst, idx_tup, at_0, at_1, at_2, cmp_gt, cmp_ge, cmp_lt, cmp_le, tru_bl, bin_add, bin_sub, blt_int, blt_intb, peeks_nil, peeks_cons, List.set_cons_zero, List.set_cons_succ, lv_val, set_slot, vals_nil, vals_cons, ok_ok, cell_lst, cell_dct, Ex.fresh, if_true, List.length_cons, List.length_nil, Nat.reduceAdd, Nat.reduceLT, Nat.reduceSub, Nat.zero_add, cmp_eqi]
  have c5 : a = 0 ∨ a = 1 ∨ a = 2 ∨ (3 ≤ a ∧ a < 6) ∨ a = 6 := by omega
  rcases c5 with rfl | rfl | rfl | c5 | rfl
  · simp only [List.map_cons, List.map_nil, List.cons_append, List.nil_append, List.replicate, evSs, evS, evE.eq_1, evE.eq_2, evE.eq_3, evE.eq_4, evE.eq_5, evE.eq_6, evE.eq_7, evE.eq_8, evE.eq_9, evE.eq_10, evE.eq_11, evE.eq_12, evE.eq_13, evE.eq_14, evE.eq_15, evE.eq_16, evE.eq_17, evE.eq_18, evE.eq_19, evE.eq_20, evE.eq_24, evE.eq_25, evE.eq_26, evE.eq_27, evEs, ok_bnd, List.getElem?_cons_zero, List.getElem?_cons_succ, ok_ret, peek_val, asP_val, ok_some, Option.map_some, idx_lst, idx_tup, at_0, at_1, at_2, cmp_gt, cmp_ge, cmp_lt, cmp_le, tru_bl, bin_add, bin_sub, blt_int, blt_intb, peeks_nil, peeks_cons, List.set_cons_zero, List.set_cons_succ, lv_val, set_slot, vals_nil, vals_cons, ok_ok, cell_lst, cell_dct, Ex.fresh, if_true, List.length_cons, List.length_nil, Nat.reduceAdd, Nat.reduceLT, Nat.reduceSub, Nat.zero_add, show ((0 : Int) == 0) = true from rfl, peek_lst hk.top, of_pop, pop_cell hk.top hj]
    exact fin _ _ _ (hk.set _ hn) (by rw [List.length_eraseIdx]; split <;> omega) fun y hy => hx' y (List.mem_of_mem_eraseIdx hy)
  · simp only [List.map_cons, List.map_nil, List.cons_append, List.nil_append, List.replicate, evSs, evS, evE.eq_1, evE.eq_2, evE.eq_3, evE.eq_4, evE.eq_5, evE.eq_6, evE.eq_7, evE.eq_8, evE.eq_9, evE.eq_10, evE.eq_11, evE.eq_12, evE.eq_13, evE.eq_14, evE.eq_15, evE.eq_16, evE.eq_17, evE.eq_18, evE.eq_19, evE.eq_20, evE.eq_24, evE.eq_25, evE.eq_26, evE.eq_27, evEs, ok_bnd, List.getElem?_cons_zero, List.getElem?_cons_succ, ok_ret, peek_val, asP_val, ok_some, Option.map_some, idx_lst, idx_tup, at_0, at_1, at_2, cmp_gt, cmp_ge, cmp_lt, cmp_le, tru_bl, bin_add, bin_sub, blt_int, blt_intb, peeks_nil, peeks_cons, List.set_cons_zero, List.set_cons_succ, lv_val, set_slot, vals_nil, vals_cons, ok_ok, cell_lst, cell_dct, Ex.fresh, if_true, List.length_cons, List.length_nil, Nat.reduceAdd, Nat.reduceLT, Nat.reduceSub, Nat.zero_add, show ((1 : Int) == 0) = false from rfl, show ((1 : Int) == 1) = true from rfl, Bool.false_eq_true, if_false, cmp_eqi, peek_lst hk.top, of_ins, at_nat hj, ins_cell hk.top (Nat.le_of_lt hj) (show xs.length < 100000 by omega)]
    refine fin _ _ _ (hk.set _ hn) (by rw [List.length_append, List.length_take, List.length_cons, List.length_drop]; omega) fun y hy => ?_
    rw [List.mem_append, List.mem_cons] at hy
    rcases hy with z | z | z
    · exact hx' y (List.mem_of_mem_take z)
    · rw [z]
      exact hx' _ (List.getElem_mem hj)
    · exact hx' y (List.mem_of_mem_drop z)
  · simp only [List.map_cons, List.map_nil, List.cons_append, List.nil_append, List.replicate, evSs, evS, evE.eq_1, evE.eq_2, evE.eq_3, evE.eq_4, evE.eq_5, evE.eq_6, evE.eq_7, evE.eq_8, evE.eq_9, evE.eq_10, evE.eq_11, evE.eq_12, evE.eq_13, evE.eq_14, evE.eq_15, evE.eq_16, evE.eq_17, evE.eq_18, evE.eq_19, evE.eq_20, evE.eq_24, evE.eq_25, evE.eq_26, evE.eq_27, evEs, ok_bnd, List.getElem?_cons_zero, List.getElem?_cons_succ, ok_ret, peek_val, asP_val, ok_some, Option.map_some, idx_lst, idx_tup, at_0, at_1, at_2, cmp_gt, cmp_ge, cmp_lt, cmp_le, tru_bl, bin_add, bin_sub, blt_int, blt_intb, peeks_nil, peeks_cons, List.set_cons_zero, List.set_cons_succ, lv_val, set_slot, vals_nil, vals_cons, ok_ok, cell_lst, cell_dct, Ex.fresh, if_true, List.length_cons, List.length_nil, Nat.reduceAdd, Nat.reduceLT, Nat.reduceSub, Nat.zero_add, show ((2 : Int) == 0) = false from rfl, show ((2 : Int) == 1) = false from rfl, show ((2 : Int) == 2) = true from rfl, Bool.false_eq_true, if_false, cmp_eqi, peek_lst hk.top, evO, ixOf]
    have lc := cutL_le (ys := xs) (lo := some ((j : Nat) : Int)) (hi := some ((j : Nat) + 2))
    simp only [List.map_cons, List.map_nil, List.cons_append, List.nil_append, List.replicate, evSs, evS, evE.eq_1, evE.eq_2, evE.eq_3, evE.eq_4, evE.eq_5, evE.eq_6, evE.eq_7, evE.eq_8, evE.eq_9, evE.eq_10, evE.eq_11, evE.eq_12, evE.eq_13, evE.eq_14, evE.eq_15, evE.eq_16, evE.eq_17, evE.eq_18, evE.eq_19, evE.eq_20, evE.eq_24, evE.eq_25, evE.eq_26, evE.eq_27, evEs, ok_bnd, List.getElem?_cons_zero, List.getElem?_cons_succ, ok_ret, peek_val, asP_val, ok_some, Option.map_some, idx_lst, idx_tup, at_0, at_1, at_2, cmp_gt, cmp_ge, cmp_lt, cmp_le, tru_bl, bin_add, bin_sub, blt_int, blt_intb, peeks_nil, peeks_cons, List.set_cons_zero, List.set_cons_succ, lv_val, set_slot, vals_nil, vals_cons, ok_ok, cell_lst, cell_dct, Ex.fresh, if_true, List.length_cons, List.length_nil, Nat.reduceAdd, Nat.reduceLT, Nat.reduceSub, Nat.zero_add, slc_lst, rev_lst, asI_int, set_cell (f := fun c => setS c (.int (j : Nat)) (.int ((j : Nat) + 2)) (.lst (cutL xs (some ((j : Nat) : Int)) (some ((j : Nat) + 2))).reverse)) hk.top (sets_c (by omega) (by omega) (by omega) (by rw [List.length_reverse]; omega))]
    refine fin _ _ _ (hk.set _ hn) (by rw [List.length_append, List.length_append, List.length_take, List.length_drop, List.length_reverse]; omega) fun y hy => ?_
    rw [List.mem_append, List.mem_append, List.mem_reverse] at hy
    rcases hy with (z | z) | z
    · exact hx' y (List.mem_of_mem_take z)
    · exact hx' y (cutL_in z)
    · exact hx' y (List.mem_of_mem_drop z)
  · have n0 : (a == 0) = false := by rw [beq_eq_false_iff_ne]; omega
    have n1 : (a == 1) = false := by rw [beq_eq_false_iff_ne]; omega
    have n2 : (a == 2) = false := by rw [beq_eq_false_iff_ne]; omega
    simp only [List.map_cons, List.map_nil, List.cons_append, List.nil_append, List.replicate, evSs, evS, evE.eq_1, evE.eq_2, evE.eq_3, evE.eq_4, evE.eq_5, evE.eq_6, evE.eq_7, evE.eq_8, evE.eq_9, evE.eq_10, evE.eq_11, evE.eq_12, evE.eq_13, evE.eq_14, evE.eq_15, evE.eq_16, evE.eq_17, evE.eq_18, evE.eq_19, evE.eq_20, evE.eq_24, evE.eq_25, evE.eq_26, evE.eq_27, evEs, ok_bnd, List.getElem?_cons_zero, List.getElem?_cons_succ, ok_ret, peek_val, asP_val, ok_some, Option.map_some, idx_lst, idx_tup, at_0, at_1, at_2, cmp_gt, cmp_ge, cmp_lt, cmp_le, tru_bl, bin_add, bin_sub, blt_int, blt_intb, peeks_nil, peeks_cons, List.set_cons_zero, List.set_cons_succ, lv_val, set_slot, vals_nil, vals_cons, ok_ok, cell_lst, cell_dct, Ex.fresh, if_true, List.length_cons, List.length_nil, Nat.reduceAdd, Nat.reduceLT, Nat.reduceSub, Nat.zero_add, n0, n1, n2, Bool.false_eq_true, if_false, cmp_eqi, decide_eq_true c5.2, peek_lst hk.top, at_nat hj]
    refine other_ok hf hs hd ho hu hk.drw (hx _ (List.getElem_mem hj)) h0 h1 fun p2 u2 t2 nz => ?_
    have hk := hk.draw hn nz
    simp only [List.map_cons, List.map_nil, List.cons_append, List.nil_append, List.replicate, evSs, evS, evE.eq_1, evE.eq_2, evE.eq_3, evE.eq_4, evE.eq_5, evE.eq_6, evE.eq_7, evE.eq_8, evE.eq_9, evE.eq_10, evE.eq_11, evE.eq_12, evE.eq_13, evE.eq_14, evE.eq_15, evE.eq_16, evE.eq_17, evE.eq_18, evE.eq_19, evE.eq_20, evE.eq_24, evE.eq_25, evE.eq_26, evE.eq_27, evEs, ok_bnd, List.getElem?_cons_zero, List.getElem?_cons_succ, ok_ret, peek_val, asP_val, ok_some, Option.map_some, idx_lst, idx_tup, at_0, at_1, at_2, cmp_gt, cmp_ge, cmp_lt, cmp_le, tru_bl, bin_add, bin_sub, blt_int, blt_intb, peeks_nil, peeks_cons, List.set_cons_zero, List.set_cons_succ, lv_val, set_slot, vals_nil, vals_cons, ok_ok, cell_lst, cell_dct, Ex.fresh, if_true, List.length_cons, List.length_nil, Nat.reduceAdd, Nat.reduceLT, Nat.reduceSub, Nat.zero_add, set_cell (f := fun c => setC c (.int (j : Nat)) p2) hk.top (seti_c hj)]
    refine fin _ _ _ (hk.set _ hn) (by rw [List.length_set]; omega) fun y hy => ?_
    rcases List.mem_or_eq_of_mem_set hy with z | z
    · exact hx' y z
    · rw [z]
      exact t2.mono (by omega) (by omega)
  · simp only [List.map_cons, List.map_nil, List.cons_append, List.nil_append, List.replicate, evSs, evS, evE.eq_1, evE.eq_2, evE.eq_3, evE.eq_4, evE.eq_5, evE.eq_6, evE.eq_7, evE.eq_8, evE.eq_9, evE.eq_10, evE.eq_11, evE.eq_12, evE.eq_13, evE.eq_14, evE.eq_15, evE.eq_16, evE.eq_17, evE.eq_18, evE.eq_19, evE.eq_20, evE.eq_24, evE.eq_25, evE.eq_26, evE.eq_27, evEs, ok_bnd, List.getElem?_cons_zero, List.getElem?_cons_succ, ok_ret, peek_val, asP_val, ok_some, Option.map_some, idx_lst, idx_tup, at_0, at_1, at_2, cmp_gt, cmp_ge, cmp_lt, cmp_le, tru_bl, bin_add, bin_sub, blt_int, blt_intb, peeks_nil, peeks_cons, List.set_cons_zero, List.set_cons_succ, lv_val, set_slot, vals_nil, vals_cons, ok_ok, cell_lst, cell_dct, Ex.fresh, if_true, List.length_cons, List.length_nil, Nat.reduceAdd, Nat.reduceLT, Nat.reduceSub, Nat.zero_add, show ((6 : Int) == 0) = false from rfl, show ((6 : Int) == 1) = false from rfl, show ((6 : Int) == 2) = false from rfl, show decide ((6 : Int) < 6) = false from rfl, Bool.false_eq_true, if_false, cmp_eqi]
    refine (gflip_ok (W := W) hk hn hc hm rfl rfl fun nx => q _ _ (unlike_th (by omega) hx').1 (unlike_th (p := p) (by omega) hx').2 nx).imp fun r t z => ?_
    obtain ⟨fl, env⟩ := r
    cases fl with
    | rt v => exact z
    | _ => exact z.elim
end
end Fy

/-! Pl13: a row with one thing otherwise; spoilt rows. -/
namespace Fy
open PySem (Str)
section
variable {T : Tab} {f h s d o n : Nat}
theorem Th.row {c e : Nat} {p : P} (hp : Th c e p) (hr : isRow p = true) : ∃ e' xs, e = e' + 1 ∧ rowOf p = xs ∧ xs.length ≤ c ∧ ∀ x ∈ xs, Th c e' x := by
  cases hp with
  | tup e' xs h g => exact ⟨e', xs, rfl, rfl, h, g⟩
  | lst e' xs h g => exact ⟨e', xs, rfl, rfl, h, g⟩
  | _ => exact absurd hr Bool.false_ne_true
theorem blt_lstr {p : P} (h : isRow p = true) : bltP .lst [p] = some (.lst (rowOf p)) := by
  cases p with
  | tup xs => rfl
  | lst xs => rfl
  | _ => exact absurd h Bool.false_ne_true
theorem Th.row_ty {c e : Nat} {p : P} (hp : Th c e p) : (isTy .tup p || isTy .lst p) = isRow p := by
  cases hp <;> rfl
theorem Cl.take {st : Sto} : st.take st.length = st := List.take_length
theorem else_ok (hs0 : T.fns[f]? = some ⟨3, 6, gElse f d h s⟩) (hf : T.fns[h]? = some ⟨2, 4, gOther d o s⟩) (hs : T.fns[s]? = some ⟨2, 6, gThing s d o⟩) (hd : T.fns[d]? = some ⟨2, 5, gDraw⟩) (ho : T.fns[o]? = some ⟨2, 2, gOf d⟩) (hu : T.fuel = 1000) {c : Nat} (h0 : 16 ≤ c) (h1 : c ≤ 10000) :
    ∀ (m k e : Nat) (st : Sto) (p : P) (W : Sl → Sto → Prop), Drw st n → Cl st → Th c e p → e ≤ 50 → isRow p = true →
    (∀ (p' : P) (t : Sto), Th (3 * c + 60) (e + 3) p' → isRow p' = true → Nx st t n → W (.val p') t) → Ok (run T (k + m + 8) f [.ref n, .val p, .val (.int (m : Nat))] st) W
  | m, k, e, st, p, W, hn, hc, hp, he, hr, q => by
    obtain ⟨e', xs, rfl, ep, lx, hx⟩ := hp.row hr
    refine ok_run hs0 rfl (by decide) ?_
    unfold gElse
    have hk := Nk.start (xs := xs) hn
    have ln := hn.lt
    simp only [List.map_cons, List.map_nil, List.cons_append, List.nil_append, List.replicate, evSs, evS, evE.eq_1, evE.eq_2, evE.eq_3, evE.eq_4, evE.eq_5, evE.eq_6, evE.eq_7, evE.eq_8, evE.eq_9, evE.eq_10, evE.eq_11, evE.eq_12, evE.eq_13, evE.eq_14, evE.eq_15, evE.eq_16, evE.eq_17, evE.eq_18, evE.eq_19, evE.eq_20, evE.eq_24, evE.eq_25, evE.eq_26, evE.eq_27, evEs, ok_bnd, List.getElem?_cons_zero, List.getElem?_cons_succ, ok_ret, peek_val, asP_val, ok_some, Option.map_some, idx_lst, idx_tup, at_0, at_1, at_2, cmp_gt, cmp_ge, cmp_lt, cmp_le, tru_bl, bin_add, bin_sub, blt_int, blt_intb, peeks_nil, peeks_cons, List.set_cons_zero, List.set_cons_succ, lv_val, set_slot, vals_nil, vals_cons, ok_ok, cell_lst, cell_dct, Ex.fresh, if_true, List.length_cons, List.length_nil, Nat.reduceAdd, Nat.reduceLT, Nat.reduceSub, Nat.zero_add, blt_lstr hr, ep, peek_lst hk.top]
    rw [eq_nil fun x hm => (hx x hm).flat]
    simp only [List.map_cons, List.map_nil, List.cons_append, List.nil_append, List.replicate, evSs, evS, evE.eq_1, evE.eq_2, evE.eq_3, evE.eq_4, evE.eq_5, evE.eq_6, evE.eq_7, evE.eq_8, evE.eq_9, evE.eq_10, evE.eq_11, evE.eq_12, evE.eq_13, evE.eq_14, evE.eq_15, evE.eq_16, evE.eq_17, evE.eq_18, evE.eq_19, evE.eq_20, evE.eq_24, evE.eq_25, evE.eq_26, evE.eq_27, evEs, ok_bnd, List.getElem?_cons_zero, List.getElem?_cons_succ, ok_ret, peek_val, asP_val, ok_some, Option.map_some, idx_lst, idx_tup, at_0, at_1, at_2, cmp_gt, cmp_ge, cmp_lt, cmp_le, tru_bl, bin_add, bin_sub, blt_int, blt_intb, peeks_nil, peeks_cons, List.set_cons_zero, List.set_cons_succ, lv_val, set_slot, vals_nil, vals_cons, ok_ok, cell_lst, cell_dct, Ex.fresh, if_true, List.length_cons, List.length_nil, Nat.reduceAdd, Nat.reduceLT, Nat.reduceSub, Nat.zero_add]
    cases hem : xs.isEmpty with
    | true =>
      simp only [List.map_cons, List.map_nil, List.cons_append, List.nil_append, List.replicate, evSs, evS, evE.eq_1, evE.eq_2, evE.eq_3, evE.eq_4, evE.eq_5, evE.eq_6, evE.eq_7, evE.eq_8, evE.eq_9, evE.eq_10, evE.eq_11, evE.eq_12, evE.eq_13, evE.eq_14, evE.eq_15, evE.eq_16, evE.eq_17, evE.eq_18, evE.eq_19, evE.eq_20, evE.eq_24, evE.eq_25, evE.eq_26, evE.eq_27, evEs, ok_bnd, List.getElem?_cons_zero, List.getElem?_cons_succ, ok_ret, peek_val, asP_val, ok_some, Option.map_some, idx_lst, idx_tup, at_0, at_1, at_2, cmp_gt, cmp_ge, cmp_lt, cmp_le, tru_bl, bin_add, bin_sub, blt_int, blt_intb, peeks_nil, peeks_cons, List.set_cons_zero, List.set_cons_succ, lv_val, set_slot, vals_nil, vals_cons, ok_ok, cell_lst, cell_dct, Ex.fresh, if_true, List.length_cons, List.length_nil, Nat.reduceAdd, Nat.reduceLT, Nat.reduceSub, Nat.zero_add]
      refine thing_ok hs hd ho hu 1 (k + m + 3) _ _ hk.drw fun p2 t t2 nx => ?_
      have nz := (hk.draw ln nx).nx ln
      simp only [List.map_cons, List.map_nil, List.cons_append, List.nil_append, List.replicate, evSs, evS, evE.eq_1, evE.eq_2, evE.eq_3, evE.eq_4, evE.eq_5, evE.eq_6, evE.eq_7, evE.eq_8, evE.eq_9, evE.eq_10, evE.eq_11, evE.eq_12, evE.eq_13, evE.eq_14, evE.eq_15, evE.eq_16, evE.eq_17, evE.eq_18, evE.eq_19, evE.eq_20, evE.eq_24, evE.eq_25, evE.eq_26, evE.eq_27, evEs, ok_bnd, List.getElem?_cons_zero, List.getElem?_cons_succ, ok_ret, peek_val, asP_val, ok_some, Option.map_some, idx_lst, idx_tup, at_0, at_1, at_2, cmp_gt, cmp_ge, cmp_lt, cmp_le, tru_bl, bin_add, bin_sub, blt_int, blt_intb, peeks_nil, peeks_cons, List.set_cons_zero, List.set_cons_succ, lv_val, set_slot, vals_nil, vals_cons, ok_ok, cell_lst, cell_dct, Ex.fresh, if_true, List.length_cons, List.length_nil, Nat.reduceAdd, Nat.reduceLT, Nat.reduceSub, Nat.zero_add]
      refine q _ _ (.tup _ _ (by simp only [List.length_cons, List.length_nil]; omega) fun y hy => ?_) rfl nz
      rw [List.mem_singleton] at hy
      rw [hy]
      exact t2.mono (by omega) (by omega)
    | false =>
      have l0 : 0 < xs.length := by
        cases xs with
        | nil => exact absurd hem (by decide)
        | cons x xs => exact Nat.succ_pos _
      simp only [List.map_cons, List.map_nil, List.cons_append, List.nil_append, List.replicate, evSs, evS, evE.eq_1, evE.eq_2, evE.eq_3, evE.eq_4, evE.eq_5, evE.eq_6, evE.eq_7, evE.eq_8, evE.eq_9, evE.eq_10, evE.eq_11, evE.eq_12, evE.eq_13, evE.eq_14, evE.eq_15, evE.eq_16, evE.eq_17, evE.eq_18, evE.eq_19, evE.eq_20, evE.eq_24, evE.eq_25, evE.eq_26, evE.eq_27, evEs, ok_bnd, List.getElem?_cons_zero, List.getElem?_cons_succ, ok_ret, peek_val, asP_val, ok_some, Option.map_some, idx_lst, idx_tup, at_0, at_1, at_2, cmp_gt, cmp_ge, cmp_lt, cmp_le, tru_bl, bin_add, bin_sub, blt_int, blt_intb, peeks_nil, peeks_cons, List.set_cons_zero, List.set_cons_succ, lv_val, set_slot, vals_nil, vals_cons, ok_ok, cell_lst, cell_dct, Ex.fresh, if_true, List.length_cons, List.length_nil, Nat.reduceAdd, Nat.reduceLT, Nat.reduceSub, Nat.zero_add, Bool.false_eq_true, if_false, peek_lst hk.top, len_lst]
      refine draw_nx (k := k + m + 6) hd hu (by omega) (by omega) hk.drw fun a u a0 a1 nx => ?_
      have hk := hk.draw ln nx
      obtain ⟨j, rfl⟩ : ∃ j : Nat, a = (j : Nat) := ⟨a.toNat, by omega⟩
      have hj : j < xs.length := by omega
      have q' : ∀ (p' : P) (t : Sto), Th (3 * c + 60) (e' + 4) p' → isRow p' = true → Nx st t n → W (.val p') t := q
      have hxj := hx _ (List.getElem_mem hj)
      have rest : ∀ v : Sto, Nk st v n xs → Ok (evSs ⟨run T (k + m + 7), T.glo, T.fuel, st.length⟩ (gRest d h) [some (.ref n), some (.val p), some (.val (.int (m : Nat))), some (.ref st.length), some (.val (.int (j : Nat))), none] v) (Lv st.length W) := fun v hv =>
        grest_ok (k := k + m + 1) hf hs hd ho hu hv ln hc rfl h0 h1 lx hx hj q'
      simp only [List.map_cons, List.map_nil, List.cons_append, List.nil_append, List.replicate, evSs, evS, evE.eq_1, evE.eq_2, evE.eq_3, evE.eq_4, evE.eq_5, evE.eq_6, evE.eq_7, evE.eq_8, evE.eq_9, evE.eq_10, evE.eq_11, evE.eq_12, evE.eq_13, evE.eq_14, evE.eq_15, evE.eq_16, evE.eq_17, evE.eq_18, evE.eq_19, evE.eq_20, evE.eq_24, evE.eq_25, evE.eq_26, evE.eq_27, evEs, ok_bnd, List.getElem?_cons_zero, List.getElem?_cons_succ, ok_ret, peek_val, asP_val, ok_some, Option.map_some, idx_lst, idx_tup, at_0, at_1, at_2, cmp_gt, cmp_ge, cmp_lt, cmp_le, tru_bl, bin_add, bin_sub, blt_int, blt_intb, peeks_nil, peeks_cons, List.set_cons_zero, List.set_cons_succ, lv_val, set_slot, vals_nil, vals_cons, ok_ok, cell_lst, cell_dct, Ex.fresh, if_true, List.length_cons, List.length_nil, Nat.reduceAdd, Nat.reduceLT, Nat.reduceSub, Nat.zero_add, peek_lst hk.top, at_nat hj, List.any_cons, List.any_nil, Bool.or_false, hxj.row_ty, and_cons, and_nil]
      cases hrj : isRow xs[j] with
      | false =>
        simp only [List.map_cons, List.map_nil, List.cons_append, List.nil_append, List.replicate, evSs, evS, evE.eq_1, evE.eq_2, evE.eq_3, evE.eq_4, evE.eq_5, evE.eq_6, evE.eq_7, evE.eq_8, evE.eq_9, evE.eq_10, evE.eq_11, evE.eq_12, evE.eq_13, evE.eq_14, evE.eq_15, evE.eq_16, evE.eq_17, evE.eq_18, evE.eq_19, evE.eq_20, evE.eq_24, evE.eq_25, evE.eq_26, evE.eq_27, evEs, ok_bnd, List.getElem?_cons_zero, List.getElem?_cons_succ, ok_ret, peek_val, asP_val, ok_some, Option.map_some, idx_lst, idx_tup, at_0, at_1, at_2, cmp_gt, cmp_ge, cmp_lt, cmp_le, tru_bl, bin_add, bin_sub, blt_int, blt_intb, peeks_nil, peeks_cons, List.set_cons_zero, List.set_cons_succ, lv_val, set_slot, vals_nil, vals_cons, ok_ok, cell_lst, cell_dct, Ex.fresh, if_true, List.length_cons, List.length_nil, Nat.reduceAdd, Nat.reduceLT, Nat.reduceSub, Nat.zero_add, Bool.false_eq_true, if_false]
        exact rest _ hk
      | true =>
        simp only [List.map_cons, List.map_nil, List.cons_append, List.nil_append, List.replicate, evSs, evS, evE.eq_1, evE.eq_2, evE.eq_3, evE.eq_4, evE.eq_5, evE.eq_6, evE.eq_7, evE.eq_8, evE.eq_9, evE.eq_10, evE.eq_11, evE.eq_12, evE.eq_13, evE.eq_14, evE.eq_15, evE.eq_16, evE.eq_17, evE.eq_18, evE.eq_19, evE.eq_20, evE.eq_24, evE.eq_25, evE.eq_26, evE.eq_27, evEs, ok_bnd, List.getElem?_cons_zero, List.getElem?_cons_succ, ok_ret, peek_val, asP_val, ok_some, Option.map_some, idx_lst, idx_tup, at_0, at_1, at_2, cmp_gt, cmp_ge, cmp_lt, cmp_le, tru_bl, bin_add, bin_sub, blt_int, blt_intb, peeks_nil, peeks_cons, List.set_cons_zero, List.set_cons_succ, lv_val, set_slot, vals_nil, vals_cons, ok_ok, cell_lst, cell_dct, Ex.fresh, if_true, List.length_cons, List.length_nil, Nat.reduceAdd, Nat.reduceLT, Nat.reduceSub, Nat.zero_add, and_cons, and_nil]
        match m with
        | 0 =>
          simp only [List.map_cons, List.map_nil, List.cons_append, List.nil_append, List.replicate, evSs, evS, evE.eq_1, evE.eq_2, evE.eq_3, evE.eq_4, evE.eq_5, evE.eq_6, evE.eq_7, evE.eq_8, evE.eq_9, evE.eq_10, evE.eq_11, evE.eq_12, evE.eq_13, evE.eq_14, evE.eq_15, evE.eq_16, evE.eq_17, evE.eq_18, evE.eq_19, evE.eq_20, evE.eq_24, evE.eq_25, evE.eq_26, evE.eq_27, evEs, ok_bnd, List.getElem?_cons_zero, List.getElem?_cons_succ, ok_ret, peek_val, asP_val, ok_some, Option.map_some, idx_lst, idx_tup, at_0, at_1, at_2, cmp_gt, cmp_ge, cmp_lt, cmp_le, tru_bl, bin_add, bin_sub, blt_int, blt_intb, peeks_nil, peeks_cons, List.set_cons_zero, List.set_cons_succ, lv_val, set_slot, vals_nil, vals_cons, ok_ok, cell_lst, cell_dct, Ex.fresh, if_true, List.length_cons, List.length_nil, Nat.reduceAdd, Nat.reduceLT, Nat.reduceSub, Nat.zero_add, show decide ((0 : Int) < ((0 : Nat) : Int)) = false from rfl, Bool.false_eq_true, if_false]
          exact rest _ hk
        | m + 1 =>
          have c0 : (0 : Int) < ((m + 1 : Nat) : Int) := by omega
          simp only [List.map_cons, List.map_nil, List.cons_append, List.nil_append, List.replicate, evSs, evS, evE.eq_1, evE.eq_2, evE.eq_3, evE.eq_4, evE.eq_5, evE.eq_6, evE.eq_7, evE.eq_8, evE.eq_9, evE.eq_10, evE.eq_11, evE.eq_12, evE.eq_13, evE.eq_14, evE.eq_15, evE.eq_16, evE.eq_17, evE.eq_18, evE.eq_19, evE.eq_20, evE.eq_24, evE.eq_25, evE.eq_26, evE.eq_27, evEs, ok_bnd, List.getElem?_cons_zero, List.getElem?_cons_succ, ok_ret, peek_val, asP_val, ok_some, Option.map_some, idx_lst, idx_tup, at_0, at_1, at_2, cmp_gt, cmp_ge, cmp_lt, cmp_le, tru_bl, bin_add, bin_sub, blt_int, blt_intb, peeks_nil, peeks_cons, List.set_cons_zero, List.set_cons_succ, lv_val, set_slot, vals_nil, vals_cons, ok_ok, cell_lst, cell_dct, Ex.fresh, if_true, List.length_cons, List.length_nil, Nat.reduceAdd, Nat.reduceLT, Nat.reduceSub, Nat.zero_add, decide_eq_true c0]
          refine draw_nx (k := k + (m + 1) + 6) hd hu (by decide) (by decide) hk.drw fun b u2 b0 b1 nz => ?_
          have hk := hk.draw ln nz
          simp only [List.map_cons, List.map_nil, List.cons_append, List.nil_append, List.replicate, evSs, evS, evE.eq_1, evE.eq_2, evE.eq_3, evE.eq_4, evE.eq_5, evE.eq_6, evE.eq_7, evE.eq_8, evE.eq_9, evE.eq_10, evE.eq_11, evE.eq_12, evE.eq_13, evE.eq_14, evE.eq_15, evE.eq_16, evE.eq_17, evE.eq_18, evE.eq_19, evE.eq_20, evE.eq_24, evE.eq_25, evE.eq_26, evE.eq_27, evEs, ok_bnd, List.getElem?_cons_zero, List.getElem?_cons_succ, ok_ret, peek_val, asP_val, ok_some, Option.map_some, idx_lst, idx_tup, at_0, at_1, at_2, cmp_gt, cmp_ge, cmp_lt, cmp_le, tru_bl, bin_add, bin_sub, blt_int, blt_intb, peeks_nil, peeks_cons, List.set_cons_zero, List.set_cons_succ, lv_val, set_slot, vals_nil, vals_cons, ok_ok, cell_lst, cell_dct, Ex.fresh, if_true, List.length_cons, List.length_nil, Nat.reduceAdd, Nat.reduceLT, Nat.reduceSub, Nat.zero_add, and_nil]
          by_cases c1 : 0 < b
          · have e1 : ((m + 1 : Nat) : Int) - 1 = (m : Nat) := by omega
            simp only [List.map_cons, List.map_nil, List.cons_append, List.nil_append, List.replicate, evSs, evS, evE.eq_1, evE.eq_2, evE.eq_3, evE.eq_4, evE.eq_5, evE.eq_6, evE.eq_7, evE.eq_8, evE.eq_9, evE.eq_10, evE.eq_11, evE.eq_12, evE.eq_13, evE.eq_14, evE.eq_15, evE.eq_16, evE.eq_17, evE.eq_18, evE.eq_19, evE.eq_20, evE.eq_24, evE.eq_25, evE.eq_26, evE.eq_27, evEs, ok_bnd, List.getElem?_cons_zero, List.getElem?_cons_succ, ok_ret, peek_val, asP_val, ok_some, Option.map_some, idx_lst, idx_tup, at_0, at_1, at_2, cmp_gt, cmp_ge, cmp_lt, cmp_le, tru_bl, bin_add, bin_sub, blt_int, blt_intb, peeks_nil, peeks_cons, List.set_cons_zero, List.set_cons_succ, lv_val, set_slot, vals_nil, vals_cons, ok_ok, cell_lst, cell_dct, Ex.fresh, if_true, List.length_cons, List.length_nil, Nat.reduceAdd, Nat.reduceLT, Nat.reduceSub, Nat.zero_add, decide_eq_true c1, peek_lst hk.top, at_nat hj, e1]
            refine else_ok hs0 hf hs hd ho hu h0 h1 m k e' u2 xs[j] _ hk.drw (hc.nk hk) hxj (by omega) hrj fun p2 u3 t2 r2 ny => ?_
            have hk := hk.draw ln ny
            simp only [List.map_cons, List.map_nil, List.cons_append, List.nil_append, List.replicate, evSs, evS, evE.eq_1, evE.eq_2, evE.eq_3, evE.eq_4, evE.eq_5, evE.eq_6, evE.eq_7, evE.eq_8, evE.eq_9, evE.eq_10, evE.eq_11, evE.eq_12, evE.eq_13, evE.eq_14, evE.eq_15, evE.eq_16, evE.eq_17, evE.eq_18, evE.eq_19, evE.eq_20, evE.eq_24, evE.eq_25, evE.eq_26, evE.eq_27, evEs, ok_bnd, List.getElem?_cons_zero, List.getElem?_cons_succ, ok_ret, peek_val, asP_val, ok_some, Option.map_some, idx_lst, idx_tup, at_0, at_1, at_2, cmp_gt, cmp_ge, cmp_lt, cmp_le, tru_bl, bin_add, bin_sub, blt_int, blt_intb, peeks_nil, peeks_cons, List.set_cons_zero, List.set_cons_succ, lv_val, set_slot, vals_nil, vals_cons, ok_ok, cell_lst, cell_dct, Ex.fresh, if_true, List.length_cons, List.length_nil, Nat.reduceAdd, Nat.reduceLT, Nat.reduceSub, Nat.zero_add, set_cell (f := fun c => setC c (.int (j : Nat)) p2) hk.top (seti_c hj)]
            have hy : ∀ y ∈ xs.set j p2, Th (3 * c + 60) (e' + 3) y := fun y hy => by
              rcases List.mem_or_eq_of_mem_set hy with z | z
              · exact (hx y z).mono (by omega) (by omega)
              · rw [z]
                exact t2
            have z := gend_ok (T := T) (k := k + (m + 1) + 7) (z := some (.val (.int (j : Nat)))) (w := none) (m := .val (.int ((m + 1 : Nat) : Int))) (W := W) (hk.set (xs.set j p2) ln) ln hc rfl rfl rfl fun nx =>
              q' _ _ (like_th (p := p) (by rw [List.length_set]; omega) hy).1 (like_th (p := p) (c := 3 * c + 60) (by rw [List.length_set]; omega) hy).2 nx
            refine z.imp fun r t y => ?_
            obtain ⟨fl, env⟩ := r
            cases fl with
            | rt v => exact y
            | _ => exact y.elim
          · simp only [List.map_cons, List.map_nil, List.cons_append, List.nil_append, List.replicate, evSs, evS, evE.eq_1, evE.eq_2, evE.eq_3, evE.eq_4, evE.eq_5, evE.eq_6, evE.eq_7, evE.eq_8, evE.eq_9, evE.eq_10, evE.eq_11, evE.eq_12, evE.eq_13, evE.eq_14, evE.eq_15, evE.eq_16, evE.eq_17, evE.eq_18, evE.eq_19, evE.eq_20, evE.eq_24, evE.eq_25, evE.eq_26, evE.eq_27, evEs, ok_bnd, List.getElem?_cons_zero, List.getElem?_cons_succ, ok_ret, peek_val, asP_val, ok_some, Option.map_some, idx_lst, idx_tup, at_0, at_1, at_2, cmp_gt, cmp_ge, cmp_lt, cmp_le, tru_bl, bin_add, bin_sub, blt_int, blt_intb, peeks_nil, peeks_cons, List.set_cons_zero, List.set_cons_succ, lv_val, set_slot, vals_nil, vals_cons, ok_ok, cell_lst, cell_dct, Ex.fresh, if_true, List.length_cons, List.length_nil, Nat.reduceAdd, Nat.reduceLT, Nat.reduceSub, Nat.zero_add, decide_eq_false c1, Bool.false_eq_true, if_false]
            exact rest _ hk
end
end Fy

/-! Pl14: spoilt rows; drawn parts, forms, facts. -/
namespace Fy
open PySem (Str)
section
variable {T : Tab} {f g h s d o n : Nat}
/-- _law_spoilt: f _law_otherwise, d _law_draw -/
def gSpoilt (f d : Nat) : Sts := (.cons (.asg 3 (.cal f (.cons (.var 0) (.cons (.var 1) (.cons (.var 2) .nil))))) (.cons (.ite (.or (.cmp .mem (.var 3) (.tup (.cons (.tup .nil) (.cons (.lst .nil) .nil)))) (.cons (.cmp .eq (.cal d (.cons (.var 0) (.cons (.cst (.int 2)) .nil))) (.cst (.int 0))) .nil)) (.cons (.ret (.var 3)) .nil) .nil) (.cons (.ret (.cal f (.cons (.var 0) (.cons (.var 3) (.cons (.var 2) .nil))))) .nil)))
theorem mem_tup {p : P} {ys : List P} (h : p.flat = true) (g : P.flats ys = true) (l : p.depth ≤ 60) : cmpP .mem p (.tup ys) = some (ys.any fun y => y.eqv p) := by
  have e : cmpP .mem p (.tup ys) = if p.flat && P.flats ys && decide (p.depth ≤ depthMost) then some (ys.any fun y => y.eqv p) else none := by cases p <;> rfl
  rw [e, h, g, decide_eq_true (show p.depth ≤ depthMost from l)]
  rfl
theorem spoilt_ok (hg : T.fns[g]? = some ⟨3, 4, gSpoilt f d⟩) (hs0 : T.fns[f]? = some ⟨3, 6, gElse f d h s⟩) (hf : T.fns[h]? = some ⟨2, 4, gOther d o s⟩) (hs : T.fns[s]? = some ⟨2, 6, gThing s d o⟩) (hd : T.fns[d]? = some ⟨2, 5, gDraw⟩) (ho : T.fns[o]? = some ⟨2, 2, gOf d⟩) (hu : T.fuel = 1000) {m k c e : Nat} {st : Sto} {p : P} {W : Sl → Sto → Prop} (h0 : 16 ≤ c) (h1 : c ≤ 3000)
    (hn : Drw st n) (hc : Cl st) (hp : Th c e p) (he : e ≤ 40) (hr : isRow p = true) (q : ∀ (p' : P) (t : Sto), Th (9 * c + 240) (e + 6) p' → Nx st t n → W (.val p') t) : Ok (run T (k + m + 9) g [.ref n, .val p, .val (.int (m : Nat))] st) W := by
  refine ok_run hg rfl (by decide) ?_
  unfold gSpoilt
  simp only [List.map_cons, List.map_nil, List.cons_append, List.nil_append, List.replicate, evSs, evS, evE.eq_1, evE.eq_2, evE.eq_3, evE.eq_4, evE.eq_5, evE.eq_6, evE.eq_7, evE.eq_8, evE.eq_9, evE.eq_10, evE.eq_11, evE.eq_12, evE.eq_13, evE.eq_14, evE.eq_15, evE.eq_16, evE.eq_17, evE.eq_18, evE.eq_19, evE.eq_20, evE.eq_24, evE.eq_25, evE.eq_26, evE.eq_27, evEs, ok_bnd, List.getElem?_cons_zero, List.getElem?_cons_succ, ok_ret, peek_val, asP_val, ok_some, Option.map_some, idx_lst, idx_tup, at_0, at_1, at_2, cmp_gt, cmp_ge, cmp_lt, cmp_le, tru_bl, bin_add, bin_sub, blt_int, blt_intb, peeks_nil, peeks_cons, List.set_cons_zero, List.set_cons_succ, lv_val, set_slot, vals_nil, vals_cons, ok_ok, cell_lst, cell_dct, Ex.fresh, if_true, List.length_cons, List.length_nil, Nat.reduceAdd, Nat.reduceLT, Nat.reduceSub, Nat.zero_add]
  refine else_ok hs0 hf hs hd ho hu h0 (by omega) m k e st p _ hn hc hp (by omega) hr fun p2 t t2 r2 nx => ?_
  have fin : ∀ (v : P) (u : Sto) (env : Env), Th (9 * c + 240) (e + 6) v → Nx st u n → Lv st.length W (.rt (.val v), env) u := fun v u env h3 h4 => by
    rw [lv_val, h4.take]
    exact q v u h3 h4
  simp only [List.map_cons, List.map_nil, List.cons_append, List.nil_append, List.replicate, evSs, evS, evE.eq_1, evE.eq_2, evE.eq_3, evE.eq_4, evE.eq_5, evE.eq_6, evE.eq_7, evE.eq_8, evE.eq_9, evE.eq_10, evE.eq_11, evE.eq_12, evE.eq_13, evE.eq_14, evE.eq_15, evE.eq_16, evE.eq_17, evE.eq_18, evE.eq_19, evE.eq_20, evE.eq_24, evE.eq_25, evE.eq_26, evE.eq_27, evEs, ok_bnd, List.getElem?_cons_zero, List.getElem?_cons_succ, ok_ret, peek_val, asP_val, ok_some, Option.map_some, idx_lst, idx_tup, at_0, at_1, at_2, cmp_gt, cmp_ge, cmp_lt, cmp_le, tru_bl, bin_add, bin_sub, blt_int, blt_intb, peeks_nil, peeks_cons, List.set_cons_zero, List.set_cons_succ, lv_val, set_slot, vals_nil, vals_cons, ok_ok, cell_lst, cell_dct, Ex.fresh, if_true, List.length_cons, List.length_nil, Nat.reduceAdd, Nat.reduceLT, Nat.reduceSub, Nat.zero_add]
  rw [mem_tup t2.flat rfl (Nat.le_trans t2.depth (by omega))]
  simp only [List.map_cons, List.map_nil, List.cons_append, List.nil_append, List.replicate, evSs, evS, evE.eq_1, evE.eq_2, evE.eq_3, evE.eq_4, evE.eq_5, evE.eq_6, evE.eq_7, evE.eq_8, evE.eq_9, evE.eq_10, evE.eq_11, evE.eq_12, evE.eq_13, evE.eq_14, evE.eq_15, evE.eq_16, evE.eq_17, evE.eq_18, evE.eq_19, evE.eq_20, evE.eq_24, evE.eq_25, evE.eq_26, evE.eq_27, evEs, ok_bnd, List.getElem?_cons_zero, List.getElem?_cons_succ, ok_ret, peek_val, asP_val, ok_some, Option.map_some, idx_lst, idx_tup, at_0, at_1, at_2, cmp_gt, cmp_ge, cmp_lt, cmp_le, tru_bl, bin_add, bin_sub, blt_int, blt_intb, peeks_nil, peeks_cons, List.set_cons_zero, List.set_cons_succ, lv_val, set_slot, vals_nil, vals_cons, ok_ok, cell_lst, cell_dct, Ex.fresh, if_true, List.length_cons, List.length_nil, Nat.reduceAdd, Nat.reduceLT, Nat.reduceSub, Nat.zero_add, or_cons, or_nil]
  cases hb : [P.tup [], P.lst []].any fun y => y.eqv p2 with
  | true =>
    simp only [List.map_cons, List.map_nil, List.cons_append, List.nil_append, List.replicate, evSs, evS, evE.eq_1, evE.eq_2, evE.eq_3, evE.eq_4, evE.eq_5, evE.eq_6, evE.eq_7, evE.eq_8, evE.eq_9, evE.eq_10, evE.eq_11, evE.eq_12, evE.eq_13, evE.eq_14, evE.eq_15, evE.eq_16, evE.eq_17, evE.eq_18, evE.eq_19, evE.eq_20, evE.eq_24, evE.eq_25, evE.eq_26, evE.eq_27, evEs, ok_bnd, List.getElem?_cons_zero, List.getElem?_cons_succ, ok_ret, peek_val, asP_val, ok_some, Option.map_some, idx_lst, idx_tup, at_0, at_1, at_2, cmp_gt, cmp_ge, cmp_lt, cmp_le, tru_bl, bin_add, bin_sub, blt_int, blt_intb, peeks_nil, peeks_cons, List.set_cons_zero, List.set_cons_succ, lv_val, set_slot, vals_nil, vals_cons, ok_ok, cell_lst, cell_dct, Ex.fresh, if_true, List.length_cons, List.length_nil, Nat.reduceAdd, Nat.reduceLT, Nat.reduceSub, Nat.zero_add, nx.take]
    exact q _ _ (t2.mono (by omega) (by omega)) nx
  | false =>
    simp only [List.map_cons, List.map_nil, List.cons_append, List.nil_append, List.replicate, evSs, evS, evE.eq_1, evE.eq_2, evE.eq_3, evE.eq_4, evE.eq_5, evE.eq_6, evE.eq_7, evE.eq_8, evE.eq_9, evE.eq_10, evE.eq_11, evE.eq_12, evE.eq_13, evE.eq_14, evE.eq_15, evE.eq_16, evE.eq_17, evE.eq_18, evE.eq_19, evE.eq_20, evE.eq_24, evE.eq_25, evE.eq_26, evE.eq_27, evEs, ok_bnd, List.getElem?_cons_zero, List.getElem?_cons_succ, ok_ret, peek_val, asP_val, ok_some, Option.map_some, idx_lst, idx_tup, at_0, at_1, at_2, cmp_gt, cmp_ge, cmp_lt, cmp_le, tru_bl, bin_add, bin_sub, blt_int, blt_intb, peeks_nil, peeks_cons, List.set_cons_zero, List.set_cons_succ, lv_val, set_slot, vals_nil, vals_cons, ok_ok, cell_lst, cell_dct, Ex.fresh, if_true, List.length_cons, List.length_nil, Nat.reduceAdd, Nat.reduceLT, Nat.reduceSub, Nat.zero_add, Bool.false_eq_true, if_false]
    refine draw_nx (k := k + m + 7) hd hu (by decide) (by decide) nx.drw fun b u b0 b1 nz => ?_
    simp only [List.map_cons, List.map_nil, List.cons_append, List.nil_append, List.replicate, evSs, evS, evE.eq_1, evE.eq_2, evE.eq_3, evE.eq_4, evE.eq_5, evE.eq_6, evE.eq_7, evE.eq_8, evE.eq_9, evE.eq_10, evE.eq_11, evE.eq_12, evE.eq_13, evE.eq_14, evE.eq_15, evE.eq_16, evE.eq_17, evE.eq_18, evE.eq_19, evE.eq_20, evE.eq_24, evE.eq_25, evE.eq_26, evE.eq_27, evEs, ok_bnd, List.getElem?_cons_zero, List.getElem?_cons_succ, ok_ret, peek_val, asP_val, ok_some, Option.map_some, idx_lst, idx_tup, at_0, at_1, at_2, cmp_gt, cmp_ge, cmp_lt, cmp_le, tru_bl, bin_add, bin_sub, blt_int, blt_intb, peeks_nil, peeks_cons, List.set_cons_zero, List.set_cons_succ, lv_val, set_slot, vals_nil, vals_cons, ok_ok, cell_lst, cell_dct, Ex.fresh, if_true, List.length_cons, List.length_nil, Nat.reduceAdd, Nat.reduceLT, Nat.reduceSub, Nat.zero_add, cmp_eqi]
    cases hz : b == 0 with
    | true =>
      simp only [List.map_cons, List.map_nil, List.cons_append, List.nil_append, List.replicate, evSs, evS, evE.eq_1, evE.eq_2, evE.eq_3, evE.eq_4, evE.eq_5, evE.eq_6, evE.eq_7, evE.eq_8, evE.eq_9, evE.eq_10, evE.eq_11, evE.eq_12, evE.eq_13, evE.eq_14, evE.eq_15, evE.eq_16, evE.eq_17, evE.eq_18, evE.eq_19, evE.eq_20, evE.eq_24, evE.eq_25, evE.eq_26, evE.eq_27, evEs, ok_bnd, List.getElem?_cons_zero, List.getElem?_cons_succ, ok_ret, peek_val, asP_val, ok_some, Option.map_some, idx_lst, idx_tup, at_0, at_1, at_2, cmp_gt, cmp_ge, cmp_lt, cmp_le, tru_bl, bin_add, bin_sub, blt_int, blt_intb, peeks_nil, peeks_cons, List.set_cons_zero, List.set_cons_succ, lv_val, set_slot, vals_nil, vals_cons, ok_ok, cell_lst, cell_dct, Ex.fresh, if_true, List.length_cons, List.length_nil, Nat.reduceAdd, Nat.reduceLT, Nat.reduceSub, Nat.zero_add, (nx.trans nz).take]
      exact q _ _ (t2.mono (by omega) (by omega)) (nx.trans nz)
    | false =>
      simp only [List.map_cons, List.map_nil, List.cons_append, List.nil_append, List.replicate, evSs, evS, evE.eq_1, evE.eq_2, evE.eq_3, evE.eq_4, evE.eq_5, evE.eq_6, evE.eq_7, evE.eq_8, evE.eq_9, evE.eq_10, evE.eq_11, evE.eq_12, evE.eq_13, evE.eq_14, evE.eq_15, evE.eq_16, evE.eq_17, evE.eq_18, evE.eq_19, evE.eq_20, evE.eq_24, evE.eq_25, evE.eq_26, evE.eq_27, evEs, ok_bnd, List.getElem?_cons_zero, List.getElem?_cons_succ, ok_ret, peek_val, asP_val, ok_some, Option.map_some, idx_lst, idx_tup, at_0, at_1, at_2, cmp_gt, cmp_ge, cmp_lt, cmp_le, tru_bl, bin_add, bin_sub, blt_int, blt_intb, peeks_nil, peeks_cons, List.set_cons_zero, List.set_cons_succ, lv_val, set_slot, vals_nil, vals_cons, ok_ok, cell_lst, cell_dct, Ex.fresh, if_true, List.length_cons, List.length_nil, Nat.reduceAdd, Nat.reduceLT, Nat.reduceSub, Nat.zero_add, Bool.false_eq_true, if_false]
      refine else_ok hs0 hf hs hd ho hu (c := 3 * c + 60) (by omega) (by omega) m k (e + 3) u p2 _ nz.drw ((hc.nx nx).nx nz) t2 (by omega) r2 fun p3 v t3 r3 ny => ?_
      exact fin _ _ _ (t3.mono (by omega) (by omega)) ((nx.trans nz).trans ny)
/-- [e for x in ..] where each turn may draw: as many things as the walk meets -/
theorem gather_len {C : Ev} {e : Ex} {i : Nat} {own : List Nat} {it : It} {env : Env} {W : Sl → Sto → Prop} {st : Sto} (S : Sto → Prop) (V E : P → Prop) (L : Nat → Prop) (hi : i < (wipeE env own).length) (hn : (wipeE env own)[i]? = some none) (hm : ∀ m, L m → m ≤ 100000)
    (hx : Ok (evI C it env st) fun ys t => L ys.length ∧ (∀ x ∈ ys, V x) ∧ S t) (hs : ∀ x t, V x → S t → Ok (evE C e ((wipeE env own).set i (some (.val x))) t) fun v u => ∃ p, v = .val p ∧ E p ∧ S u)
    (hw : ∀ ps t, L ps.length → (∀ p ∈ ps, E p) → S t → W (.val (.lst ps)) t) : Ok (evE C (.lcm e own (.cons (.nm i) it .nil .nil)) env st) W := by
  rw [evE.eq_21, ok_bnd, gen_one hi hn]
  refine hx.imp fun ys t ⟨lm, hv, h0⟩ => ?_
  have lm' := hm _ lm
  refine fold_ok (fun j acc u => acc.length = j ∧ (∀ p ∈ acc, E p) ∧ S u) ⟨rfl, (fun p z => nomatch z), h0⟩ (fun j x acc u hj ⟨h1, h2, h3⟩ => ?_) fun acc u ⟨h1, h2, h3⟩ => ?_
  · have hmem : x ∈ ys := List.mem_of_getElem? hj
    have lt := lt_of_some hj
    rw [ok_bnd]
    show Ok (ret true u) _
    rw [ok_ret, if_pos rfl, ok_bnd]
    refine (hs x u (hv x hmem) h3).imp fun v w ⟨p, h4, h5, h6⟩ => ?_
    subst h4
    rw [ok_bnd, asP_val]
    rw [if_pos (show acc.length < lenMost by have : lenMost = 100000 := rfl; omega)]
    refine ⟨by rw [List.length_append, h1]; rfl, fun q hq => ?_, h6⟩
    rcases List.mem_append.mp hq with z | z
    · exact h2 q z
    · (rw [List.mem_singleton.mp z])
      exact h5
  · exact hw acc u (by rw [h1]; exact lm) h2 h3
/-- range(n), n a number -/
theorem rng_len {C : Ev} {a : Ex} {env : Env} {st : Sto} {W : List P → Sto → Prop} (h : Ok (evE C a env st) fun v t => ∃ i : Int, v = .val (.int i) ∧ i ≤ 100000 ∧ -1000000 ≤ i ∧ ∀ ys : List P, ys.length = i.toNat → (∀ y ∈ ys, ∃ j : Nat, y = .int j) → W ys t) : Ok (evI C (.rng1 a) env st) W := by
  rw [evI, ok_bnd]
  refine h.imp fun v t ⟨i, e, h1, h2, h3⟩ => ?_
  subst e
  show Ok ((if -1000000 ≤ i ∧ i ≤ 1000000 then ret ((List.range i.toNat).map fun (i : Nat) => P.int (i : Int)) else stuck) t) W
  rw [if_pos ⟨h2, by omega⟩]
  refine h3 _ ?_ fun y hy => ?_
  · (rw [List.length_map, List.length_range])
  · obtain ⟨j, _, rfl⟩ := List.mem_map.mp hy
    exact ⟨j, rfl⟩
/-! ### parts, forms, facts -/
/-- a tuple of at least a and at most b things of a kind -/
def TupOf (a b : Nat) (E : P → Prop) (p : P) : Prop := ∃ ps, p = .tup ps ∧ a ≤ ps.length ∧ ps.length ≤ b ∧ ∀ x ∈ ps, E x
theorem TupOf.imp {a b a' b' : Nat} {E E' : P → Prop} {p : P} (h : TupOf a b E p) (ha : a' ≤ a) (hb : b ≤ b') (i : ∀ x, E x → E' x) : TupOf a' b' E' p := by
  obtain ⟨ps, rfl, l1, l2, hx⟩ := h
  exact ⟨ps, rfl, Nat.le_trans ha l1, Nat.le_trans l2 hb, fun x m => i x (hx x m)⟩
theorem TupOf.th {a b c e : Nat} {E : P → Prop} {p : P} (h : TupOf a b E p) (hb : b ≤ c) (i : ∀ x, E x → Th c e x) : Th c (e + 1) p := by
  obtain ⟨ps, rfl, l1, l2, hx⟩ := h
  exact .tup _ _ (by omega) fun x m => i x (hx x m)
/-- _law_part: o _law_of, d _law_draw -/
def gPartD (o d : Nat) : Sts := (.cons (.ret (.blt .tup (.cons (.lcm (.cal o (.cons (.var 0) (.cons (.var 1) .nil))) [2] (.cons (.nm 2) (.rng1 (.bin .add (.cst (.int 1)) (.cal d (.cons (.var 0) (.cons (.cst (.int 3)) .nil))))) .nil .nil)) .nil))) .nil)
/-- _law_form: g _law_part -/
def gForm (g d : Nat) : Sts := (.cons (.ret (.blt .tup (.cons (.lcm (.cal g (.cons (.var 0) (.cons (.var 1) .nil))) [3] (.cons (.nm 3) (.rng1 (.cal d (.cons (.var 0) (.cons (.bin .add (.var 2) (.cst (.int 1))) .nil)))) .nil .nil)) .nil))) .nil)
/-- _law_facts: h _law_form -/
def gFacts (o h d : Nat) : Sts := (.cons (.asg 3 (.new (.lst .nil))) (.cons (.for_ (.nm 4) (.rng1 (.cal d (.cons (.var 0) (.cons (.bin .add (.var 2) (.cst (.int 1))) .nil)))) (.cons (.par 5 6 (.cal o (.cons (.var 0) (.cons (.var 1) .nil))) (.cal h (.cons (.var 0) (.cons (.var 1) (.cons (.cst (.int 3)) .nil))))) (.cons (.expr (.mth .append (.var 3) (.cons (.tup (.cons (.var 5) (.cons (.var 6) (.cons (.cmp .eq (.cal d (.cons (.var 0) (.cons (.cst (.int 2)) .nil))) (.cst (.int 0))) .nil)))) .nil))) .nil))) (.cons (.ret (.blt .tup (.cons (.var 3) .nil))) .nil)))
def PartOf (xs : List P) : P → Prop := TupOf 1 3 (· ∈ xs)
def FormOf (xs : List P) (m : Nat) : P → Prop := TupOf 0 m (PartOf xs)
def FactOf (xs : List P) (p : P) : Prop := ∃ nm fm b, p = .tup [nm, fm, .bl b] ∧ nm ∈ xs ∧ FormOf xs 3 fm
def FactsOf (xs : List P) (m : Nat) : P → Prop := TupOf 0 m (FactOf xs)
theorem part_of (hg : T.fns[g]? = some ⟨2, 3, gPartD o d⟩) (hd : T.fns[d]? = some ⟨2, 5, gDraw⟩) (ho : T.fns[o]? = some ⟨2, 2, gOf d⟩) (hu : T.fuel = 1000) {k : Nat} {st : Sto} {xs : List P} {W : Sl → Sto → Prop} (h0 : 0 < xs.length) (h1 : xs.length ≤ 1000000) (hn : Drw st n)
    (q : ∀ (p : P) (t : Sto), PartOf xs p → Nx st t n → W (.val p) t) : Ok (run T (k + 3) g [.ref n, .val (.lst xs)] st) W := by
  refine ok_run hg rfl (by decide) ?_
  unfold gPartD
  simp only [List.map_cons, List.map_nil, List.cons_append, List.nil_append, List.replicate, evSs, evS, evE.eq_1, evE.eq_2, evE.eq_3, evE.eq_4, evE.eq_5, evE.eq_6, evE.eq_7, evE.eq_8, evE.eq_9, evE.eq_10, evE.eq_11, evE.eq_12, evE.eq_13, evE.eq_14, evE.eq_15, evE.eq_16, evE.eq_17, evE.eq_18, evE.eq_19, evE.eq_20, evE.eq_24, evE.eq_25, evE.eq_26, evE.eq_27, evEs, ok_bnd, List.getElem?_cons_zero, List.getElem?_cons_succ, ok_ret, peek_val, asP_val, ok_some, Option.map_some, idx_lst, idx_tup, at_0, at_1, at_2, cmp_gt, cmp_ge, cmp_lt, cmp_le, tru_bl, bin_add, bin_sub, blt_int, blt_intb, peeks_nil, peeks_cons, List.set_cons_zero, List.set_cons_succ, lv_val, set_slot, vals_nil, vals_cons, ok_ok, cell_lst, cell_dct, Ex.fresh, if_true, List.length_cons, List.length_nil, Nat.reduceAdd, Nat.reduceLT, Nat.reduceSub, Nat.zero_add]
  refine gather_len (S := fun u => Nx st u n) (V := fun _ => True) (E := (· ∈ xs)) (L := fun m => 1 ≤ m ∧ m ≤ 3) (by simp [wipeE]) rfl (fun m h => by omega) ?_ (fun x u _ h => ?_) fun ps u hl hp h => ?_
  · refine rng_len ?_
    simp only [List.map_cons, List.map_nil, List.cons_append, List.nil_append, List.replicate, evSs, evS, evE.eq_1, evE.eq_2, evE.eq_3, evE.eq_4, evE.eq_5, evE.eq_6, evE.eq_7, evE.eq_8, evE.eq_9, evE.eq_10, evE.eq_11, evE.eq_12, evE.eq_13, evE.eq_14, evE.eq_15, evE.eq_16, evE.eq_17, evE.eq_18, evE.eq_19, evE.eq_20, evE.eq_24, evE.eq_25, evE.eq_26, evE.eq_27, evEs, ok_bnd, List.getElem?_cons_zero, List.getElem?_cons_succ, ok_ret, peek_val, asP_val, ok_some, Option.map_some, idx_lst, idx_tup, at_0, at_1, at_2, cmp_gt, cmp_ge, cmp_lt, cmp_le, tru_bl, bin_add, bin_sub, blt_int, blt_intb, peeks_nil, peeks_cons, List.set_cons_zero, List.set_cons_succ, lv_val, set_slot, vals_nil, vals_cons, ok_ok, cell_lst, cell_dct, Ex.fresh, if_true, List.length_cons, List.length_nil, Nat.reduceAdd, Nat.reduceLT, Nat.reduceSub, Nat.zero_add]
    refine draw_nx (k := k + 1) hd hu (by decide) (by decide) hn fun b t b0 b1 nz => ?_
    simp only [List.map_cons, List.map_nil, List.cons_append, List.nil_append, List.replicate, evSs, evS, evE.eq_1, evE.eq_2, evE.eq_3, evE.eq_4, evE.eq_5, evE.eq_6, evE.eq_7, evE.eq_8, evE.eq_9, evE.eq_10, evE.eq_11, evE.eq_12, evE.eq_13, evE.eq_14, evE.eq_15, evE.eq_16, evE.eq_17, evE.eq_18, evE.eq_19, evE.eq_20, evE.eq_24, evE.eq_25, evE.eq_26, evE.eq_27, evEs, ok_bnd, List.getElem?_cons_zero, List.getElem?_cons_succ, ok_ret, peek_val, asP_val, ok_some, Option.map_some, idx_lst, idx_tup, at_0, at_1, at_2, cmp_gt, cmp_ge, cmp_lt, cmp_le, tru_bl, bin_add, bin_sub, blt_int, blt_intb, peeks_nil, peeks_cons, List.set_cons_zero, List.set_cons_succ, lv_val, set_slot, vals_nil, vals_cons, ok_ok, cell_lst, cell_dct, Ex.fresh, if_true, List.length_cons, List.length_nil, Nat.reduceAdd, Nat.reduceLT, Nat.reduceSub, Nat.zero_add]
    exact ⟨1 + b, rfl, by omega, by omega, fun ys ly _ => ⟨by omega, fun _ _ => trivial, nz⟩⟩
  · simp only [List.map_cons, List.map_nil, List.cons_append, List.nil_append, List.replicate, evSs, evS, evE.eq_1, evE.eq_2, evE.eq_3, evE.eq_4, evE.eq_5, evE.eq_6, evE.eq_7, evE.eq_8, evE.eq_9, evE.eq_10, evE.eq_11, evE.eq_12, evE.eq_13, evE.eq_14, evE.eq_15, evE.eq_16, evE.eq_17, evE.eq_18, evE.eq_19, evE.eq_20, evE.eq_24, evE.eq_25, evE.eq_26, evE.eq_27, evEs, ok_bnd, List.getElem?_cons_zero, List.getElem?_cons_succ, ok_ret, peek_val, asP_val, ok_some, Option.map_some, idx_lst, idx_tup, at_0, at_1, at_2, cmp_gt, cmp_ge, cmp_lt, cmp_le, tru_bl, bin_add, bin_sub, blt_int, blt_intb, peeks_nil, peeks_cons, List.set_cons_zero, List.set_cons_succ, lv_val, set_slot, vals_nil, vals_cons, ok_ok, cell_lst, cell_dct, Ex.fresh, if_true, List.length_cons, List.length_nil, Nat.reduceAdd, Nat.reduceLT, Nat.reduceSub, Nat.zero_add, wipeE]
    exact of_ok ho hd hu h0 h1 h.drw fun p w h3 h4 => ⟨p, rfl, h3, h.trans h4⟩
  · simp only [List.map_cons, List.map_nil, List.cons_append, List.nil_append, List.replicate, evSs, evS, evE.eq_1, evE.eq_2, evE.eq_3, evE.eq_4, evE.eq_5, evE.eq_6, evE.eq_7, evE.eq_8, evE.eq_9, evE.eq_10, evE.eq_11, evE.eq_12, evE.eq_13, evE.eq_14, evE.eq_15, evE.eq_16, evE.eq_17, evE.eq_18, evE.eq_19, evE.eq_20, evE.eq_24, evE.eq_25, evE.eq_26, evE.eq_27, evEs, ok_bnd, List.getElem?_cons_zero, List.getElem?_cons_succ, ok_ret, peek_val, asP_val, ok_some, Option.map_some, idx_lst, idx_tup, at_0, at_1, at_2, cmp_gt, cmp_ge, cmp_lt, cmp_le, tru_bl, bin_add, bin_sub, blt_int, blt_intb, peeks_nil, peeks_cons, List.set_cons_zero, List.set_cons_succ, lv_val, set_slot, vals_nil, vals_cons, ok_ok, cell_lst, cell_dct, Ex.fresh, if_true, List.length_cons, List.length_nil, Nat.reduceAdd, Nat.reduceLT, Nat.reduceSub, Nat.zero_add, blt_tupl, h.take]
    exact q _ _ ⟨ps, rfl, hl.1, hl.2, hp⟩ h
theorem form_of (hh : T.fns[h]? = some ⟨3, 4, gForm g d⟩) (hg : T.fns[g]? = some ⟨2, 3, gPartD o d⟩) (hd : T.fns[d]? = some ⟨2, 5, gDraw⟩) (ho : T.fns[o]? = some ⟨2, 2, gOf d⟩) (hu : T.fuel = 1000) {k m : Nat} {st : Sto} {xs : List P} {W : Sl → Sto → Prop} (h0 : 0 < xs.length) (h1 : xs.length ≤ 1000000) (hm : m ≤ 1000) (hn : Drw st n)
    (q : ∀ (p : P) (t : Sto), FormOf xs m p → Nx st t n → W (.val p) t) : Ok (run T (k + 4) h [.ref n, .val (.lst xs), .val (.int (m : Nat))] st) W := by
  refine ok_run hh rfl (by decide) ?_
  unfold gForm
  simp only [List.map_cons, List.map_nil, List.cons_append, List.nil_append, List.replicate, evSs, evS, evE.eq_1, evE.eq_2, evE.eq_3, evE.eq_4, evE.eq_5, evE.eq_6, evE.eq_7, evE.eq_8, evE.eq_9, evE.eq_10, evE.eq_11, evE.eq_12, evE.eq_13, evE.eq_14, evE.eq_15, evE.eq_16, evE.eq_17, evE.eq_18, evE.eq_19, evE.eq_20, evE.eq_24, evE.eq_25, evE.eq_26, evE.eq_27, evEs, ok_bnd, List.getElem?_cons_zero, List.getElem?_cons_succ, ok_ret, peek_val, asP_val, ok_some, Option.map_some, idx_lst, idx_tup, at_0, at_1, at_2, cmp_gt, cmp_ge, cmp_lt, cmp_le, tru_bl, bin_add, bin_sub, blt_int, blt_intb, peeks_nil, peeks_cons, List.set_cons_zero, List.set_cons_succ, lv_val, set_slot, vals_nil, vals_cons, ok_ok, cell_lst, cell_dct, Ex.fresh, if_true, List.length_cons, List.length_nil, Nat.reduceAdd, Nat.reduceLT, Nat.reduceSub, Nat.zero_add]
  refine gather_len (S := fun u => Nx st u n) (V := fun _ => True) (E := PartOf xs) (L := fun l => l ≤ m) (by simp [wipeE]) rfl (fun l h => by omega) ?_ (fun x u _ h => ?_) fun ps u hl hp h => ?_
  · refine rng_len ?_
    simp only [List.map_cons, List.map_nil, List.cons_append, List.nil_append, List.replicate, evSs, evS, evE.eq_1, evE.eq_2, evE.eq_3, evE.eq_4, evE.eq_5, evE.eq_6, evE.eq_7, evE.eq_8, evE.eq_9, evE.eq_10, evE.eq_11, evE.eq_12, evE.eq_13, evE.eq_14, evE.eq_15, evE.eq_16, evE.eq_17, evE.eq_18, evE.eq_19, evE.eq_20, evE.eq_24, evE.eq_25, evE.eq_26, evE.eq_27, evEs, ok_bnd, List.getElem?_cons_zero, List.getElem?_cons_succ, ok_ret, peek_val, asP_val, ok_some, Option.map_some, idx_lst, idx_tup, at_0, at_1, at_2, cmp_gt, cmp_ge, cmp_lt, cmp_le, tru_bl, bin_add, bin_sub, blt_int, blt_intb, peeks_nil, peeks_cons, List.set_cons_zero, List.set_cons_succ, lv_val, set_slot, vals_nil, vals_cons, ok_ok, cell_lst, cell_dct, Ex.fresh, if_true, List.length_cons, List.length_nil, Nat.reduceAdd, Nat.reduceLT, Nat.reduceSub, Nat.zero_add]
    refine draw_nx (k := k + 2) hd hu (by omega) (by omega) hn fun b t b0 b1 nz => ?_
    exact ⟨b, rfl, by omega, by omega, fun ys ly _ => ⟨by omega, fun _ _ => trivial, nz⟩⟩
  · simp only [List.map_cons, List.map_nil, List.cons_append, List.nil_append, List.replicate, evSs, evS, evE.eq_1, evE.eq_2, evE.eq_3, evE.eq_4, evE.eq_5, evE.eq_6, evE.eq_7, evE.eq_8, evE.eq_9, evE.eq_10, evE.eq_11, evE.eq_12, evE.eq_13, evE.eq_14, evE.eq_15, evE.eq_16, evE.eq_17, evE.eq_18, evE.eq_19, evE.eq_20, evE.eq_24, evE.eq_25, evE.eq_26, evE.eq_27, evEs, ok_bnd, List.getElem?_cons_zero, List.getElem?_cons_succ, ok_ret, peek_val, asP_val, ok_some, Option.map_some, idx_lst, idx_tup, at_0, at_1, at_2, cmp_gt, cmp_ge, cmp_lt, cmp_le, tru_bl, bin_add, bin_sub, blt_int, blt_intb, peeks_nil, peeks_cons, List.set_cons_zero, List.set_cons_succ, lv_val, set_slot, vals_nil, vals_cons, ok_ok, cell_lst, cell_dct, Ex.fresh, if_true, List.length_cons, List.length_nil, Nat.reduceAdd, Nat.reduceLT, Nat.reduceSub, Nat.zero_add, wipeE]
    exact part_of hg hd ho hu h0 h1 h.drw fun p w h3 h4 => ⟨p, rfl, h3, h.trans h4⟩
  · simp only [List.map_cons, List.map_nil, List.cons_append, List.nil_append, List.replicate, evSs, evS, evE.eq_1, evE.eq_2, evE.eq_3, evE.eq_4, evE.eq_5, evE.eq_6, evE.eq_7, evE.eq_8, evE.eq_9, evE.eq_10, evE.eq_11, evE.eq_12, evE.eq_13, evE.eq_14, evE.eq_15, evE.eq_16, evE.eq_17, evE.eq_18, evE.eq_19, evE.eq_20, evE.eq_24, evE.eq_25, evE.eq_26, evE.eq_27, evEs, ok_bnd, List.getElem?_cons_zero, List.getElem?_cons_succ, ok_ret, peek_val, asP_val, ok_some, Option.map_some, idx_lst, idx_tup, at_0, at_1, at_2, cmp_gt, cmp_ge, cmp_lt, cmp_le, tru_bl, bin_add, bin_sub, blt_int, blt_intb, peeks_nil, peeks_cons, List.set_cons_zero, List.set_cons_succ, lv_val, set_slot, vals_nil, vals_cons, ok_ok, cell_lst, cell_dct, Ex.fresh, if_true, List.length_cons, List.length_nil, Nat.reduceAdd, Nat.reduceLT, Nat.reduceSub, Nat.zero_add, blt_tupl, h.take]
    exact q _ _ ⟨ps, rfl, Nat.zero_le _, hl, hp⟩ h
theorem facts_of {f : Nat} (hf : T.fns[f]? = some ⟨3, 7, gFacts o h d⟩) (hh : T.fns[h]? = some ⟨3, 4, gForm g d⟩) (hg : T.fns[g]? = some ⟨2, 3, gPartD o d⟩) (hd : T.fns[d]? = some ⟨2, 5, gDraw⟩) (ho : T.fns[o]? = some ⟨2, 2, gOf d⟩) (hu : T.fuel = 1000) {k m : Nat} {st : Sto} {xs : List P} {W : Sl → Sto → Prop} (h0 : 0 < xs.length) (h1 : xs.length ≤ 1000000) (hm : m ≤ 1000) (hn : Drw st n)
    (q : ∀ (p : P) (t : Sto), FactsOf xs m p → Nx st t n → W (.val p) t) : Ok (run T (k + 5) f [.ref n, .val (.lst xs), .val (.int (m : Nat))] st) W := by
  refine ok_run hf rfl (by decide) ?_
  unfold gFacts
  have hk := Nk.start (xs := []) hn
  have ln := hn.lt
  simp only [List.map_cons, List.map_nil, List.cons_append, List.nil_append, List.replicate, evSs, evS, evE.eq_1, evE.eq_2, evE.eq_3, evE.eq_4, evE.eq_5, evE.eq_6, evE.eq_7, evE.eq_8, evE.eq_9, evE.eq_10, evE.eq_11, evE.eq_12, evE.eq_13, evE.eq_14, evE.eq_15, evE.eq_16, evE.eq_17, evE.eq_18, evE.eq_19, evE.eq_20, evE.eq_24, evE.eq_25, evE.eq_26, evE.eq_27, evEs, ok_bnd, List.getElem?_cons_zero, List.getElem?_cons_succ, ok_ret, peek_val, asP_val, ok_some, Option.map_some, idx_lst, idx_tup, at_0, at_1, at_2, cmp_gt, cmp_ge, cmp_lt, cmp_le, tru_bl, bin_add, bin_sub, blt_int, blt_intb, peeks_nil, peeks_cons, List.set_cons_zero, List.set_cons_succ, lv_val, set_slot, vals_nil, vals_cons, ok_ok, cell_lst, cell_dct, Ex.fresh, if_true, List.length_cons, List.length_nil, Nat.reduceAdd, Nat.reduceLT, Nat.reduceSub, Nat.zero_add]
  refine rng_len ?_
  simp only [List.map_cons, List.map_nil, List.cons_append, List.nil_append, List.replicate, evSs, evS, evE.eq_1, evE.eq_2, evE.eq_3, evE.eq_4, evE.eq_5, evE.eq_6, evE.eq_7, evE.eq_8, evE.eq_9, evE.eq_10, evE.eq_11, evE.eq_12, evE.eq_13, evE.eq_14, evE.eq_15, evE.eq_16, evE.eq_17, evE.eq_18, evE.eq_19, evE.eq_20, evE.eq_24, evE.eq_25, evE.eq_26, evE.eq_27, evEs, ok_bnd, List.getElem?_cons_zero, List.getElem?_cons_succ, ok_ret, peek_val, asP_val, ok_some, Option.map_some, idx_lst, idx_tup, at_0, at_1, at_2, cmp_gt, cmp_ge, cmp_lt, cmp_le, tru_bl, bin_add, bin_sub, blt_int, blt_intb, peeks_nil, peeks_cons, List.set_cons_zero, List.set_cons_succ, lv_val, set_slot, vals_nil, vals_cons, ok_ok, cell_lst, cell_dct, Ex.fresh, if_true, List.length_cons, List.length_nil, Nat.reduceAdd, Nat.reduceLT, Nat.reduceSub, Nat.zero_add]
  refine draw_nx (k := k + 3) hd hu (by omega) (by omega) hk.drw fun b t b0 b1 nz => ⟨b, rfl, by omega, by omega, fun ys ly _ => ?_⟩
  have hk := hk.draw ln nz
  refine loop_ok (fun j env t => ∃ z4 z5 z6 zs, env = [some (.ref n), some (.val (.lst xs)), some (.val (.int (m : Nat))), some (.ref st.length), z4, z5, z6] ∧ Nk st t n zs ∧ zs.length = j ∧ ∀ z ∈ zs, FactOf xs z) ⟨none, none, none, [], rfl, hk, rfl, fun z h => nomatch h⟩ (fun j x e t hj ⟨z4, z5, z6, zs, ee, hk, lz, hz⟩ => ?_) fun e t ⟨z4, z5, z6, zs, ee, hk, lz, hz⟩ => ?_
  · subst ee
    have lt := lt_of_some hj
    have eb : bindP (.nm 4) x [some (.ref n), some (.val (.lst xs)), some (.val (.int (m : Nat))), some (.ref st.length), z4, z5, z6] = some [some (.ref n), some (.val (.lst xs)), some (.val (.int (m : Nat))), some (.ref st.length), some (.val x), z5, z6] := rfl
    rw [eb]
    simp only [List.map_cons, List.map_nil, List.cons_append, List.nil_append, List.replicate, evSs, evS, evE.eq_1, evE.eq_2, evE.eq_3, evE.eq_4, evE.eq_5, evE.eq_6, evE.eq_7, evE.eq_8, evE.eq_9, evE.eq_10, evE.eq_11, evE.eq_12, evE.eq_13, evE.eq_14, evE.eq_15, evE.eq_16, evE.eq_17, evE.eq_18, evE.eq_19, evE.eq_20, evE.eq_24, evE.eq_25, evE.eq_26, evE.eq_27, evEs, ok_bnd, List.getElem?_cons_zero, List.getElem?_cons_succ, ok_ret, peek_val, asP_val, ok_some, Option.map_some, idx_lst, idx_tup, at_0, at_1, at_2, cmp_gt, cmp_ge, cmp_lt, cmp_le, tru_bl, bin_add, bin_sub, blt_int, blt_intb, peeks_nil, peeks_cons, List.set_cons_zero, List.set_cons_succ, lv_val, set_slot, vals_nil, vals_cons, ok_ok, cell_lst, cell_dct, Ex.fresh, if_true, List.length_cons, List.length_nil, Nat.reduceAdd, Nat.reduceLT, Nat.reduceSub, Nat.zero_add]
    refine of_ok (k := k + 2) ho hd hu h0 h1 hk.drw fun p1 t1 m1 n1 => ?_
    have hk := hk.draw ln n1
    refine form_of (m := 3) (k := k) hh hg hd ho hu h0 h1 (by decide) hk.drw fun p2 t2 m2 n2 => ?_
    have hk := hk.draw ln n2
    rw [if_pos ⟨by simp, by simp, by decide⟩]
    simp only [List.map_cons, List.map_nil, List.cons_append, List.nil_append, List.replicate, evSs, evS, evE.eq_1, evE.eq_2, evE.eq_3, evE.eq_4, evE.eq_5, evE.eq_6, evE.eq_7, evE.eq_8, evE.eq_9, evE.eq_10, evE.eq_11, evE.eq_12, evE.eq_13, evE.eq_14, evE.eq_15, evE.eq_16, evE.eq_17, evE.eq_18, evE.eq_19, evE.eq_20, evE.eq_24, evE.eq_25, evE.eq_26, evE.eq_27, evEs, ok_bnd, List.getElem?_cons_zero, List.getElem?_cons_succ, ok_ret, peek_val, asP_val, ok_some, Option.map_some, idx_lst, idx_tup, at_0, at_1, at_2, cmp_gt, cmp_ge, cmp_lt, cmp_le, tru_bl, bin_add, bin_sub, blt_int, blt_intb, peeks_nil, peeks_cons, List.set_cons_zero, List.set_cons_succ, lv_val, set_slot, vals_nil, vals_cons, ok_ok, cell_lst, cell_dct, Ex.fresh, if_true, List.length_cons, List.length_nil, Nat.reduceAdd, Nat.reduceLT, Nat.reduceSub, Nat.zero_add, peek_lst hk.top, of_app]
    refine draw_nx (k := k + 3) hd hu (by decide) (by decide) hk.drw fun c t3 c0 c1 n3 => ?_
    have hk := hk.draw ln n3
    simp only [List.map_cons, List.map_nil, List.cons_append, List.nil_append, List.replicate, evSs, evS, evE.eq_1, evE.eq_2, evE.eq_3, evE.eq_4, evE.eq_5, evE.eq_6, evE.eq_7, evE.eq_8, evE.eq_9, evE.eq_10, evE.eq_11, evE.eq_12, evE.eq_13, evE.eq_14, evE.eq_15, evE.eq_16, evE.eq_17, evE.eq_18, evE.eq_19, evE.eq_20, evE.eq_24, evE.eq_25, evE.eq_26, evE.eq_27, evEs, ok_bnd, List.getElem?_cons_zero, List.getElem?_cons_succ, ok_ret, peek_val, asP_val, ok_some, Option.map_some, idx_lst, idx_tup, at_0, at_1, at_2, cmp_gt, cmp_ge, cmp_lt, cmp_le, tru_bl, bin_add, bin_sub, blt_int, blt_intb, peeks_nil, peeks_cons, List.set_cons_zero, List.set_cons_succ, lv_val, set_slot, vals_nil, vals_cons, ok_ok, cell_lst, cell_dct, Ex.fresh, if_true, List.length_cons, List.length_nil, Nat.reduceAdd, Nat.reduceLT, Nat.reduceSub, Nat.zero_add, cmp_eqi]
    rw [app_cell hk.top (by omega)]
    refine ⟨_, _, _, _, rfl, hk.set _ ln, by rw [List.length_append, lz]; rfl, fun z hm => ?_⟩
    (rcases List.mem_append.mp hm with hm | hm)
    · exact hz z hm
    · (rw [List.mem_singleton.mp hm])
      exact ⟨_, _, _, rfl, m1, m2⟩
  · subst ee
    simp only [List.map_cons, List.map_nil, List.cons_append, List.nil_append, List.replicate, evSs, evS, evE.eq_1, evE.eq_2, evE.eq_3, evE.eq_4, evE.eq_5, evE.eq_6, evE.eq_7, evE.eq_8, evE.eq_9, evE.eq_10, evE.eq_11, evE.eq_12, evE.eq_13, evE.eq_14, evE.eq_15, evE.eq_16, evE.eq_17, evE.eq_18, evE.eq_19, evE.eq_20, evE.eq_24, evE.eq_25, evE.eq_26, evE.eq_27, evEs, ok_bnd, List.getElem?_cons_zero, List.getElem?_cons_succ, ok_ret, peek_val, asP_val, ok_some, Option.map_some, idx_lst, idx_tup, at_0, at_1, at_2, cmp_gt, cmp_ge, cmp_lt, cmp_le, tru_bl, bin_add, bin_sub, blt_int, blt_intb, peeks_nil, peeks_cons, List.set_cons_zero, List.set_cons_succ, lv_val, set_slot, vals_nil, vals_cons, ok_ok, cell_lst, cell_dct, Ex.fresh, if_true, List.length_cons, List.length_nil, Nat.reduceAdd, Nat.reduceLT, Nat.reduceSub, Nat.zero_add, peek_lst hk.top, blt_tupl]
    exact q _ _ ⟨zs, rfl, Nat.zero_le _, by omega, hz⟩ (hk.nx ln)
end
end Fy

/-! Pl15: a store of rows alone; the last row. -/
namespace Fy
open PySem (Str)
/-- all cells are rows -/
def AllL (t : Sto) : Prop := ∀ (j : Nat) (c : Cell), t[j]? = some c → ∃ xs, c = .lst xs
theorem AllL.push {t : Sto} (h : AllL t) (xs : List P) : AllL (t ++ [.lst xs]) := fun j c e => by
  by_cases l : j < t.length
  · rw [List.getElem?_append_left l] at e
    exact h j c e
  · rw [List.getElem?_append_right (by omega)] at e
    obtain ⟨r, e2⟩ : ∃ r, j - t.length = r := ⟨_, rfl⟩
    rw [e2] at e
    cases r with
    | zero =>
      cases e
      exact ⟨xs, rfl⟩
    | succ r => exact nomatch e
theorem AllL.nx {st t : Sto} {n : Nat} (h : AllL st) (g : Nx st t n) : AllL t := fun j c e => by
  by_cases q : j = n
  · subst q
    obtain ⟨x, y, e2, _⟩ := g.drw
    rw [e2] at e
    cases e
    exact ⟨_, rfl⟩
  · rw [g.els j q] at e
    exact h j c e
theorem AllL.set {t : Sto} (h : AllL t) (m : Nat) (xs : List P) : AllL (t.set m (.lst xs)) := fun j c e => by
  rw [List.getElem?_set] at e
  split at e
  · split at e
    · cases e
      exact ⟨_, rfl⟩
    · cases e
  · exact h j c e
theorem AllL.take {t : Sto} (h : AllL t) (m : Nat) : AllL (t.take m) := fun j c e => by
  have l := lt_of_some e
  rw [List.length_take] at l
  rw [List.getElem?_take_of_lt (by omega)] at e
  exact h j c e
theorem AllL.cl {t : Sto} (h : AllL t) : Cl t := fun j c m e _ => by
  obtain ⟨xs, rfl⟩ := h j c e
  rfl
theorem AllL.none_holds {t : Sto} (h : AllL t) (m : Nat) : t.any (holdsRef m) = false := by
  rw [List.any_eq_false]
  intro c hm
  (obtain ⟨j, hj⟩ := List.getElem?_of_mem hm)
  obtain ⟨xs, rfl⟩ := h j c hj
  exact Bool.false_ne_true
theorem AllL.nil : AllL [] := fun j c e => nomatch e
theorem Drw.push {t : Sto} {n : Nat} (h : Drw t n) (c : Cell) : Drw (t ++ [c]) n := by
  have l := h.lt
  obtain ⟨x, y, e, z⟩ := h
  exact ⟨x, y, by rw [List.getElem?_append_left l]; exact e, z⟩
theorem Drw.new {t : Sto} {x y : Int} (h0 : 0 ≤ x) (h1 : x < 10 ^ 240) (h2 : 0 ≤ y) (h3 : y < 2147483648) : Drw (t ++ [.lst [.int x, .int y]]) t.length :=
  ⟨x, y, by rw [List.getElem?_append_right (Nat.le_refl _), Nat.sub_self]; rfl, h0, h1, h2, h3⟩
/-- rows alone, draws in cell n, the last cell m holds L -/
structure Ks (u : Sto) (n m : Nat) (L : List P) : Prop where
  drw : Drw u n
  all : AllL u
  top : u[m]? = some (.lst L)
  len : u.length = m + 1
  lt : n < m
theorem Ks.start {u : Sto} {n : Nat} (h : Drw u n) (a : AllL u) (L : List P) : Ks (u ++ [.lst L]) n u.length L :=
  ⟨h.push _, a.push _, by rw [List.getElem?_append_right (Nat.le_refl _), Nat.sub_self]; rfl, by rw [List.length_append]; rfl, h.lt⟩
theorem Ks.push {u : Sto} {n m : Nat} {L : List P} (h : Ks u n m L) (L' : List P) : Ks (u ++ [.lst L']) n u.length L' := .start h.drw h.all L'
theorem Ks.draw {u v : Sto} {n m : Nat} {L : List P} (h : Ks u n m L) (g : Nx u v n) : Ks v n m L :=
  ⟨g.drw, h.all.nx g, (g.els m (by have := h.lt; omega)).trans h.top, g.len.trans h.len, h.lt⟩
theorem Ks.set {u : Sto} {n m : Nat} {L : List P} (h : Ks u n m L) (L' : List P) : Ks (u.set m (.lst L')) n m L' := by
  have hl := h.lt
  refine ⟨?_, h.all.set _ _, by rw [List.getElem?_set_self (by rw [h.len]; omega)], by rw [List.length_set]; exact h.len, h.lt⟩
  obtain ⟨x, y, e, z⟩ := h.drw
  exact ⟨x, y, by rw [List.getElem?_set_ne (by omega)]; exact e, z⟩
theorem frz_last {b : Nat} {u : Sto} {n m i : Nat} {ys : List P} {env : Env} {W : Flow × Env → Sto → Prop} (hk : Ks u n m ys) (hb : b ≤ m) (he : env[i]? = some (some (.ref m))) (ho : (env.set i none).any (isRef m) = false) :
    Ok (freeze b i env u) W ↔ W (.nx, env.set i (some (.val (.lst ys)))) (u.take m) := by
  unfold freeze
  simp only [he, hk.len, hk.top, ho, hk.all.none_holds, Option.bind_some, cellP]
  rw [if_pos ⟨trivial, hb⟩]
  exact .rfl
/-- _law_truly -/
def gTruly : Sts := (.cons (.ret (.and (.isi (.var 0) [.bool] false) (.cons (.cmp .eq (.var 0) (.var 1)) .nil))) .nil)
theorem truly_ok {T : Tab} {f k : Nat} {st : Sto} {W : Sl → Sto → Prop} (hf : T.fns[f]? = some ⟨2, 2, gTruly⟩) (b : Bool) (q : W (.val (.bl true)) st) : Ok (run T (k + 1) f [.val (.bl b), .val (.bl b)] st) W := by
  refine ok_run hf rfl (by decide) ?_
  unfold gTruly
  have e : cmpP .eq (.bl b) (.bl b) = some true := by cases b <;> rfl
  simp only [List.map_cons, List.map_nil, List.cons_append, List.nil_append, List.replicate, evSs, evS, evE.eq_1, evE.eq_2, evE.eq_3, evE.eq_4, evE.eq_5, evE.eq_6, evE.eq_7, evE.eq_8, evE.eq_9, evE.eq_10, evE.eq_11, evE.eq_12, evE.eq_13, evE.eq_14, evE.eq_15, evE.eq_16, evE.eq_17, evE.eq_18, evE.eq_19, evE.eq_20, evE.eq_24, evE.eq_25, evE.eq_26, evE.eq_27, evEs, ok_bnd, List.getElem?_cons_zero, List.getElem?_cons_succ, ok_ret, peek_val, asP_val, ok_some, Option.map_some, idx_lst, idx_tup, at_0, at_1, at_2, cmp_gt, cmp_ge, cmp_lt, cmp_le, tru_bl, bin_add, bin_sub, blt_int, blt_intb, peeks_nil, peeks_cons, List.set_cons_zero, List.set_cons_succ, lv_val, set_slot, vals_nil, vals_cons, ok_ok, cell_lst, cell_dct, Ex.fresh, if_true, List.length_cons, List.length_nil, Nat.reduceAdd, Nat.reduceLT, Nat.reduceSub, Nat.zero_add, List.any_cons, List.any_nil, isTy, and_cons, and_nil, Bool.or_false, e, List.take_length]
  exact q
end Fy

/-! Pl16: names, in any table. -/
namespace Fy
open PySem (Str)
def letters : Str := "abcdefghijklmnopqrstuvwxyz"
def lowS : P → Bool
  | .str x => decide (x.cps.getD 0 0 ∈ letters.cps.toList)
  | _ => false
def nmP : P → Bool
  | .str x => decide (1 ≤ x.cps.size) && decide (x.cps.size ≤ 8) && (signs x).all lowS
  | _ => false
def isStrP : P → Bool
  | .str _ => true
  | _ => false
theorem nm_str {x : Str} : nmP (.str x) = (decide (1 ≤ x.cps.size) && decide (x.cps.size ≤ 8) && (signs x).all lowS) := rfl
theorem sign_of {x : Str} {s : P} (h : s ∈ signs x) : ∃ c, s = .str ⟨#[c]⟩ := by
  obtain ⟨c, _, e⟩ := List.mem_map.mp h
  exact ⟨c, e.symm⟩
theorem sign_in {s : P} {x : Str} (h : s ∈ signs x) : cmpP .mem s (.str (Str.ofString "abcdefghijklmnopqrstuvwxyz")) = some (lowS s) := by
  obtain ⟨c, rfl⟩ := sign_of h
  rfl
theorem sign_nin {s : P} {x : Str} (h : s ∈ signs x) : cmpP .nmem s (.str (Str.ofString "abcdefghijklmnopqrstuvwxyz")) = some (!lowS s) := by
  obtain ⟨c, rfl⟩ := sign_of h
  rfl
theorem signs_len (x : Str) : (signs x).length = x.cps.size := by
  unfold signs
  (rw [List.length_map, Array.length_toList])
/-- is_name -/
def gName : Sts := (.cons (.ret (.and (.isi (.var 0) [.str] false) (.cons (.cmp2 .le .le (.cst (.int 1)) (.blt .len (.cons (.var 0) .nil)) (.cst (.int 8))) (.cons (.blt .all (.cons (.lcm (.cmp .mem (.var 1) (.glo 0)) [1] (.cons (.nm 1) (.val (.var 0)) .nil .nil)) .nil)) .nil)))) .nil)
theorem name_ok {T : Tab} {f k : Nat} {p : P} {st : Sto} {W : Sl → Sto → Prop} (hf : T.fns[f]? = some ⟨1, 2, gName⟩) (hg : T.glo[0]? = some (.str letters)) (hs : ∀ x, p = .str x → x.cps.size ≤ 100000) (hw : W (.val (.bl (nmP p))) st) : Ok (run T (k + 1) f [.val p] st) W := by
  refine ok_run hf rfl (by decide) ?_
  have go : isTy .str p = isStrP p := by cases p <;> rfl
  unfold gName
  simp only [List.map_cons, List.map_nil, List.cons_append, List.nil_append, List.replicate, evSs, evS, evE.eq_1, evE.eq_2, evE.eq_3, evE.eq_4, evE.eq_5, evE.eq_6, evE.eq_7, evE.eq_8, evE.eq_9, evE.eq_10, evE.eq_11, evE.eq_12, evE.eq_13, evE.eq_14, evE.eq_15, evE.eq_16, evE.eq_17, evE.eq_18, evE.eq_19, evE.eq_20, evE.eq_24, evE.eq_25, evE.eq_26, evE.eq_27, evEs, ok_bnd, List.getElem?_cons_zero, List.getElem?_cons_succ, ok_ret, peek_val, asP_val, ok_some, Option.map_some, idx_lst, idx_tup, at_0, at_1, at_2, cmp_gt, cmp_ge, cmp_lt, cmp_le, tru_bl, bin_add, bin_sub, blt_int, blt_intb, peeks_nil, peeks_cons, List.set_cons_zero, List.set_cons_succ, lv_val, set_slot, vals_nil, vals_cons, ok_ok, cell_lst, cell_dct, Ex.fresh, if_true, List.length_cons, List.length_nil, Nat.reduceAdd, Nat.reduceLT, Nat.reduceSub, Nat.zero_add, List.any_cons, List.any_nil, Bool.or_false, go, and_cons]
  cases p with
  | str x =>
    have lx := hs x rfl
    simp only [List.map_cons, List.map_nil, List.cons_append, List.nil_append, List.replicate, evSs, evS, evE.eq_1, evE.eq_2, evE.eq_3, evE.eq_4, evE.eq_5, evE.eq_6, evE.eq_7, evE.eq_8, evE.eq_9, evE.eq_10, evE.eq_11, evE.eq_12, evE.eq_13, evE.eq_14, evE.eq_15, evE.eq_16, evE.eq_17, evE.eq_18, evE.eq_19, evE.eq_20, evE.eq_24, evE.eq_25, evE.eq_26, evE.eq_27, evEs, ok_bnd, List.getElem?_cons_zero, List.getElem?_cons_succ, ok_ret, peek_val, asP_val, ok_some, Option.map_some, idx_lst, idx_tup, at_0, at_1, at_2, cmp_gt, cmp_ge, cmp_lt, cmp_le, tru_bl, bin_add, bin_sub, blt_int, blt_intb, peeks_nil, peeks_cons, List.set_cons_zero, List.set_cons_succ, lv_val, set_slot, vals_nil, vals_cons, ok_ok, cell_lst, cell_dct, Ex.fresh, if_true, List.length_cons, List.length_nil, Nat.reduceAdd, Nat.reduceLT, Nat.reduceSub, Nat.zero_add, isStrP, len_str lx]
    by_cases h1 : (1 : Int) ≤ (x.cps.size : Nat)
    · simp only [List.map_cons, List.map_nil, List.cons_append, List.nil_append, List.replicate, evSs, evS, evE.eq_1, evE.eq_2, evE.eq_3, evE.eq_4, evE.eq_5, evE.eq_6, evE.eq_7, evE.eq_8, evE.eq_9, evE.eq_10, evE.eq_11, evE.eq_12, evE.eq_13, evE.eq_14, evE.eq_15, evE.eq_16, evE.eq_17, evE.eq_18, evE.eq_19, evE.eq_20, evE.eq_24, evE.eq_25, evE.eq_26, evE.eq_27, evEs, ok_bnd, List.getElem?_cons_zero, List.getElem?_cons_succ, ok_ret, peek_val, asP_val, ok_some, Option.map_some, idx_lst, idx_tup, at_0, at_1, at_2, cmp_gt, cmp_ge, cmp_lt, cmp_le, tru_bl, bin_add, bin_sub, blt_int, blt_intb, peeks_nil, peeks_cons, List.set_cons_zero, List.set_cons_succ, lv_val, set_slot, vals_nil, vals_cons, ok_ok, cell_lst, cell_dct, Ex.fresh, if_true, List.length_cons, List.length_nil, Nat.reduceAdd, Nat.reduceLT, Nat.reduceSub, Nat.zero_add, decide_eq_true h1]
      by_cases h2 : ((x.cps.size : Nat) : Int) ≤ 8
      · simp only [List.map_cons, List.map_nil, List.cons_append, List.nil_append, List.replicate, evSs, evS, evE.eq_1, evE.eq_2, evE.eq_3, evE.eq_4, evE.eq_5, evE.eq_6, evE.eq_7, evE.eq_8, evE.eq_9, evE.eq_10, evE.eq_11, evE.eq_12, evE.eq_13, evE.eq_14, evE.eq_15, evE.eq_16, evE.eq_17, evE.eq_18, evE.eq_19, evE.eq_20, evE.eq_24, evE.eq_25, evE.eq_26, evE.eq_27, evEs, ok_bnd, List.getElem?_cons_zero, List.getElem?_cons_succ, ok_ret, peek_val, asP_val, ok_some, Option.map_some, idx_lst, idx_tup, at_0, at_1, at_2, cmp_gt, cmp_ge, cmp_lt, cmp_le, tru_bl, bin_add, bin_sub, blt_int, blt_intb, peeks_nil, peeks_cons, List.set_cons_zero, List.set_cons_succ, lv_val, set_slot, vals_nil, vals_cons, ok_ok, cell_lst, cell_dct, Ex.fresh, if_true, List.length_cons, List.length_nil, Nat.reduceAdd, Nat.reduceLT, Nat.reduceSub, Nat.zero_add, decide_eq_true h2, and_cons]
        refine map_ok (env := [some (.val (.str x)), none]) (g := fun s => .bl (lowS s)) (xs := signs x) (Nat.lt_succ_self 1) rfl ⟨rfl, rfl⟩ (by rw [signs_len]; exact lx) (fun s hm => ?_) ?_
        · simp only [List.map_cons, List.map_nil, List.cons_append, List.nil_append, List.replicate, evSs, evS, evE.eq_1, evE.eq_2, evE.eq_3, evE.eq_4, evE.eq_5, evE.eq_6, evE.eq_7, evE.eq_8, evE.eq_9, evE.eq_10, evE.eq_11, evE.eq_12, evE.eq_13, evE.eq_14, evE.eq_15, evE.eq_16, evE.eq_17, evE.eq_18, evE.eq_19, evE.eq_20, evE.eq_24, evE.eq_25, evE.eq_26, evE.eq_27, evEs, ok_bnd, List.getElem?_cons_zero, List.getElem?_cons_succ, ok_ret, peek_val, asP_val, ok_some, Option.map_some, idx_lst, idx_tup, at_0, at_1, at_2, cmp_gt, cmp_ge, cmp_lt, cmp_le, tru_bl, bin_add, bin_sub, blt_int, blt_intb, peeks_nil, peeks_cons, List.set_cons_zero, List.set_cons_succ, lv_val, set_slot, vals_nil, vals_cons, ok_ok, cell_lst, cell_dct, Ex.fresh, if_true, List.length_cons, List.length_nil, Nat.reduceAdd, Nat.reduceLT, Nat.reduceSub, Nat.zero_add, wipeE, hg, letters, sign_in hm]
          exact ⟨trivial, trivial⟩
        · simp only [List.map_cons, List.map_nil, List.cons_append, List.nil_append, List.replicate, evSs, evS, evE.eq_1, evE.eq_2, evE.eq_3, evE.eq_4, evE.eq_5, evE.eq_6, evE.eq_7, evE.eq_8, evE.eq_9, evE.eq_10, evE.eq_11, evE.eq_12, evE.eq_13, evE.eq_14, evE.eq_15, evE.eq_16, evE.eq_17, evE.eq_18, evE.eq_19, evE.eq_20, evE.eq_24, evE.eq_25, evE.eq_26, evE.eq_27, evEs, ok_bnd, List.getElem?_cons_zero, List.getElem?_cons_succ, ok_ret, peek_val, asP_val, ok_some, Option.map_some, idx_lst, idx_tup, at_0, at_1, at_2, cmp_gt, cmp_ge, cmp_lt, cmp_le, tru_bl, bin_add, bin_sub, blt_int, blt_intb, peeks_nil, peeks_cons, List.set_cons_zero, List.set_cons_succ, lv_val, set_slot, vals_nil, vals_cons, ok_ok, cell_lst, cell_dct, Ex.fresh, if_true, List.length_cons, List.length_nil, Nat.reduceAdd, Nat.reduceLT, Nat.reduceSub, Nat.zero_add, all_map, and_nil, List.take_length]
          have e : nmP (.str x) = (signs x).all lowS := by
            rw [nm_str]
            rw [decide_eq_true (by omega), decide_eq_true (by omega)]
            rfl
          rw [← e]
          exact hw
      · simp only [List.map_cons, List.map_nil, List.cons_append, List.nil_append, List.replicate, evSs, evS, evE.eq_1, evE.eq_2, evE.eq_3, evE.eq_4, evE.eq_5, evE.eq_6, evE.eq_7, evE.eq_8, evE.eq_9, evE.eq_10, evE.eq_11, evE.eq_12, evE.eq_13, evE.eq_14, evE.eq_15, evE.eq_16, evE.eq_17, evE.eq_18, evE.eq_19, evE.eq_20, evE.eq_24, evE.eq_25, evE.eq_26, evE.eq_27, evEs, ok_bnd, List.getElem?_cons_zero, List.getElem?_cons_succ, ok_ret, peek_val, asP_val, ok_some, Option.map_some, idx_lst, idx_tup, at_0, at_1, at_2, cmp_gt, cmp_ge, cmp_lt, cmp_le, tru_bl, bin_add, bin_sub, blt_int, blt_intb, peeks_nil, peeks_cons, List.set_cons_zero, List.set_cons_succ, lv_val, set_slot, vals_nil, vals_cons, ok_ok, cell_lst, cell_dct, Ex.fresh, if_true, List.length_cons, List.length_nil, Nat.reduceAdd, Nat.reduceLT, Nat.reduceSub, Nat.zero_add, decide_eq_false h2, and_cons, Bool.false_eq_true, if_false, List.take_length]
        have e : nmP (.str x) = false := by
          rw [nm_str]
          rw [decide_eq_false (show ¬ x.cps.size ≤ 8 by omega), Bool.and_false]
          rfl
        rw [← e]
        exact hw
    · simp only [List.map_cons, List.map_nil, List.cons_append, List.nil_append, List.replicate, evSs, evS, evE.eq_1, evE.eq_2, evE.eq_3, evE.eq_4, evE.eq_5, evE.eq_6, evE.eq_7, evE.eq_8, evE.eq_9, evE.eq_10, evE.eq_11, evE.eq_12, evE.eq_13, evE.eq_14, evE.eq_15, evE.eq_16, evE.eq_17, evE.eq_18, evE.eq_19, evE.eq_20, evE.eq_24, evE.eq_25, evE.eq_26, evE.eq_27, evEs, ok_bnd, List.getElem?_cons_zero, List.getElem?_cons_succ, ok_ret, peek_val, asP_val, ok_some, Option.map_some, idx_lst, idx_tup, at_0, at_1, at_2, cmp_gt, cmp_ge, cmp_lt, cmp_le, tru_bl, bin_add, bin_sub, blt_int, blt_intb, peeks_nil, peeks_cons, List.set_cons_zero, List.set_cons_succ, lv_val, set_slot, vals_nil, vals_cons, ok_ok, cell_lst, cell_dct, Ex.fresh, if_true, List.length_cons, List.length_nil, Nat.reduceAdd, Nat.reduceLT, Nat.reduceSub, Nat.zero_add, decide_eq_false h1, and_cons, Bool.false_eq_true, if_false, List.take_length]
      have e : nmP (.str x) = false := by
        rw [nm_str]
        rw [decide_eq_false (show ¬ 1 ≤ x.cps.size by omega)]
        rfl
      rw [← e]
      exact hw
  | _ =>
    simp only [List.map_cons, List.map_nil, List.cons_append, List.nil_append, List.replicate, evSs, evS, evE.eq_1, evE.eq_2, evE.eq_3, evE.eq_4, evE.eq_5, evE.eq_6, evE.eq_7, evE.eq_8, evE.eq_9, evE.eq_10, evE.eq_11, evE.eq_12, evE.eq_13, evE.eq_14, evE.eq_15, evE.eq_16, evE.eq_17, evE.eq_18, evE.eq_19, evE.eq_20, evE.eq_24, evE.eq_25, evE.eq_26, evE.eq_27, evEs, ok_bnd, List.getElem?_cons_zero, List.getElem?_cons_succ, ok_ret, peek_val, asP_val, ok_some, Option.map_some, idx_lst, idx_tup, at_0, at_1, at_2, cmp_gt, cmp_ge, cmp_lt, cmp_le, tru_bl, bin_add, bin_sub, blt_int, blt_intb, peeks_nil, peeks_cons, List.set_cons_zero, List.set_cons_succ, lv_val, set_slot, vals_nil, vals_cons, ok_ok, cell_lst, cell_dct, Ex.fresh, if_true, List.length_cons, List.length_nil, Nat.reduceAdd, Nat.reduceLT, Nat.reduceSub, Nat.zero_add, isStrP, Bool.false_eq_true, if_false, List.take_length]
    exact hw
theorem eq_nils {xs : List P} (h : P.flats xs = true) : cmpP .eq (.lst xs) (.lst []) = some xs.isEmpty := by
  show (if _ then _ else _) = _
  have hd : min (P.lst xs).depth (P.lst []).depth ≤ depthMost := Nat.le_trans (Nat.min_le_right _ _) (by decide)
  rw [if_pos (by
    rw [decide_eq_true hd]
    show (P.flats xs && true && true) = true
    rw [h]
    rfl)]
  cases xs <;> rfl
theorem flats_of : ∀ {xs : List P}, (∀ x ∈ xs, x.flat = true) → P.flats xs = true
  | [], _ => rfl
  | x :: xs, h => by
    show (x.flat && P.flats xs) = true
    rw [h x (List.mem_cons_self ..), flats_of fun y hy => h y (List.mem_cons_of_mem _ hy)]
    rfl
theorem sieve {xs : List P} (g : P → Bool) : (xs.filter fun s => !g s).isEmpty = xs.all g := by
  induction xs with
  | nil => rfl
  | cons x xs ih =>
    rw [List.all_cons, ← ih]
    cases h : g x with
    | true =>
      rw [List.filter_cons_of_neg (by rw [h]; decide)]
      rfl
    | false =>
      rw [List.filter_cons_of_pos (by rw [h]; rfl)]
      rfl
/-- the law's own words for a name -/
def gLName : Sts := (.cons (.ite (.or (.not (.isi (.var 0) [.str] false)) (.cons (.not (.cmp2 .le .le (.cst (.int 1)) (.blt .len (.cons (.var 0) .nil)) (.cst (.int 8)))) .nil)) (.cons (.ret (.cst (.bl false))) .nil) .nil) (.cons (.ret (.cmp .eq (.lcm (.var 1) [1] (.cons (.nm 1) (.val (.var 0)) (.cons (.cmp .nmem (.var 1) (.cst (.str "abcdefghijklmnopqrstuvwxyz"))) .nil) .nil)) (.lst .nil))) .nil))
theorem lname_ok {T : Tab} {f k : Nat} {p : P} {st : Sto} {W : Sl → Sto → Prop} (hf : T.fns[f]? = some ⟨1, 2, gLName⟩) (hs : ∀ x, p = .str x → x.cps.size ≤ 100000) (hw : W (.val (.bl (nmP p))) st) : Ok (run T (k + 1) f [.val p] st) W := by
  refine ok_run hf rfl (by decide) ?_
  have go : isTy .str p = isStrP p := by cases p <;> rfl
  unfold gLName
  cases p with
  | str x =>
    have lx := hs x rfl
    simp only [List.map_cons, List.map_nil, List.cons_append, List.nil_append, List.replicate, evSs, evS, evE.eq_1, evE.eq_2, evE.eq_3, evE.eq_4, evE.eq_5, evE.eq_6, evE.eq_7, evE.eq_8, evE.eq_9, evE.eq_10, evE.eq_11, evE.eq_12, evE.eq_13, evE.eq_14, evE.eq_15, evE.eq_16, evE.eq_17, evE.eq_18, evE.eq_19, evE.eq_20, evE.eq_24, evE.eq_25, evE.eq_26, evE.eq_27, evEs, ok_bnd, List.getElem?_cons_zero, List.getElem?_cons_succ, ok_ret, peek_val, asP_val, ok_some, Option.map_some, idx_lst, idx_tup, at_0, at_1, at_2, cmp_gt, cmp_ge, cmp_lt, cmp_le, tru_bl, bin_add, bin_sub, blt_int, blt_intb, peeks_nil, peeks_cons, List.set_cons_zero, List.set_cons_succ, lv_val, set_slot, vals_nil, vals_cons, ok_ok, cell_lst, cell_dct, Ex.fresh, if_true, List.length_cons, List.length_nil, Nat.reduceAdd, Nat.reduceLT, Nat.reduceSub, Nat.zero_add, List.any_cons, List.any_nil, Bool.or_false, go, isStrP, Bool.not_true, or_cons, Bool.false_eq_true, if_false, len_str lx]
    by_cases h1 : (1 : Int) ≤ (x.cps.size : Nat)
    · by_cases h2 : ((x.cps.size : Nat) : Int) ≤ 8
      · simp only [List.map_cons, List.map_nil, List.cons_append, List.nil_append, List.replicate, evSs, evS, evE.eq_1, evE.eq_2, evE.eq_3, evE.eq_4, evE.eq_5, evE.eq_6, evE.eq_7, evE.eq_8, evE.eq_9, evE.eq_10, evE.eq_11, evE.eq_12, evE.eq_13, evE.eq_14, evE.eq_15, evE.eq_16, evE.eq_17, evE.eq_18, evE.eq_19, evE.eq_20, evE.eq_24, evE.eq_25, evE.eq_26, evE.eq_27, evEs, ok_bnd, List.getElem?_cons_zero, List.getElem?_cons_succ, ok_ret, peek_val, asP_val, ok_some, Option.map_some, idx_lst, idx_tup, at_0, at_1, at_2, cmp_gt, cmp_ge, cmp_lt, cmp_le, tru_bl, bin_add, bin_sub, blt_int, blt_intb, peeks_nil, peeks_cons, List.set_cons_zero, List.set_cons_succ, lv_val, set_slot, vals_nil, vals_cons, ok_ok, cell_lst, cell_dct, Ex.fresh, if_true, List.length_cons, List.length_nil, Nat.reduceAdd, Nat.reduceLT, Nat.reduceSub, Nat.zero_add, decide_eq_true h1, decide_eq_true h2, Bool.not_true, or_nil, Bool.false_eq_true, if_false]
        refine sift_ok (env := [some (.val (.str x)), none]) (g := fun s => s) (keep := fun s => !lowS s) (xs := signs x) (Nat.lt_succ_self 1) rfl ⟨rfl, rfl⟩ (by rw [signs_len]; exact lx) (fun s hm => ?_) (fun s hm _ => ?_) ?_
        · rw [evTs]
          simp only [List.map_cons, List.map_nil, List.cons_append, List.nil_append, List.replicate, evSs, evS, evE.eq_1, evE.eq_2, evE.eq_3, evE.eq_4, evE.eq_5, evE.eq_6, evE.eq_7, evE.eq_8, evE.eq_9, evE.eq_10, evE.eq_11, evE.eq_12, evE.eq_13, evE.eq_14, evE.eq_15, evE.eq_16, evE.eq_17, evE.eq_18, evE.eq_19, evE.eq_20, evE.eq_24, evE.eq_25, evE.eq_26, evE.eq_27, evEs, ok_bnd, List.getElem?_cons_zero, List.getElem?_cons_succ, ok_ret, peek_val, asP_val, ok_some, Option.map_some, idx_lst, idx_tup, at_0, at_1, at_2, cmp_gt, cmp_ge, cmp_lt, cmp_le, tru_bl, bin_add, bin_sub, blt_int, blt_intb, peeks_nil, peeks_cons, List.set_cons_zero, List.set_cons_succ, lv_val, set_slot, vals_nil, vals_cons, ok_ok, cell_lst, cell_dct, Ex.fresh, if_true, List.length_cons, List.length_nil, Nat.reduceAdd, Nat.reduceLT, Nat.reduceSub, Nat.zero_add, wipeE, sign_nin hm]
          cases hb : lowS s
          · exact ⟨rfl, rfl⟩
          · exact ⟨rfl, rfl⟩
        · simp only [List.map_cons, List.map_nil, List.cons_append, List.nil_append, List.replicate, evSs, evS, evE.eq_1, evE.eq_2, evE.eq_3, evE.eq_4, evE.eq_5, evE.eq_6, evE.eq_7, evE.eq_8, evE.eq_9, evE.eq_10, evE.eq_11, evE.eq_12, evE.eq_13, evE.eq_14, evE.eq_15, evE.eq_16, evE.eq_17, evE.eq_18, evE.eq_19, evE.eq_20, evE.eq_24, evE.eq_25, evE.eq_26, evE.eq_27, evEs, ok_bnd, List.getElem?_cons_zero, List.getElem?_cons_succ, ok_ret, peek_val, asP_val, ok_some, Option.map_some, idx_lst, idx_tup, at_0, at_1, at_2, cmp_gt, cmp_ge, cmp_lt, cmp_le, tru_bl, bin_add, bin_sub, blt_int, blt_intb, peeks_nil, peeks_cons, List.set_cons_zero, List.set_cons_succ, lv_val, set_slot, vals_nil, vals_cons, ok_ok, cell_lst, cell_dct, Ex.fresh, if_true, List.length_cons, List.length_nil, Nat.reduceAdd, Nat.reduceLT, Nat.reduceSub, Nat.zero_add, wipeE]
          exact ⟨trivial, trivial⟩
        · have fl : P.flats (((signs x).filter fun s => !lowS s).map fun s => s) = true := by
            rw [List.map_id']
            exact flats_of fun s hm => by
              obtain ⟨c, rfl⟩ := sign_of (List.mem_filter.mp hm).1
              rfl
          simp only [List.map_cons, List.map_nil, List.cons_append, List.nil_append, List.replicate, evSs, evS, evE.eq_1, evE.eq_2, evE.eq_3, evE.eq_4, evE.eq_5, evE.eq_6, evE.eq_7, evE.eq_8, evE.eq_9, evE.eq_10, evE.eq_11, evE.eq_12, evE.eq_13, evE.eq_14, evE.eq_15, evE.eq_16, evE.eq_17, evE.eq_18, evE.eq_19, evE.eq_20, evE.eq_24, evE.eq_25, evE.eq_26, evE.eq_27, evEs, ok_bnd, List.getElem?_cons_zero, List.getElem?_cons_succ, ok_ret, peek_val, asP_val, ok_some, Option.map_some, idx_lst, idx_tup, at_0, at_1, at_2, cmp_gt, cmp_ge, cmp_lt, cmp_le, tru_bl, bin_add, bin_sub, blt_int, blt_intb, peeks_nil, peeks_cons, List.set_cons_zero, List.set_cons_succ, lv_val, set_slot, vals_nil, vals_cons, ok_ok, cell_lst, cell_dct, Ex.fresh, if_true, List.length_cons, List.length_nil, Nat.reduceAdd, Nat.reduceLT, Nat.reduceSub, Nat.zero_add, eq_nils fl, List.take_length]
          have e : nmP (.str x) = ((((signs x).filter fun s => !lowS s).map fun s => s)).isEmpty := by
            rw [nm_str, decide_eq_true (by omega), decide_eq_true (by omega), List.map_id', sieve]
            rfl
          rw [← e]
          exact hw
      · simp only [List.map_cons, List.map_nil, List.cons_append, List.nil_append, List.replicate, evSs, evS, evE.eq_1, evE.eq_2, evE.eq_3, evE.eq_4, evE.eq_5, evE.eq_6, evE.eq_7, evE.eq_8, evE.eq_9, evE.eq_10, evE.eq_11, evE.eq_12, evE.eq_13, evE.eq_14, evE.eq_15, evE.eq_16, evE.eq_17, evE.eq_18, evE.eq_19, evE.eq_20, evE.eq_24, evE.eq_25, evE.eq_26, evE.eq_27, evEs, ok_bnd, List.getElem?_cons_zero, List.getElem?_cons_succ, ok_ret, peek_val, asP_val, ok_some, Option.map_some, idx_lst, idx_tup, at_0, at_1, at_2, cmp_gt, cmp_ge, cmp_lt, cmp_le, tru_bl, bin_add, bin_sub, blt_int, blt_intb, peeks_nil, peeks_cons, List.set_cons_zero, List.set_cons_succ, lv_val, set_slot, vals_nil, vals_cons, ok_ok, cell_lst, cell_dct, Ex.fresh, if_true, List.length_cons, List.length_nil, Nat.reduceAdd, Nat.reduceLT, Nat.reduceSub, Nat.zero_add, decide_eq_true h1, decide_eq_false h2, Bool.not_false, or_nil, List.take_length]
        have e : nmP (.str x) = false := by
          rw [nm_str]
          rw [decide_eq_false (show ¬ x.cps.size ≤ 8 by omega), Bool.and_false]
          rfl
        rw [← e]
        exact hw
    · simp only [List.map_cons, List.map_nil, List.cons_append, List.nil_append, List.replicate, evSs, evS, evE.eq_1, evE.eq_2, evE.eq_3, evE.eq_4, evE.eq_5, evE.eq_6, evE.eq_7, evE.eq_8, evE.eq_9, evE.eq_10, evE.eq_11, evE.eq_12, evE.eq_13, evE.eq_14, evE.eq_15, evE.eq_16, evE.eq_17, evE.eq_18, evE.eq_19, evE.eq_20, evE.eq_24, evE.eq_25, evE.eq_26, evE.eq_27, evEs, ok_bnd, List.getElem?_cons_zero, List.getElem?_cons_succ, ok_ret, peek_val, asP_val, ok_some, Option.map_some, idx_lst, idx_tup, at_0, at_1, at_2, cmp_gt, cmp_ge, cmp_lt, cmp_le, tru_bl, bin_add, bin_sub, blt_int, blt_intb, peeks_nil, peeks_cons, List.set_cons_zero, List.set_cons_succ, lv_val, set_slot, vals_nil, vals_cons, ok_ok, cell_lst, cell_dct, Ex.fresh, if_true, List.length_cons, List.length_nil, Nat.reduceAdd, Nat.reduceLT, Nat.reduceSub, Nat.zero_add, decide_eq_false h1, Bool.not_false, or_nil, Bool.false_eq_true, if_false, List.take_length]
      have e : nmP (.str x) = false := by
        rw [nm_str]
        rw [decide_eq_false (show ¬ 1 ≤ x.cps.size by omega)]
        rfl
      rw [← e]
      exact hw
  | _ =>
    simp only [List.map_cons, List.map_nil, List.cons_append, List.nil_append, List.replicate, evSs, evS, evE.eq_1, evE.eq_2, evE.eq_3, evE.eq_4, evE.eq_5, evE.eq_6, evE.eq_7, evE.eq_8, evE.eq_9, evE.eq_10, evE.eq_11, evE.eq_12, evE.eq_13, evE.eq_14, evE.eq_15, evE.eq_16, evE.eq_17, evE.eq_18, evE.eq_19, evE.eq_20, evE.eq_24, evE.eq_25, evE.eq_26, evE.eq_27, evEs, ok_bnd, List.getElem?_cons_zero, List.getElem?_cons_succ, ok_ret, peek_val, asP_val, ok_some, Option.map_some, idx_lst, idx_tup, at_0, at_1, at_2, cmp_gt, cmp_ge, cmp_lt, cmp_le, tru_bl, bin_add, bin_sub, blt_int, blt_intb, peeks_nil, peeks_cons, List.set_cons_zero, List.set_cons_succ, lv_val, set_slot, vals_nil, vals_cons, ok_ok, cell_lst, cell_dct, Ex.fresh, if_true, List.length_cons, List.length_nil, Nat.reduceAdd, Nat.reduceLT, Nat.reduceSub, Nat.zero_add, List.any_cons, List.any_nil, Bool.or_false, go, isStrP, Bool.not_false, or_cons, List.take_length]
    exact hw
end Fy

/-! Pl17: ascending, each once. -/
namespace Fy
open PySem (Str)
/-- a kind of data with an order -/
structure Lin {A : Type} (f : A → P) (lt : A → A → Bool) : Prop where
  key : ∀ a, keyOk (f a) = true
  inj : ∀ a b, f a = f b → a = b
  lts : ∀ a b, (f a).ltv (f b) = lt a b
  irr : ∀ a, lt a a = false
  tr : ∀ a b c, lt a b = true → lt b c = true → lt a c = true
  tri : ∀ a b, lt a b = false → lt b a = false → a = b
  alk : ∀ a b, (f a).alk (f b) = true
  pk : ∀ a, isPlainKey (f a) = true
  fl : ∀ a, (f a).flat = true
  dp : ∀ a, (f a).depth = 0
def txt (l : List Nat) : P := .str ⟨l.toArray⟩
theorem lin_int : Lin P.int fun i j => decide (i < j) where
  key _ := rfl
  inj a b h := by cases h; rfl
  lts _ _ := rfl
  irr a := decide_eq_false (Int.lt_irrefl a)
  tr a b c h g := decide_eq_true (Int.lt_trans (of_decide_eq_true h) (of_decide_eq_true g))
  tri a b h g := by
    have h := of_decide_eq_false h
    have g := of_decide_eq_false g
    omega
  alk _ _ := rfl
  pk _ := rfl
  fl _ := rfl
  dp _ := rfl
theorem lin_txt : Lin txt fun i j => decide (i < j) where
  key _ := rfl
  inj a b h := by
    have h : P.str ⟨a.toArray⟩ = P.str ⟨b.toArray⟩ := h
    injection h with h
    injection h with h
    injection h
  lts a b := rfl
  irr a := decide_eq_false (List.lt_irrefl a)
  tr a b c h g := decide_eq_true (List.lt_trans (of_decide_eq_true h) (of_decide_eq_true g))
  tri a b h g := by
    have h := of_decide_eq_false h
    have g := of_decide_eq_false g
    exact List.le_antisymm (List.not_lt.mp g) (List.not_lt.mp h)
  alk _ _ := rfl
  pk _ := rfl
  fl _ := rfl
  dp _ := rfl
def ascB (xs : List P) : Bool := (xs.zip (xs.drop 1)).all fun z => z.1.ltv z.2
section
variable {A : Type} {f : A → P} {lt : A → A → Bool}
theorem asc_iff (h : Lin f lt) : ∀ as : List A, ascB (as.map f) = true ↔ as.Pairwise fun a b => lt a b = true
  | [] => ⟨fun _ => .nil, fun _ => rfl⟩
  | [a] => ⟨fun _ => List.pairwise_singleton .., fun _ => rfl⟩
  | a :: b :: r => by
    have ih := asc_iff h (b :: r)
    have e : ascB ((a :: b :: r).map f) = ((f a).ltv (f b) && ascB ((b :: r).map f)) := rfl
    rw [e, Bool.and_eq_true, ih, h.lts]
    refine ⟨fun ⟨h1, h2⟩ => List.pairwise_cons.mpr ⟨fun c hc => ?_, h2⟩, fun h2 => ⟨(List.pairwise_cons.mp h2).1 b (List.mem_cons_self ..), (List.pairwise_cons.mp h2).2⟩⟩
    (rcases List.mem_cons.mp hc with rfl | hc)
    · exact h1
    · exact h.tr _ _ _ h1 ((List.pairwise_cons.mp h2).1 c hc)
theorem in_map {l : List P} (h : ∀ x ∈ l, ∃ a, f a = x) : ∃ as : List A, l = as.map f := by
  induction l with
  | nil => exact ⟨[], rfl⟩
  | cons x l ih =>
    obtain ⟨as, e⟩ := ih fun y hy => h y (List.mem_cons_of_mem _ hy)
    obtain ⟨a, ea⟩ := h x (List.mem_cons_self ..)
    exact ⟨a :: as, by rw [List.map_cons, ea, e]⟩
theorem keys_map (h : Lin f lt) {as : List A} : ∀ x ∈ as.map f, keyOk x = true := fun x hx => by
  (obtain ⟨a, _, rfl⟩ := List.mem_map.mp hx)
  exact h.key a
theorem eqvs_map (h : Lin f lt) : ∀ as bs : List A, P.eqvs (as.map f) (bs.map f) = true ↔ as = bs
  | [], [] => Iff.intro (fun _ => rfl) (fun _ => rfl)
  | [], b :: bs => ⟨fun z => absurd z Bool.false_ne_true, fun z => nomatch z⟩
  | a :: as, [] => ⟨fun z => absurd z Bool.false_ne_true, fun z => nomatch z⟩
  | a :: as, b :: bs => by
    have e : P.eqvs ((a :: as).map f) ((b :: bs).map f) = ((f a).eqv (f b) && P.eqvs (as.map f) (bs.map f)) := rfl
    rw [e, Bool.and_eq_true, eqvs_map h as bs, eqv_kk (h.key a) (h.key b)]
    refine ⟨fun ⟨h1, h2⟩ => by rw [h.inj _ _ h1, h2], fun z => ?_⟩
    injection z with z1 z2
    exact ⟨by rw [z1], z2⟩
theorem nodup_map {as : List A} (h : (as.map f).Nodup) : as.Nodup := by
  induction as with
  | nil => exact List.nodup_nil
  | cons a as ih =>
    (rw [List.map_cons, List.nodup_cons] at h)
    rw [List.nodup_cons]
    exact ⟨fun z => h.1 (List.mem_map_of_mem z), ih h.2⟩
/-- what a row and the same row sorted, each once, have in common -/
theorem uniq_map (h : Lin f lt) (as : List A) : ∃ bs : List A, uniq (as.map f) = bs.map f ∧ bs.Nodup ∧ ∀ a, a ∈ bs ↔ a ∈ as := by
  have has := uniq_has (keys_map h (as := as))
  obtain ⟨bs, e⟩ := in_map (f := f) (l := uniq (as.map f)) fun x hx => by
    obtain ⟨a, _, e⟩ := List.mem_map.mp ((has x).mp hx)
    exact ⟨a, e⟩
  refine ⟨bs, e, nodup_map (f := f) (by rw [← e]; exact uniq_nd (keys_map h)), fun a => ?_⟩
  have z := has (f a)
  rw [e] at z
  refine ⟨fun ha => ?_, fun ha => ?_⟩
  · obtain ⟨b, hb, eb⟩ := List.mem_map.mp (z.mp (List.mem_map_of_mem ha))
    rw [← h.inj _ _ eb]
    exact hb
  · obtain ⟨b, hb, eb⟩ := List.mem_map.mp (z.mpr (List.mem_map_of_mem ha))
    rw [← h.inj _ _ eb]
    exact hb
theorem sort_map (h : Lin f lt) (bs : List A) : sortL (bs.map f) = (bs.mergeSort fun a b => !lt b a).map f := by
  refine (List.map_mergeSort fun a _ b _ => ?_).symm
  show _ = !((f b).ltv (f a))
  rw [h.lts]
theorem le_pw (h : Lin f lt) (bs : List A) : (bs.mergeSort fun a b => !lt b a).Pairwise fun a b => (!lt b a) = true := by
  refine List.pairwise_mergeSort (fun a b c h1 h2 => ?_) (fun a b => ?_) bs
  · have h1 : lt b a = false := by simpa using h1
    have h2 : lt c b = false := by simpa using h2
    show (!lt c a) = true
    cases e : lt c a with
    | false => rfl
    | true =>
      exfalso
      cases e2 : lt a b with
      | true =>
        have z := h.tr _ _ _ e e2
        rw [h2] at z
        cases z
      | false =>
        have q := h.tri a b e2 h1
        subst q
        rw [h2] at e
        cases e
  · cases e : lt b a with
    | false => rfl
    | true =>
      cases e2 : lt a b with
      | false => rfl
      | true =>
        have z := h.tr _ _ _ e e2
        rw [h.irr] at z
        cases z
theorem asc_sorted (h : Lin f lt) (as : List A) : P.eqvs (as.map f) (sortL (uniq (as.map f))) = ascB (as.map f) := by
  obtain ⟨bs, e, nd, hm⟩ := uniq_map h as
  rw [e, sort_map h, Bool.eq_iff_iff, eqvs_map h, asc_iff h]
  have pw := le_pw h bs
  have pm := List.mergeSort_perm bs fun a b => !lt b a
  (refine ⟨fun q => ?_, fun q => ?_⟩)
  · have nd2 := pm.symm.nodup nd
    rw [← q] at pw nd2
    refine (pw.and nd2).imp fun {a b} z => ?_
    cases e1 : lt a b with
    | true => rfl
    | false =>
      exfalso
      exact z.2 (h.tri a b e1 (by simpa using z.1))
  · have nda : as.Nodup := q.imp fun {a b} z e1 => by
      subst e1
      rw [h.irr] at z
      cases z
    have p2 : as.Perm (bs.mergeSort fun a b => !lt b a) := ((List.perm_ext_iff_of_nodup nda nd).mpr fun a => (hm a).symm).trans pm.symm
    refine List.Perm.eq_of_pairwise (le := fun a b => (!lt b a) = true) (fun a b _ _ h1 h2 => ?_) (q.imp fun {a b} z => ?_) pw p2
    · exact h.tri a b (by simpa using h2) (by simpa using h1)
    · cases e1 : lt b a with
      | false => rfl
      | true =>
        have y := h.tr _ _ _ z e1
        rw [h.irr] at y
        cases y
theorem uniq_len (xs : List P) : (uniq xs).length ≤ xs.length := by
  have go : ∀ (xs L : List P), (xs.foldl addU L).length ≤ L.length + xs.length := fun xs => by
    induction xs with
    | nil => exact fun L => Nat.le_refl _
    | cons x xs ih =>
      intro L
      refine Nat.le_trans (ih (addU L x)) ?_
      have : (addU L x).length ≤ L.length + 1 := by
        unfold addU
        split
        · omega
        · rw [List.length_append]
          exact Nat.le_refl _
      rw [List.length_cons]
      omega
  have := go xs []
  rw [List.length_nil, Nat.zero_add] at this
  exact this
theorem can_map (h : Lin f lt) {as : List A} (hl : as.length < 4000) : (allKeys (as.map f) && canSort (uniq (as.map f))) = true := by
  obtain ⟨bs, e, nd, hm⟩ := uniq_map h as
  have lb : bs.length ≤ as.length := by
    have := uniq_len (as.map f)
    rw [e, List.length_map, List.length_map] at this
    exact this
  rw [e]
  have h1 : allKeys (as.map f) = true := by
    unfold allKeys
    rw [List.length_map, decide_eq_true hl, Bool.and_true, List.all_eq_true]
    exact keys_map h
  have al : ∀ (g : P → Bool), (∀ a, g (f a) = true) → (bs.map f).all g = true := fun g hg => by
    rw [List.all_eq_true]
    intro x hx
    (obtain ⟨a, _, rfl⟩ := List.mem_map.mp hx)
    exact hg a
  have h2 : canSort (bs.map f) = true := by
    unfold canSort
    rw [al _ fun a => al _ fun b => h.alk a b, al isPlainKey h.pk, al (fun x => x.flat && decide (x.depth ≤ depthMost)) (fun a => by rw [h.fl, h.dp]; rfl), List.length_map, decide_eq_true (show bs.length ≤ lenMost by have : lenMost = 100000 := rfl; omega), Bool.or_true]
    rfl
  rw [h1, h2]
  rfl
end
end Fy

/-! Pl18: comprehensions over patterns; integers, rows that ascend, cells. -/
namespace Fy
open PySem (Str)
theorem gen_pat {C : Ev} {p : Pt} {it : It} {ifs : Exs} {f : Env → List P → M (List P)} {ei env : Env} {acc : List P} {W : List P → Sto → Prop} {st : Sto} (fr : freeP p env = true) :
    Ok (evG C (.cons p it ifs .nil) f ei env acc st) W ↔ Ok (evI C it ei st) fun xs t => Ok (foldP xs acc (fun x acc => match bindP p x env with | none => stuck | some env' => bnd (evTs C ifs env') fun k => if k then f env' acc else ret acc) t) W := by
  show Ok (bnd (evI C it ei) (fun xs => if freeP p env then nox (foldP xs acc fun x acc => match bindP p x env with | none => stuck | some env' => bnd (evTs C ifs env') fun k => if k then evG C .nil f env' env' acc else ret acc) else stuck) st) W ↔ _
  simp only [ok_bnd, fr, if_true, ok_nox]
  rfl
theorem fold_pat {C : Ev} {e : Ex} {p : Pt} {own : List Nat} {env : Env} {t : Sto} {ys : List P} {W : List P → Sto → Prop} (g : P → P) (hl : ys.length ≤ 100000)
    (hs : ∀ x ∈ ys, ∃ env', bindP p x (wipeE env own) = some env' ∧ Ok (evE C e env' t) fun v u => v = .val (g x) ∧ u = t) (hw : W (ys.map g) t) :
    Ok (foldP ys [] (fun x acc => match bindP p x (wipeE env own) with | none => stuck | some env' => bnd (evTs C .nil env') fun k => if k then bnd (evE C e env') (fun x => bnd (asP x) fun p => if acc.length < lenMost then ret (acc ++ [p]) else stuck) else ret acc) t) W := by
  refine fold_ok (fun j acc u => acc = (ys.take j).map g ∧ u = t) ⟨rfl, rfl⟩ (fun j x acc u hj ⟨h1, h2⟩ => ?_) fun acc u ⟨h1, h2⟩ => ?_
  · subst h1
    subst h2
    have hm : x ∈ ys := List.mem_of_getElem? hj
    have lt := lt_of_some hj
    obtain ⟨env', eb, h⟩ := hs x hm
    rw [eb]
    show Ok (bnd (ret true) _ u) _
    rw [ok_bnd, ok_ret, if_pos rfl, ok_bnd]
    refine h.imp fun v w ⟨h3, h4⟩ => ?_
    subst h3
    subst h4
    rw [ok_bnd, asP_val]
    have lm : ((ys.take j).map g).length < lenMost := by
      rw [List.length_map, List.length_take]
      have : lenMost = 100000 := rfl
      omega
    rw [if_pos lm]
    refine ⟨?_, rfl⟩
    rw [List.take_succ, hj, List.map_append]
    rfl
  · subst h1
    subst h2
    rw [List.take_length]
    exact hw
/-- [e for p in xs], the target a pattern: each turn gives one thing and leaves the store alone -/
theorem map_pat {C : Ev} {e : Ex} {p : Pt} {own : List Nat} {it : It} {env : Env} {W : Sl → Sto → Prop} {st : Sto} {xs : List P} (g : P → P) (fr : freeP p (wipeE env own) = true) (hx : Ok (evI C it env st) fun ys t => ys = xs ∧ t = st) (hl : xs.length ≤ 100000)
    (hs : ∀ x ∈ xs, ∃ env', bindP p x (wipeE env own) = some env' ∧ Ok (evE C e env' st) fun v t => v = .val (g x) ∧ t = st) (hw : W (.val (.lst (xs.map g))) st) : Ok (evE C (.lcm e own (.cons p it .nil .nil)) env st) W := by
  rw [evE, ok_bnd, gen_pat fr]
  refine hx.imp fun ys t ⟨e1, e2⟩ => ?_
  subst e1
  subst e2
  exact fold_pat g hl hs hw
/-! ### integers -/
def wholeP : P → Bool
  | .int _ => true
  | _ => false
def gWhole : Sts := (.cons (.ret (.and (.isi (.var 0) [.int] false) (.cons (.not (.isi (.var 0) [.bool] false)) .nil))) .nil)
theorem whole_ok {T : Tab} {f k : Nat} {p : P} {st : Sto} {W : Sl → Sto → Prop} (hf : T.fns[f]? = some ⟨1, 1, gWhole⟩) (hw : W (.val (.bl (wholeP p))) st) : Ok (run T (k + 1) f [.val p] st) W := by
  refine ok_run hf rfl (by decide) ?_
  unfold gWhole
  cases p with
  | int i =>
    simp only [List.map_cons, List.map_nil, List.cons_append, List.nil_append, List.replicate, evSs, evS, evE.eq_1, evE.eq_2, evE.eq_3, evE.eq_4, evE.eq_5, evE.eq_6, evE.eq_7, evE.eq_8, evE.eq_9, evE.eq_10, evE.eq_11, evE.eq_12, evE.eq_13, evE.eq_14, evE.eq_15, evE.eq_16, evE.eq_17, evE.eq_18, evE.eq_19, evE.eq_20, evE.eq_24, evE.eq_25, evE.eq_26, evE.eq_27, evEs, ok_bnd, List.getElem?_cons_zero, List.getElem?_cons_succ, ok_ret, peek_val, asP_val, ok_some, Option.map_some, idx_lst, idx_tup, at_0, at_1, at_2, cmp_gt, cmp_ge, cmp_lt, cmp_le, tru_bl, bin_add, bin_sub, blt_int, blt_intb, peeks_nil, peeks_cons, List.set_cons_zero, List.set_cons_succ, lv_val, set_slot, vals_nil, vals_cons, ok_ok, cell_lst, cell_dct, Ex.fresh, if_true, List.length_cons, List.length_nil, Nat.reduceAdd, Nat.reduceLT, Nat.reduceSub, Nat.zero_add, List.any_cons, List.any_nil, isTy, Bool.or_false, and_cons, and_nil, Bool.not_false, List.take_length]
    exact hw
  | bl b =>
    simp only [List.map_cons, List.map_nil, List.cons_append, List.nil_append, List.replicate, evSs, evS, evE.eq_1, evE.eq_2, evE.eq_3, evE.eq_4, evE.eq_5, evE.eq_6, evE.eq_7, evE.eq_8, evE.eq_9, evE.eq_10, evE.eq_11, evE.eq_12, evE.eq_13, evE.eq_14, evE.eq_15, evE.eq_16, evE.eq_17, evE.eq_18, evE.eq_19, evE.eq_20, evE.eq_24, evE.eq_25, evE.eq_26, evE.eq_27, evEs, ok_bnd, List.getElem?_cons_zero, List.getElem?_cons_succ, ok_ret, peek_val, asP_val, ok_some, Option.map_some, idx_lst, idx_tup, at_0, at_1, at_2, cmp_gt, cmp_ge, cmp_lt, cmp_le, tru_bl, bin_add, bin_sub, blt_int, blt_intb, peeks_nil, peeks_cons, List.set_cons_zero, List.set_cons_succ, lv_val, set_slot, vals_nil, vals_cons, ok_ok, cell_lst, cell_dct, Ex.fresh, if_true, List.length_cons, List.length_nil, Nat.reduceAdd, Nat.reduceLT, Nat.reduceSub, Nat.zero_add, List.any_cons, List.any_nil, isTy, Bool.or_false, and_cons, and_nil, Bool.not_true, List.take_length]
    exact hw
  | _ =>
    simp only [List.map_cons, List.map_nil, List.cons_append, List.nil_append, List.replicate, evSs, evS, evE.eq_1, evE.eq_2, evE.eq_3, evE.eq_4, evE.eq_5, evE.eq_6, evE.eq_7, evE.eq_8, evE.eq_9, evE.eq_10, evE.eq_11, evE.eq_12, evE.eq_13, evE.eq_14, evE.eq_15, evE.eq_16, evE.eq_17, evE.eq_18, evE.eq_19, evE.eq_20, evE.eq_24, evE.eq_25, evE.eq_26, evE.eq_27, evEs, ok_bnd, List.getElem?_cons_zero, List.getElem?_cons_succ, ok_ret, peek_val, asP_val, ok_some, Option.map_some, idx_lst, idx_tup, at_0, at_1, at_2, cmp_gt, cmp_ge, cmp_lt, cmp_le, tru_bl, bin_add, bin_sub, blt_int, blt_intb, peeks_nil, peeks_cons, List.set_cons_zero, List.set_cons_succ, lv_val, set_slot, vals_nil, vals_cons, ok_ok, cell_lst, cell_dct, Ex.fresh, if_true, List.length_cons, List.length_nil, Nat.reduceAdd, Nat.reduceLT, Nat.reduceSub, Nat.zero_add, List.any_cons, List.any_nil, isTy, Bool.or_false, and_cons, and_nil, Bool.false_eq_true, if_false, List.take_length]
    exact hw
/-! ### rows that ascend -/
/-- all integers, or all texts -/
def Kin (xs : List P) : Prop := (∀ x ∈ xs, ∃ i, x = .int i) ∨ ∀ x ∈ xs, ∃ s, x = .str s
theorem txt_of (s : Str) : P.str s = txt s.cps.toList := rfl
theorem Kin.lin {xs : List P} (h : Kin xs) : ∃ (A : Type) (f : A → P) (lt : A → A → Bool) (as : List A), Lin f lt ∧ xs = as.map f := by
  rcases h with h | h
  · obtain ⟨as, e⟩ := in_map (f := P.int) fun x hx => by
      obtain ⟨i, e⟩ := h x hx
      exact ⟨i, e.symm⟩
    exact ⟨_, _, _, as, lin_int, e⟩
  · obtain ⟨as, e⟩ := in_map (f := txt) fun x hx => by
      obtain ⟨s, e⟩ := h x hx
      exact ⟨s.cps.toList, by rw [e]; rfl⟩
    exact ⟨_, _, _, as, lin_txt, e⟩
theorem Kin.lts {xs : List P} (h : Kin xs) {x y : P} (hx : x ∈ xs) (hy : y ∈ xs) : cmpP .lt x y = some (x.ltv y) := by
  rcases h with h | h
  · obtain ⟨i, rfl⟩ := h x hx
    obtain ⟨j, rfl⟩ := h y hy
    rfl
  · obtain ⟨i, rfl⟩ := h x hx
    obtain ⟨j, rfl⟩ := h y hy
    rfl
def gAsc : Sts := (.cons (.ret (.blt .all (.cons (.lcm (.cmp .lt (.var 1) (.var 2)) [1, 2] (.cons (.tp [(.nm 1), (.nm 2)]) (.zip (.var 0) (.slc (.var 0) (.yes (.cst (.int 1))) .no)) .nil .nil)) .nil))) .nil)
theorem cut_1 : ∀ {xs : List P}, cutL xs (some 1) none = xs.drop 1
  | [] => rfl
  | x :: xs => by
    have e : ixS (x :: xs).length 0 (some 1) = 1 := by
      show min 1 (xs.length + 1) = 1
      omega
    show ((x :: xs).drop (ixS (x :: xs).length 0 (some 1))).take ((x :: xs).length - ixS (x :: xs).length 0 (some 1)) = _
    rw [e]
    exact List.take_of_length_le (Nat.le_of_eq List.length_drop)
def pairP (z : P × P) : P := .tup [z.1, z.2]
def ltP : P → P
  | .tup [a, b] => .bl (a.ltv b)
  | _ => .non
theorem zip_row {p : P} (h : isRow p = true) : ∃ q, slcP p (some 1) none = some q ∧ zipP p q = some (((rowOf p).zip ((rowOf p).drop 1)).map pairP) := by
  cases p with
  | tup xs => exact ⟨_, rfl, by rw [cut_1]; rfl⟩
  | lst xs => exact ⟨_, rfl, by rw [cut_1]; rfl⟩
  | _ => exact absurd h Bool.false_ne_true
theorem asc_ok {T : Tab} {f k : Nat} {p : P} {st : Sto} {W : Sl → Sto → Prop} (hf : T.fns[f]? = some ⟨1, 3, gAsc⟩) (hr : isRow p = true) (hk : Kin (rowOf p)) (hl : (rowOf p).length ≤ 100000) (hw : W (.val (.bl (ascB (rowOf p)))) st) : Ok (run T (k + 1) f [.val p] st) W := by
  refine ok_run hf rfl (by decide) ?_
  unfold gAsc
  obtain ⟨q, e1, e2⟩ := zip_row hr
  simp only [List.map_cons, List.map_nil, List.cons_append, List.nil_append, List.replicate, evSs, evS, evE.eq_1, evE.eq_2, evE.eq_3, evE.eq_4, evE.eq_5, evE.eq_6, evE.eq_7, evE.eq_8, evE.eq_9, evE.eq_10, evE.eq_11, evE.eq_12, evE.eq_13, evE.eq_14, evE.eq_15, evE.eq_16, evE.eq_17, evE.eq_18, evE.eq_19, evE.eq_20, evE.eq_24, evE.eq_25, evE.eq_26, evE.eq_27, evEs, ok_bnd, List.getElem?_cons_zero, List.getElem?_cons_succ, ok_ret, peek_val, asP_val, ok_some, Option.map_some, idx_lst, idx_tup, at_0, at_1, at_2, cmp_gt, cmp_ge, cmp_lt, cmp_le, tru_bl, bin_add, bin_sub, blt_int, blt_intb, peeks_nil, peeks_cons, List.set_cons_zero, List.set_cons_succ, lv_val, set_slot, vals_nil, vals_cons, ok_ok, cell_lst, cell_dct, Ex.fresh, if_true, List.length_cons, List.length_nil, Nat.reduceAdd, Nat.reduceLT, Nat.reduceSub, Nat.zero_add]
  refine map_pat (env := [some (.val p), none, none]) (g := ltP) (xs := ((rowOf p).zip ((rowOf p).drop 1)).map pairP) rfl ?_ ?_ (fun x hx => ?_) ?_
  · rw [evI]
    simp only [List.map_cons, List.map_nil, List.cons_append, List.nil_append, List.replicate, evSs, evS, evE.eq_1, evE.eq_2, evE.eq_3, evE.eq_4, evE.eq_5, evE.eq_6, evE.eq_7, evE.eq_8, evE.eq_9, evE.eq_10, evE.eq_11, evE.eq_12, evE.eq_13, evE.eq_14, evE.eq_15, evE.eq_16, evE.eq_17, evE.eq_18, evE.eq_19, evE.eq_20, evE.eq_24, evE.eq_25, evE.eq_26, evE.eq_27, evEs, ok_bnd, List.getElem?_cons_zero, List.getElem?_cons_succ, ok_ret, peek_val, asP_val, ok_some, Option.map_some, idx_lst, idx_tup, at_0, at_1, at_2, cmp_gt, cmp_ge, cmp_lt, cmp_le, tru_bl, bin_add, bin_sub, blt_int, blt_intb, peeks_nil, peeks_cons, List.set_cons_zero, List.set_cons_succ, lv_val, set_slot, vals_nil, vals_cons, ok_ok, cell_lst, cell_dct, Ex.fresh, if_true, List.length_cons, List.length_nil, Nat.reduceAdd, Nat.reduceLT, Nat.reduceSub, Nat.zero_add, evO, ixOf, e1, e2]
    exact ⟨trivial, trivial⟩
  · rw [List.length_map, List.length_zip]
    omega
  · obtain ⟨⟨a, b⟩, hz, rfl⟩ := List.mem_map.mp hx
    have hab := List.of_mem_zip hz
    refine ⟨[some (.val p), some (.val a), some (.val b)], rfl, ?_⟩
    simp only [List.map_cons, List.map_nil, List.cons_append, List.nil_append, List.replicate, evSs, evS, evE.eq_1, evE.eq_2, evE.eq_3, evE.eq_4, evE.eq_5, evE.eq_6, evE.eq_7, evE.eq_8, evE.eq_9, evE.eq_10, evE.eq_11, evE.eq_12, evE.eq_13, evE.eq_14, evE.eq_15, evE.eq_16, evE.eq_17, evE.eq_18, evE.eq_19, evE.eq_20, evE.eq_24, evE.eq_25, evE.eq_26, evE.eq_27, evEs, ok_bnd, List.getElem?_cons_zero, List.getElem?_cons_succ, ok_ret, peek_val, asP_val, ok_some, Option.map_some, idx_lst, idx_tup, at_0, at_1, at_2, cmp_gt, cmp_ge, cmp_lt, cmp_le, tru_bl, bin_add, bin_sub, blt_int, blt_intb, peeks_nil, peeks_cons, List.set_cons_zero, List.set_cons_succ, lv_val, set_slot, vals_nil, vals_cons, ok_ok, cell_lst, cell_dct, Ex.fresh, if_true, List.length_cons, List.length_nil, Nat.reduceAdd, Nat.reduceLT, Nat.reduceSub, Nat.zero_add, hk.lts hab.1 (List.mem_of_mem_drop hab.2)]
    exact ⟨rfl, trivial⟩
  · have e : (((rowOf p).zip ((rowOf p).drop 1)).map pairP).map ltP = ((rowOf p).zip ((rowOf p).drop 1)).map fun z => P.bl (z.1.ltv z.2) := by
      rw [List.map_map]
      rfl
    have e2 : ∀ zs : List (P × P), bltP .all [.lst (zs.map fun z => P.bl (z.1.ltv z.2))] = some (.bl (zs.all fun z => z.1.ltv z.2)) := fun zs => by
      show (boolsP _).map _ = _
      have : boolsP (zs.map fun z => P.bl (z.1.ltv z.2)) = some (zs.map fun z => z.1.ltv z.2) := by
        induction zs with
        | nil => rfl
        | cons z zs ih =>
          show (boolsP (zs.map fun z => P.bl (z.1.ltv z.2))).map (z.1.ltv z.2 :: ·) = _
          rw [ih]
          rfl
      rw [this]
      show some (P.bl ((zs.map _).all id)) = _
      rw [List.all_map]
      rfl
    rw [e]
    simp only [List.map_cons, List.map_nil, List.cons_append, List.nil_append, List.replicate, evSs, evS, evE.eq_1, evE.eq_2, evE.eq_3, evE.eq_4, evE.eq_5, evE.eq_6, evE.eq_7, evE.eq_8, evE.eq_9, evE.eq_10, evE.eq_11, evE.eq_12, evE.eq_13, evE.eq_14, evE.eq_15, evE.eq_16, evE.eq_17, evE.eq_18, evE.eq_19, evE.eq_20, evE.eq_24, evE.eq_25, evE.eq_26, evE.eq_27, evEs, ok_bnd, List.getElem?_cons_zero, List.getElem?_cons_succ, ok_ret, peek_val, asP_val, ok_some, Option.map_some, idx_lst, idx_tup, at_0, at_1, at_2, cmp_gt, cmp_ge, cmp_lt, cmp_le, tru_bl, bin_add, bin_sub, blt_int, blt_intb, peeks_nil, peeks_cons, List.set_cons_zero, List.set_cons_succ, lv_val, set_slot, vals_nil, vals_cons, ok_ok, cell_lst, cell_dct, Ex.fresh, if_true, List.length_cons, List.length_nil, Nat.reduceAdd, Nat.reduceLT, Nat.reduceSub, Nat.zero_add, e2, List.take_length]
    exact hw
end Fy

/-! Pl19: a loop that says no at the first bad thing; cells; markings. -/
namespace Fy
open PySem (Str)
theorem all_range {m : Nat} {ok : Nat → Bool} : (List.range (m + 1)).all ok = ((List.range m).all ok && ok m) := by
  rw [List.range_succ, List.all_append, List.all_cons, List.all_nil, Bool.and_true]
theorem guard_loop {f : P → Env → M (Flow × Env)} {W : Flow × Env → Sto → Prop} {xs : List P} {env : Env} {st : Sto} (ok : Nat → Bool) (I : Nat → Env → Sto → Prop) (D : Env → Sto → Prop) (h0 : I 0 env st)
    (hs : ∀ j x e t, xs[j]? = some x → (List.range j).all ok = true → I j e t → Ok (f x e t) (fun r u => match r.1 with | .nx => ok j = true ∧ I (j + 1) r.2 u | .rt v => ok j = false ∧ v = .val (.bl false) ∧ D r.2 u | _ => False))
    (hw : ∀ e t, (List.range xs.length).all ok = true → I xs.length e t → W (.nx, e) t) (hf : ∀ e t, (List.range xs.length).all ok = false → D e t → W (.rt (.val (.bl false)), e) t) : Ok (loopP f xs env st) W := by
  refine loop_ok (fun j e t => (List.range j).all ok = true ∧ I j e t) ⟨rfl, h0⟩ (fun j x e t hj ⟨h1, h2⟩ => ?_) fun e t ⟨h1, h2⟩ => hw e t h1 h2
  refine (hs j x e t hj h1 h2).imp fun r u h => ?_
  obtain ⟨fl, env'⟩ := r
  cases fl with
  | nx => exact ⟨by rw [all_range, h1, h.1]; rfl, h.2⟩
  | rt v =>
    obtain ⟨h3, rfl, h4⟩ := h
    refine hf _ _ ?_ h4
    rw [List.all_eq_false]
    exact ⟨j, List.mem_range.mpr (lt_of_some hj), by rw [h3]; exact Bool.false_ne_true⟩
  | bk => exact h.elim
  | ct => exact h.elim
theorem all_at {xs : List P} (g : P → Bool) : (List.range xs.length).all (fun j => g (xs.getD j .non)) = xs.all g := by
  (rw [Bool.eq_iff_iff, List.all_eq_true, List.all_eq_true])
  refine ⟨fun h x hx => ?_, fun h j hj => ?_⟩
  · obtain ⟨j, hj⟩ := List.getElem?_of_mem hx
    have z := h j (List.mem_range.mpr (lt_of_some hj))
    rw [List.getD_eq_getElem?_getD, hj] at z
    exact z
  · have lj := List.mem_range.mp hj
    rw [List.getD_eq_getElem?_getD, List.getElem?_eq_getElem lj]
    exact h _ (List.getElem_mem lj)
theorem getD_at {xs : List P} {j : Nat} {x : P} (h : xs[j]? = some x) : xs.getD j .non = x := by
  rw [List.getD_eq_getElem?_getD, h]
  rfl
def isTupB : P → Bool
  | .tup _ => true
  | _ => false
theorem ty_tupB (p : P) : isTy .tup p = isTupB p := by cases p <;> rfl
theorem ne_int {i j : Int} : cmpP .ne (.int i) (.int j) = some (!(i == j)) := rfl
theorem itm_tup {xs : List P} : itemsP (.tup xs) = some xs := rfl
theorem itm_lst {xs : List P} : itemsP (.lst xs) = some xs := rfl
theorem ne_nils {xs : List P} (h : P.flats xs = true) : cmpP .ne (.lst xs) (.lst []) = some (!xs.isEmpty) := by
  show (cmpP .eq (.lst xs) (.lst [])).map (!·) = _
  rw [eq_nils h]
  rfl
/-! ### cells -/
def cellB : P → Bool
  | .int i => decide (0 ≤ i) && decide (i ≤ 1000000)
  | _ => false
def clsP : P → Bool
  | .tup xs => decide (1 ≤ xs.length) && (decide (xs.length ≤ 16) && (xs.all cellB && ascB xs))
  | _ => false
theorem cls_tup {xs : List P} : clsP (.tup xs) = (decide (1 ≤ xs.length) && (decide (xs.length ≤ 16) && (xs.all cellB && ascB xs))) := rfl
theorem cell_int {x : P} (h : cellB x = true) : ∃ i, x = .int i := by
  cases x with
  | int i => exact ⟨i, rfl⟩
  | _ => exact absurd h Bool.false_ne_true
theorem cells_kin {xs : List P} (h : xs.all cellB = true) : Kin xs := .inl fun x hx => cell_int (List.all_eq_true.mp h x hx)
/-- are_cells: w is_integer, a ascends; the greatest is constant 1 -/
def gCells (w a : Nat) : Sts := (.cons (.ite (.or (.not (.isi (.var 0) [.tup] false)) (.cons (.not (.cmp2 .le .le (.cst (.int 1)) (.blt .len (.cons (.var 0) .nil)) (.cst (.int 16)))) .nil)) (.cons (.ret (.cst (.bl false))) .nil) .nil) (.cons (.ret (.and (.blt .all (.cons (.lcm (.and (.cal w (.cons (.var 1) .nil)) (.cons (.cmp2 .le .le (.cst (.int 0)) (.var 1) (.glo 1)) .nil)) [1] (.cons (.nm 1) (.val (.var 0)) .nil .nil)) .nil)) (.cons (.cal a (.cons (.var 0) .nil)) .nil))) .nil))
section
variable {T : Tab} {w a f : Nat}
theorem cells_ok (hf : T.fns[f]? = some ⟨1, 2, gCells w a⟩) (hw : T.fns[w]? = some ⟨1, 1, gWhole⟩) (ha : T.fns[a]? = some ⟨1, 3, gAsc⟩) (hg : T.glo[1]? = some (.int 1000000)) {k : Nat} {p : P} {st : Sto} {W : Sl → Sto → Prop} (hq : W (.val (.bl (clsP p))) st) : Ok (run T (k + 2) f [.val p] st) W := by
  refine ok_run hf rfl (by decide) ?_
  unfold gCells
  have no : clsP p = false → W (.val (.bl false)) st := fun e => by
    rw [← e]
    exact hq
  cases p with
  | tup xs =>
    simp only [List.map_cons, List.map_nil, List.cons_append, List.nil_append, List.replicate, evSs, evS, evE.eq_1, evE.eq_2, evE.eq_3, evE.eq_4, evE.eq_5, evE.eq_6, evE.eq_7, evE.eq_8, evE.eq_9, evE.eq_10, evE.eq_11, evE.eq_12, evE.eq_13, evE.eq_14, evE.eq_15, evE.eq_16, evE.eq_17, evE.eq_18, evE.eq_19, evE.eq_20, evE.eq_24, evE.eq_25, evE.eq_26, evE.eq_27, evEs, ok_bnd, List.getElem?_cons_zero, List.getElem?_cons_succ, ok_ret, peek_val, asP_val, ok_some, Option.map_some, idx_lst, idx_tup, at_0, at_1, at_2, cmp_gt, cmp_ge, cmp_lt, cmp_le, tru_bl, bin_add, bin_sub, blt_int, blt_intb, peeks_nil, peeks_cons, List.set_cons_zero, List.set_cons_succ, lv_val, set_slot, vals_nil, vals_cons, ok_ok, cell_lst, cell_dct, Ex.fresh, if_true, List.length_cons, List.length_nil, Nat.reduceAdd, Nat.reduceLT, Nat.reduceSub, Nat.zero_add, List.any_cons, List.any_nil, Bool.or_false, ty_tupB, isTupB, Bool.not_true, or_cons, or_nil, Bool.false_eq_true, if_false, len_tup]
    by_cases h1 : (1 : Int) ≤ (xs.length : Nat)
    · by_cases h2 : ((xs.length : Nat) : Int) ≤ 16
      · have ec : clsP (.tup xs) = (xs.all cellB && ascB xs) := by
          rw [cls_tup, decide_eq_true (by omega), decide_eq_true (by omega)]
          rfl
        simp only [List.map_cons, List.map_nil, List.cons_append, List.nil_append, List.replicate, evSs, evS, evE.eq_1, evE.eq_2, evE.eq_3, evE.eq_4, evE.eq_5, evE.eq_6, evE.eq_7, evE.eq_8, evE.eq_9, evE.eq_10, evE.eq_11, evE.eq_12, evE.eq_13, evE.eq_14, evE.eq_15, evE.eq_16, evE.eq_17, evE.eq_18, evE.eq_19, evE.eq_20, evE.eq_24, evE.eq_25, evE.eq_26, evE.eq_27, evEs, ok_bnd, List.getElem?_cons_zero, List.getElem?_cons_succ, ok_ret, peek_val, asP_val, ok_some, Option.map_some, idx_lst, idx_tup, at_0, at_1, at_2, cmp_gt, cmp_ge, cmp_lt, cmp_le, tru_bl, bin_add, bin_sub, blt_int, blt_intb, peeks_nil, peeks_cons, List.set_cons_zero, List.set_cons_succ, lv_val, set_slot, vals_nil, vals_cons, ok_ok, cell_lst, cell_dct, Ex.fresh, if_true, List.length_cons, List.length_nil, Nat.reduceAdd, Nat.reduceLT, Nat.reduceSub, Nat.zero_add, decide_eq_true h1, decide_eq_true h2, Bool.not_true, Bool.false_eq_true, if_false]
        refine map_ok (env := [some (.val (.tup xs)), none]) (g := fun s => .bl (cellB s)) (xs := xs) (Nat.lt_succ_self 1) rfl ⟨rfl, rfl⟩ (by omega) (fun s hm => ?_) ?_
        · simp only [List.map_cons, List.map_nil, List.cons_append, List.nil_append, List.replicate, evSs, evS, evE.eq_1, evE.eq_2, evE.eq_3, evE.eq_4, evE.eq_5, evE.eq_6, evE.eq_7, evE.eq_8, evE.eq_9, evE.eq_10, evE.eq_11, evE.eq_12, evE.eq_13, evE.eq_14, evE.eq_15, evE.eq_16, evE.eq_17, evE.eq_18, evE.eq_19, evE.eq_20, evE.eq_24, evE.eq_25, evE.eq_26, evE.eq_27, evEs, ok_bnd, List.getElem?_cons_zero, List.getElem?_cons_succ, ok_ret, peek_val, asP_val, ok_some, Option.map_some, idx_lst, idx_tup, at_0, at_1, at_2, cmp_gt, cmp_ge, cmp_lt, cmp_le, tru_bl, bin_add, bin_sub, blt_int, blt_intb, peeks_nil, peeks_cons, List.set_cons_zero, List.set_cons_succ, lv_val, set_slot, vals_nil, vals_cons, ok_ok, cell_lst, cell_dct, Ex.fresh, if_true, List.length_cons, List.length_nil, Nat.reduceAdd, Nat.reduceLT, Nat.reduceSub, Nat.zero_add, wipeE]
          refine whole_ok (k := k) hw ?_
          cases s with
          | int i =>
            simp only [List.map_cons, List.map_nil, List.cons_append, List.nil_append, List.replicate, evSs, evS, evE.eq_1, evE.eq_2, evE.eq_3, evE.eq_4, evE.eq_5, evE.eq_6, evE.eq_7, evE.eq_8, evE.eq_9, evE.eq_10, evE.eq_11, evE.eq_12, evE.eq_13, evE.eq_14, evE.eq_15, evE.eq_16, evE.eq_17, evE.eq_18, evE.eq_19, evE.eq_20, evE.eq_24, evE.eq_25, evE.eq_26, evE.eq_27, evEs, ok_bnd, List.getElem?_cons_zero, List.getElem?_cons_succ, ok_ret, peek_val, asP_val, ok_some, Option.map_some, idx_lst, idx_tup, at_0, at_1, at_2, cmp_gt, cmp_ge, cmp_lt, cmp_le, tru_bl, bin_add, bin_sub, blt_int, blt_intb, peeks_nil, peeks_cons, List.set_cons_zero, List.set_cons_succ, lv_val, set_slot, vals_nil, vals_cons, ok_ok, cell_lst, cell_dct, Ex.fresh, if_true, List.length_cons, List.length_nil, Nat.reduceAdd, Nat.reduceLT, Nat.reduceSub, Nat.zero_add, wholeP, and_cons, hg]
            by_cases h3 : (0 : Int) ≤ i
            · simp only [List.map_cons, List.map_nil, List.cons_append, List.nil_append, List.replicate, evSs, evS, evE.eq_1, evE.eq_2, evE.eq_3, evE.eq_4, evE.eq_5, evE.eq_6, evE.eq_7, evE.eq_8, evE.eq_9, evE.eq_10, evE.eq_11, evE.eq_12, evE.eq_13, evE.eq_14, evE.eq_15, evE.eq_16, evE.eq_17, evE.eq_18, evE.eq_19, evE.eq_20, evE.eq_24, evE.eq_25, evE.eq_26, evE.eq_27, evEs, ok_bnd, List.getElem?_cons_zero, List.getElem?_cons_succ, ok_ret, peek_val, asP_val, ok_some, Option.map_some, idx_lst, idx_tup, at_0, at_1, at_2, cmp_gt, cmp_ge, cmp_lt, cmp_le, tru_bl, bin_add, bin_sub, blt_int, blt_intb, peeks_nil, peeks_cons, List.set_cons_zero, List.set_cons_succ, lv_val, set_slot, vals_nil, vals_cons, ok_ok, cell_lst, cell_dct, Ex.fresh, if_true, List.length_cons, List.length_nil, Nat.reduceAdd, Nat.reduceLT, Nat.reduceSub, Nat.zero_add, decide_eq_true h3, and_nil]
              exact ⟨by show _ = Sl.val (.bl (decide (0 ≤ i) && decide (i ≤ 1000000))); rw [decide_eq_true h3]; rfl, trivial⟩
            · simp only [List.map_cons, List.map_nil, List.cons_append, List.nil_append, List.replicate, evSs, evS, evE.eq_1, evE.eq_2, evE.eq_3, evE.eq_4, evE.eq_5, evE.eq_6, evE.eq_7, evE.eq_8, evE.eq_9, evE.eq_10, evE.eq_11, evE.eq_12, evE.eq_13, evE.eq_14, evE.eq_15, evE.eq_16, evE.eq_17, evE.eq_18, evE.eq_19, evE.eq_20, evE.eq_24, evE.eq_25, evE.eq_26, evE.eq_27, evEs, ok_bnd, List.getElem?_cons_zero, List.getElem?_cons_succ, ok_ret, peek_val, asP_val, ok_some, Option.map_some, idx_lst, idx_tup, at_0, at_1, at_2, cmp_gt, cmp_ge, cmp_lt, cmp_le, tru_bl, bin_add, bin_sub, blt_int, blt_intb, peeks_nil, peeks_cons, List.set_cons_zero, List.set_cons_succ, lv_val, set_slot, vals_nil, vals_cons, ok_ok, cell_lst, cell_dct, Ex.fresh, if_true, List.length_cons, List.length_nil, Nat.reduceAdd, Nat.reduceLT, Nat.reduceSub, Nat.zero_add, decide_eq_false h3, and_nil, Bool.false_eq_true, if_false]
              exact ⟨by show _ = Sl.val (.bl (decide (0 ≤ i) && decide (i ≤ 1000000))); rw [decide_eq_false h3]; rfl, trivial⟩
          | _ =>
            simp only [List.map_cons, List.map_nil, List.cons_append, List.nil_append, List.replicate, evSs, evS, evE.eq_1, evE.eq_2, evE.eq_3, evE.eq_4, evE.eq_5, evE.eq_6, evE.eq_7, evE.eq_8, evE.eq_9, evE.eq_10, evE.eq_11, evE.eq_12, evE.eq_13, evE.eq_14, evE.eq_15, evE.eq_16, evE.eq_17, evE.eq_18, evE.eq_19, evE.eq_20, evE.eq_24, evE.eq_25, evE.eq_26, evE.eq_27, evEs, ok_bnd, List.getElem?_cons_zero, List.getElem?_cons_succ, ok_ret, peek_val, asP_val, ok_some, Option.map_some, idx_lst, idx_tup, at_0, at_1, at_2, cmp_gt, cmp_ge, cmp_lt, cmp_le, tru_bl, bin_add, bin_sub, blt_int, blt_intb, peeks_nil, peeks_cons, List.set_cons_zero, List.set_cons_succ, lv_val, set_slot, vals_nil, vals_cons, ok_ok, cell_lst, cell_dct, Ex.fresh, if_true, List.length_cons, List.length_nil, Nat.reduceAdd, Nat.reduceLT, Nat.reduceSub, Nat.zero_add, wholeP, and_cons, Bool.false_eq_true, if_false]
            exact ⟨rfl, trivial⟩
        · simp only [List.map_cons, List.map_nil, List.cons_append, List.nil_append, List.replicate, evSs, evS, evE.eq_1, evE.eq_2, evE.eq_3, evE.eq_4, evE.eq_5, evE.eq_6, evE.eq_7, evE.eq_8, evE.eq_9, evE.eq_10, evE.eq_11, evE.eq_12, evE.eq_13, evE.eq_14, evE.eq_15, evE.eq_16, evE.eq_17, evE.eq_18, evE.eq_19, evE.eq_20, evE.eq_24, evE.eq_25, evE.eq_26, evE.eq_27, evEs, ok_bnd, List.getElem?_cons_zero, List.getElem?_cons_succ, ok_ret, peek_val, asP_val, ok_some, Option.map_some, idx_lst, idx_tup, at_0, at_1, at_2, cmp_gt, cmp_ge, cmp_lt, cmp_le, tru_bl, bin_add, bin_sub, blt_int, blt_intb, peeks_nil, peeks_cons, List.set_cons_zero, List.set_cons_succ, lv_val, set_slot, vals_nil, vals_cons, ok_ok, cell_lst, cell_dct, Ex.fresh, if_true, List.length_cons, List.length_nil, Nat.reduceAdd, Nat.reduceLT, Nat.reduceSub, Nat.zero_add, all_map, and_cons, and_nil, List.take_length]
          cases h5 : xs.all cellB with
          | true =>
            simp only [List.map_cons, List.map_nil, List.cons_append, List.nil_append, List.replicate, evSs, evS, evE.eq_1, evE.eq_2, evE.eq_3, evE.eq_4, evE.eq_5, evE.eq_6, evE.eq_7, evE.eq_8, evE.eq_9, evE.eq_10, evE.eq_11, evE.eq_12, evE.eq_13, evE.eq_14, evE.eq_15, evE.eq_16, evE.eq_17, evE.eq_18, evE.eq_19, evE.eq_20, evE.eq_24, evE.eq_25, evE.eq_26, evE.eq_27, evEs, ok_bnd, List.getElem?_cons_zero, List.getElem?_cons_succ, ok_ret, peek_val, asP_val, ok_some, Option.map_some, idx_lst, idx_tup, at_0, at_1, at_2, cmp_gt, cmp_ge, cmp_lt, cmp_le, tru_bl, bin_add, bin_sub, blt_int, blt_intb, peeks_nil, peeks_cons, List.set_cons_zero, List.set_cons_succ, lv_val, set_slot, vals_nil, vals_cons, ok_ok, cell_lst, cell_dct, Ex.fresh, if_true, List.length_cons, List.length_nil, Nat.reduceAdd, Nat.reduceLT, Nat.reduceSub, Nat.zero_add]
            refine asc_ok (k := k) ha rfl (cells_kin h5) (by show xs.length ≤ 100000; omega) ?_
            simp only [List.map_cons, List.map_nil, List.cons_append, List.nil_append, List.replicate, evSs, evS, evE.eq_1, evE.eq_2, evE.eq_3, evE.eq_4, evE.eq_5, evE.eq_6, evE.eq_7, evE.eq_8, evE.eq_9, evE.eq_10, evE.eq_11, evE.eq_12, evE.eq_13, evE.eq_14, evE.eq_15, evE.eq_16, evE.eq_17, evE.eq_18, evE.eq_19, evE.eq_20, evE.eq_24, evE.eq_25, evE.eq_26, evE.eq_27, evEs, ok_bnd, List.getElem?_cons_zero, List.getElem?_cons_succ, ok_ret, peek_val, asP_val, ok_some, Option.map_some, idx_lst, idx_tup, at_0, at_1, at_2, cmp_gt, cmp_ge, cmp_lt, cmp_le, tru_bl, bin_add, bin_sub, blt_int, blt_intb, peeks_nil, peeks_cons, List.set_cons_zero, List.set_cons_succ, lv_val, set_slot, vals_nil, vals_cons, ok_ok, cell_lst, cell_dct, Ex.fresh, if_true, List.length_cons, List.length_nil, Nat.reduceAdd, Nat.reduceLT, Nat.reduceSub, Nat.zero_add, List.take_length]
            rw [ec, h5] at hq
            exact hq
          | false =>
            simp only [List.map_cons, List.map_nil, List.cons_append, List.nil_append, List.replicate, evSs, evS, evE.eq_1, evE.eq_2, evE.eq_3, evE.eq_4, evE.eq_5, evE.eq_6, evE.eq_7, evE.eq_8, evE.eq_9, evE.eq_10, evE.eq_11, evE.eq_12, evE.eq_13, evE.eq_14, evE.eq_15, evE.eq_16, evE.eq_17, evE.eq_18, evE.eq_19, evE.eq_20, evE.eq_24, evE.eq_25, evE.eq_26, evE.eq_27, evEs, ok_bnd, List.getElem?_cons_zero, List.getElem?_cons_succ, ok_ret, peek_val, asP_val, ok_some, Option.map_some, idx_lst, idx_tup, at_0, at_1, at_2, cmp_gt, cmp_ge, cmp_lt, cmp_le, tru_bl, bin_add, bin_sub, blt_int, blt_intb, peeks_nil, peeks_cons, List.set_cons_zero, List.set_cons_succ, lv_val, set_slot, vals_nil, vals_cons, ok_ok, cell_lst, cell_dct, Ex.fresh, if_true, List.length_cons, List.length_nil, Nat.reduceAdd, Nat.reduceLT, Nat.reduceSub, Nat.zero_add, Bool.false_eq_true, if_false, List.take_length]
            exact no (by rw [ec, h5]; rfl)
      · simp only [List.map_cons, List.map_nil, List.cons_append, List.nil_append, List.replicate, evSs, evS, evE.eq_1, evE.eq_2, evE.eq_3, evE.eq_4, evE.eq_5, evE.eq_6, evE.eq_7, evE.eq_8, evE.eq_9, evE.eq_10, evE.eq_11, evE.eq_12, evE.eq_13, evE.eq_14, evE.eq_15, evE.eq_16, evE.eq_17, evE.eq_18, evE.eq_19, evE.eq_20, evE.eq_24, evE.eq_25, evE.eq_26, evE.eq_27, evEs, ok_bnd, List.getElem?_cons_zero, List.getElem?_cons_succ, ok_ret, peek_val, asP_val, ok_some, Option.map_some, idx_lst, idx_tup, at_0, at_1, at_2, cmp_gt, cmp_ge, cmp_lt, cmp_le, tru_bl, bin_add, bin_sub, blt_int, blt_intb, peeks_nil, peeks_cons, List.set_cons_zero, List.set_cons_succ, lv_val, set_slot, vals_nil, vals_cons, ok_ok, cell_lst, cell_dct, Ex.fresh, if_true, List.length_cons, List.length_nil, Nat.reduceAdd, Nat.reduceLT, Nat.reduceSub, Nat.zero_add, decide_eq_true h1, decide_eq_false h2, Bool.not_false, List.take_length]
        exact no (by rw [cls_tup, decide_eq_false (show ¬ xs.length ≤ 16 by omega), Bool.false_and, Bool.and_false])
    · simp only [List.map_cons, List.map_nil, List.cons_append, List.nil_append, List.replicate, evSs, evS, evE.eq_1, evE.eq_2, evE.eq_3, evE.eq_4, evE.eq_5, evE.eq_6, evE.eq_7, evE.eq_8, evE.eq_9, evE.eq_10, evE.eq_11, evE.eq_12, evE.eq_13, evE.eq_14, evE.eq_15, evE.eq_16, evE.eq_17, evE.eq_18, evE.eq_19, evE.eq_20, evE.eq_24, evE.eq_25, evE.eq_26, evE.eq_27, evEs, ok_bnd, List.getElem?_cons_zero, List.getElem?_cons_succ, ok_ret, peek_val, asP_val, ok_some, Option.map_some, idx_lst, idx_tup, at_0, at_1, at_2, cmp_gt, cmp_ge, cmp_lt, cmp_le, tru_bl, bin_add, bin_sub, blt_int, blt_intb, peeks_nil, peeks_cons, List.set_cons_zero, List.set_cons_succ, lv_val, set_slot, vals_nil, vals_cons, ok_ok, cell_lst, cell_dct, Ex.fresh, if_true, List.length_cons, List.length_nil, Nat.reduceAdd, Nat.reduceLT, Nat.reduceSub, Nat.zero_add, decide_eq_false h1, Bool.not_false, Bool.false_eq_true, if_false, List.take_length]
      exact no (by rw [cls_tup, decide_eq_false (show ¬ 1 ≤ xs.length by omega), Bool.false_and])
  | _ =>
    simp only [List.map_cons, List.map_nil, List.cons_append, List.nil_append, List.replicate, evSs, evS, evE.eq_1, evE.eq_2, evE.eq_3, evE.eq_4, evE.eq_5, evE.eq_6, evE.eq_7, evE.eq_8, evE.eq_9, evE.eq_10, evE.eq_11, evE.eq_12, evE.eq_13, evE.eq_14, evE.eq_15, evE.eq_16, evE.eq_17, evE.eq_18, evE.eq_19, evE.eq_20, evE.eq_24, evE.eq_25, evE.eq_26, evE.eq_27, evEs, ok_bnd, List.getElem?_cons_zero, List.getElem?_cons_succ, ok_ret, peek_val, asP_val, ok_some, Option.map_some, idx_lst, idx_tup, at_0, at_1, at_2, cmp_gt, cmp_ge, cmp_lt, cmp_le, tru_bl, bin_add, bin_sub, blt_int, blt_intb, peeks_nil, peeks_cons, List.set_cons_zero, List.set_cons_succ, lv_val, set_slot, vals_nil, vals_cons, ok_ok, cell_lst, cell_dct, Ex.fresh, if_true, List.length_cons, List.length_nil, Nat.reduceAdd, Nat.reduceLT, Nat.reduceSub, Nat.zero_add, List.any_cons, List.any_nil, Bool.or_false, ty_tupB, isTupB, Bool.not_false, or_cons, List.take_length]
    exact no rfl
theorem eq_lsts {xs ys : List P} (hx : ∀ x ∈ xs, x.flat = true) (hy : ∀ y ∈ ys, y.flat = true) (hd : ∀ x ∈ xs, x.depth = 0) : cmpP .eq (.lst xs) (.lst ys) = some (P.eqvs xs ys) := by
  show (if P.flats xs && P.flats ys && decide (min (P.lst xs).depth (P.lst ys).depth ≤ depthMost) then some _ else none) = _
  have e : decide (min (P.lst xs).depth (P.lst ys).depth ≤ depthMost) = true := decide_eq_true (Nat.le_trans (Nat.min_le_left _ _) (by
    show P.depths xs + 1 ≤ 60
    have := depths_all (d := 0) (xs := xs) fun x hx => Nat.le_of_eq (hd x hx)
    omega))
  rw [flats_all hx, flats_all hy, e]
  rfl
theorem Kin.flat {xs : List P} (h : Kin xs) : ∀ x ∈ xs, x.flat = true := fun x hx => by
  rcases h with h | h
  · obtain ⟨i, rfl⟩ := h x hx
    rfl
  · obtain ⟨i, rfl⟩ := h x hx
    rfl
theorem Kin.dep {xs : List P} (h : Kin xs) : ∀ x ∈ xs, x.depth = 0 := fun x hx => by
  rcases h with h | h
  · obtain ⟨i, rfl⟩ := h x hx
    rfl
  · obtain ⟨i, rfl⟩ := h x hx
    rfl
theorem Kin.sorted {xs : List P} (h : Kin xs) : cmpP .eq (.lst xs) (.lst (sortL (uniq xs))) = some (ascB xs) := by
  have key : (∀ y ∈ sortL (uniq xs), y.flat = true) ∧ P.eqvs xs (sortL (uniq xs)) = ascB xs := by
    obtain ⟨A, g, lt, as, l, e⟩ := h.lin
    refine ⟨fun y hy => ?_, by rw [e]; exact asc_sorted l as⟩
    have hy : y ∈ uniq xs := (List.mergeSort_perm _ _).mem_iff.mp hy
    rw [e] at hy
    exact h.flat y (by rw [e]; exact (uniq_has (keys_map l) y).mp hy)
  rw [eq_lsts h.flat key.1 h.dep, key.2]
theorem Kin.can {xs : List P} (h : Kin xs) (hl : xs.length < 4000) : (allKeys xs && canSort (uniq xs)) = true := by
  obtain ⟨A, g, lt, as, l, e⟩ := h.lin
  rw [e] at hl ⊢
  rw [List.length_map] at hl
  exact can_map l hl
theorem row_lst {xs : List P} : rowP (.lst xs) = some xs := rfl
theorem row_tup {xs : List P} : rowP (.tup xs) = some xs := rfl
/-- the law's cells -/
def gLCells (w : Nat) : Sts := (.cons (.ite (.or (.not (.isi (.var 0) [.tup] false)) (.cons (.not (.cmp2 .le .le (.cst (.int 1)) (.blt .len (.cons (.var 0) .nil)) (.cst (.int 16)))) .nil)) (.cons (.ret (.cst (.bl false))) .nil) .nil) (.cons (.ite (.cmp .ne (.lcm (.var 1) [1] (.cons (.nm 1) (.val (.var 0)) (.cons (.or (.not (.cal w (.cons (.var 1) .nil))) (.cons (.not (.cmp2 .le .le (.cst (.int 0)) (.var 1) (.cst (.int 1000000)))) .nil)) .nil) .nil)) (.lst .nil)) (.cons (.ret (.cst (.bl false))) .nil) .nil) (.cons (.ret (.cmp .eq (.blt .lst (.cons (.var 0) .nil)) (.sst (.var 0)))) .nil)))
theorem lcells_ok (hf : T.fns[f]? = some ⟨1, 2, gLCells w⟩) (hw : T.fns[w]? = some ⟨1, 1, gWhole⟩) {k : Nat} {p : P} {st : Sto} {W : Sl → Sto → Prop} (hfl : p.flat = true) (hq : W (.val (.bl (clsP p))) st) : Ok (run T (k + 2) f [.val p] st) W := by
  refine ok_run hf rfl (by decide) ?_
  unfold gLCells
  have no : clsP p = false → W (.val (.bl false)) st := fun e => by
    rw [← e]
    exact hq
  cases p with
  | tup xs =>
    simp only [List.map_cons, List.map_nil, List.cons_append, List.nil_append, List.replicate, evSs, evS, evE.eq_1, evE.eq_2, evE.eq_3, evE.eq_4, evE.eq_5, evE.eq_6, evE.eq_7, evE.eq_8, evE.eq_9, evE.eq_10, evE.eq_11, evE.eq_12, evE.eq_13, evE.eq_14, evE.eq_15, evE.eq_16, evE.eq_17, evE.eq_18, evE.eq_19, evE.eq_20, evE.eq_24, evE.eq_25, evE.eq_26, evE.eq_27, evEs, ok_bnd, List.getElem?_cons_zero, List.getElem?_cons_succ, ok_ret, peek_val, asP_val, ok_some, Option.map_some, idx_lst, idx_tup, at_0, at_1, at_2, cmp_gt, cmp_ge, cmp_lt, cmp_le, tru_bl, bin_add, bin_sub, blt_int, blt_intb, peeks_nil, peeks_cons, List.set_cons_zero, List.set_cons_succ, lv_val, set_slot, vals_nil, vals_cons, ok_ok, cell_lst, cell_dct, Ex.fresh, if_true, List.length_cons, List.length_nil, Nat.reduceAdd, Nat.reduceLT, Nat.reduceSub, Nat.zero_add, List.any_cons, List.any_nil, Bool.or_false, ty_tupB, isTupB, Bool.not_true, or_cons, or_nil, Bool.false_eq_true, if_false, len_tup]
    by_cases h1 : (1 : Int) ≤ (xs.length : Nat)
    · by_cases h2 : ((xs.length : Nat) : Int) ≤ 16
      · have ec : clsP (.tup xs) = (xs.all cellB && ascB xs) := by
          rw [cls_tup, decide_eq_true (by omega), decide_eq_true (by omega)]
          rfl
        simp only [List.map_cons, List.map_nil, List.cons_append, List.nil_append, List.replicate, evSs, evS, evE.eq_1, evE.eq_2, evE.eq_3, evE.eq_4, evE.eq_5, evE.eq_6, evE.eq_7, evE.eq_8, evE.eq_9, evE.eq_10, evE.eq_11, evE.eq_12, evE.eq_13, evE.eq_14, evE.eq_15, evE.eq_16, evE.eq_17, evE.eq_18, evE.eq_19, evE.eq_20, evE.eq_24, evE.eq_25, evE.eq_26, evE.eq_27, evEs, ok_bnd, List.getElem?_cons_zero, List.getElem?_cons_succ, ok_ret, peek_val, asP_val, ok_some, Option.map_some, idx_lst, idx_tup, at_0, at_1, at_2, cmp_gt, cmp_ge, cmp_lt, cmp_le, tru_bl, bin_add, bin_sub, blt_int, blt_intb, peeks_nil, peeks_cons, List.set_cons_zero, List.set_cons_succ, lv_val, set_slot, vals_nil, vals_cons, ok_ok, cell_lst, cell_dct, Ex.fresh, if_true, List.length_cons, List.length_nil, Nat.reduceAdd, Nat.reduceLT, Nat.reduceSub, Nat.zero_add, decide_eq_true h1, decide_eq_true h2, Bool.not_true, Bool.false_eq_true, if_false]
        have flx : P.flats xs = true := hfl
        have flx' : ∀ {ys : List P}, P.flats ys = true → ∀ y ∈ ys, y.flat = true := fun {ys} => by
          induction ys with
          | nil => exact fun _ y hy => nomatch hy
          | cons z zs ih =>
            intro h y hy
            have h : (z.flat && P.flats zs) = true := h
            rw [Bool.and_eq_true] at h
            (rcases List.mem_cons.mp hy with rfl | hy)
            · exact h.1
            · exact ih h.2 y hy
        refine sift_ok (env := [some (.val (.tup xs)), none]) (g := fun s => s) (keep := fun s => !cellB s) (xs := xs) (Nat.lt_succ_self 1) rfl ⟨rfl, rfl⟩ (by omega) (fun s hm => ?_) (fun s hm _ => ?_) ?_
        · rw [evTs]
          simp only [List.map_cons, List.map_nil, List.cons_append, List.nil_append, List.replicate, evSs, evS, evE.eq_1, evE.eq_2, evE.eq_3, evE.eq_4, evE.eq_5, evE.eq_6, evE.eq_7, evE.eq_8, evE.eq_9, evE.eq_10, evE.eq_11, evE.eq_12, evE.eq_13, evE.eq_14, evE.eq_15, evE.eq_16, evE.eq_17, evE.eq_18, evE.eq_19, evE.eq_20, evE.eq_24, evE.eq_25, evE.eq_26, evE.eq_27, evEs, ok_bnd, List.getElem?_cons_zero, List.getElem?_cons_succ, ok_ret, peek_val, asP_val, ok_some, Option.map_some, idx_lst, idx_tup, at_0, at_1, at_2, cmp_gt, cmp_ge, cmp_lt, cmp_le, tru_bl, bin_add, bin_sub, blt_int, blt_intb, peeks_nil, peeks_cons, List.set_cons_zero, List.set_cons_succ, lv_val, set_slot, vals_nil, vals_cons, ok_ok, cell_lst, cell_dct, Ex.fresh, if_true, List.length_cons, List.length_nil, Nat.reduceAdd, Nat.reduceLT, Nat.reduceSub, Nat.zero_add, wipeE]
          refine whole_ok (k := k) hw ?_
          cases s with
          | int i =>
            simp only [List.map_cons, List.map_nil, List.cons_append, List.nil_append, List.replicate, evSs, evS, evE.eq_1, evE.eq_2, evE.eq_3, evE.eq_4, evE.eq_5, evE.eq_6, evE.eq_7, evE.eq_8, evE.eq_9, evE.eq_10, evE.eq_11, evE.eq_12, evE.eq_13, evE.eq_14, evE.eq_15, evE.eq_16, evE.eq_17, evE.eq_18, evE.eq_19, evE.eq_20, evE.eq_24, evE.eq_25, evE.eq_26, evE.eq_27, evEs, ok_bnd, List.getElem?_cons_zero, List.getElem?_cons_succ, ok_ret, peek_val, asP_val, ok_some, Option.map_some, idx_lst, idx_tup, at_0, at_1, at_2, cmp_gt, cmp_ge, cmp_lt, cmp_le, tru_bl, bin_add, bin_sub, blt_int, blt_intb, peeks_nil, peeks_cons, List.set_cons_zero, List.set_cons_succ, lv_val, set_slot, vals_nil, vals_cons, ok_ok, cell_lst, cell_dct, Ex.fresh, if_true, List.length_cons, List.length_nil, Nat.reduceAdd, Nat.reduceLT, Nat.reduceSub, Nat.zero_add, wholeP, Bool.not_true, or_cons, or_nil, Bool.false_eq_true, if_false]
            by_cases h3 : (0 : Int) ≤ i
            · by_cases h4 : i ≤ 1000000
              · simp only [List.map_cons, List.map_nil, List.cons_append, List.nil_append, List.replicate, evSs, evS, evE.eq_1, evE.eq_2, evE.eq_3, evE.eq_4, evE.eq_5, evE.eq_6, evE.eq_7, evE.eq_8, evE.eq_9, evE.eq_10, evE.eq_11, evE.eq_12, evE.eq_13, evE.eq_14, evE.eq_15, evE.eq_16, evE.eq_17, evE.eq_18, evE.eq_19, evE.eq_20, evE.eq_24, evE.eq_25, evE.eq_26, evE.eq_27, evEs, ok_bnd, List.getElem?_cons_zero, List.getElem?_cons_succ, ok_ret, peek_val, asP_val, ok_some, Option.map_some, idx_lst, idx_tup, at_0, at_1, at_2, cmp_gt, cmp_ge, cmp_lt, cmp_le, tru_bl, bin_add, bin_sub, blt_int, blt_intb, peeks_nil, peeks_cons, List.set_cons_zero, List.set_cons_succ, lv_val, set_slot, vals_nil, vals_cons, ok_ok, cell_lst, cell_dct, Ex.fresh, if_true, List.length_cons, List.length_nil, Nat.reduceAdd, Nat.reduceLT, Nat.reduceSub, Nat.zero_add, decide_eq_true h3, decide_eq_true h4, Bool.not_true, Bool.false_eq_true, if_false]
                exact ⟨by show _ = (!(decide (0 ≤ i) && decide (i ≤ 1000000))); rw [decide_eq_true h3, decide_eq_true h4]; rfl, trivial⟩
              · simp only [List.map_cons, List.map_nil, List.cons_append, List.nil_append, List.replicate, evSs, evS, evE.eq_1, evE.eq_2, evE.eq_3, evE.eq_4, evE.eq_5, evE.eq_6, evE.eq_7, evE.eq_8, evE.eq_9, evE.eq_10, evE.eq_11, evE.eq_12, evE.eq_13, evE.eq_14, evE.eq_15, evE.eq_16, evE.eq_17, evE.eq_18, evE.eq_19, evE.eq_20, evE.eq_24, evE.eq_25, evE.eq_26, evE.eq_27, evEs, ok_bnd, List.getElem?_cons_zero, List.getElem?_cons_succ, ok_ret, peek_val, asP_val, ok_some, Option.map_some, idx_lst, idx_tup, at_0, at_1, at_2, cmp_gt, cmp_ge, cmp_lt, cmp_le, tru_bl, bin_add, bin_sub, blt_int, blt_intb, peeks_nil, peeks_cons, List.set_cons_zero, List.set_cons_succ, lv_val, set_slot, vals_nil, vals_cons, ok_ok, cell_lst, cell_dct, Ex.fresh, if_true, List.length_cons, List.length_nil, Nat.reduceAdd, Nat.reduceLT, Nat.reduceSub, Nat.zero_add, decide_eq_true h3, decide_eq_false h4, Bool.not_false]
                exact ⟨by show _ = (!(decide (0 ≤ i) && decide (i ≤ 1000000))); rw [decide_eq_true h3, decide_eq_false h4]; rfl, rfl⟩
            · simp only [List.map_cons, List.map_nil, List.cons_append, List.nil_append, List.replicate, evSs, evS, evE.eq_1, evE.eq_2, evE.eq_3, evE.eq_4, evE.eq_5, evE.eq_6, evE.eq_7, evE.eq_8, evE.eq_9, evE.eq_10, evE.eq_11, evE.eq_12, evE.eq_13, evE.eq_14, evE.eq_15, evE.eq_16, evE.eq_17, evE.eq_18, evE.eq_19, evE.eq_20, evE.eq_24, evE.eq_25, evE.eq_26, evE.eq_27, evEs, ok_bnd, List.getElem?_cons_zero, List.getElem?_cons_succ, ok_ret, peek_val, asP_val, ok_some, Option.map_some, idx_lst, idx_tup, at_0, at_1, at_2, cmp_gt, cmp_ge, cmp_lt, cmp_le, tru_bl, bin_add, bin_sub, blt_int, blt_intb, peeks_nil, peeks_cons, List.set_cons_zero, List.set_cons_succ, lv_val, set_slot, vals_nil, vals_cons, ok_ok, cell_lst, cell_dct, Ex.fresh, if_true, List.length_cons, List.length_nil, Nat.reduceAdd, Nat.reduceLT, Nat.reduceSub, Nat.zero_add, decide_eq_false h3, Bool.not_false, Bool.false_eq_true, if_false]
              exact ⟨by show _ = (!(decide (0 ≤ i) && decide (i ≤ 1000000))); rw [decide_eq_false h3]; rfl, rfl⟩
          | _ =>
            simp only [List.map_cons, List.map_nil, List.cons_append, List.nil_append, List.replicate, evSs, evS, evE.eq_1, evE.eq_2, evE.eq_3, evE.eq_4, evE.eq_5, evE.eq_6, evE.eq_7, evE.eq_8, evE.eq_9, evE.eq_10, evE.eq_11, evE.eq_12, evE.eq_13, evE.eq_14, evE.eq_15, evE.eq_16, evE.eq_17, evE.eq_18, evE.eq_19, evE.eq_20, evE.eq_24, evE.eq_25, evE.eq_26, evE.eq_27, evEs, ok_bnd, List.getElem?_cons_zero, List.getElem?_cons_succ, ok_ret, peek_val, asP_val, ok_some, Option.map_some, idx_lst, idx_tup, at_0, at_1, at_2, cmp_gt, cmp_ge, cmp_lt, cmp_le, tru_bl, bin_add, bin_sub, blt_int, blt_intb, peeks_nil, peeks_cons, List.set_cons_zero, List.set_cons_succ, lv_val, set_slot, vals_nil, vals_cons, ok_ok, cell_lst, cell_dct, Ex.fresh, if_true, List.length_cons, List.length_nil, Nat.reduceAdd, Nat.reduceLT, Nat.reduceSub, Nat.zero_add, wholeP, Bool.not_false, or_cons]
            exact ⟨rfl, rfl⟩
        · simp only [List.map_cons, List.map_nil, List.cons_append, List.nil_append, List.replicate, evSs, evS, evE.eq_1, evE.eq_2, evE.eq_3, evE.eq_4, evE.eq_5, evE.eq_6, evE.eq_7, evE.eq_8, evE.eq_9, evE.eq_10, evE.eq_11, evE.eq_12, evE.eq_13, evE.eq_14, evE.eq_15, evE.eq_16, evE.eq_17, evE.eq_18, evE.eq_19, evE.eq_20, evE.eq_24, evE.eq_25, evE.eq_26, evE.eq_27, evEs, ok_bnd, List.getElem?_cons_zero, List.getElem?_cons_succ, ok_ret, peek_val, asP_val, ok_some, Option.map_some, idx_lst, idx_tup, at_0, at_1, at_2, cmp_gt, cmp_ge, cmp_lt, cmp_le, tru_bl, bin_add, bin_sub, blt_int, blt_intb, peeks_nil, peeks_cons, List.set_cons_zero, List.set_cons_succ, lv_val, set_slot, vals_nil, vals_cons, ok_ok, cell_lst, cell_dct, Ex.fresh, if_true, List.length_cons, List.length_nil, Nat.reduceAdd, Nat.reduceLT, Nat.reduceSub, Nat.zero_add, wipeE]
          exact ⟨trivial, trivial⟩
        · have fl : P.flats ((xs.filter fun s => !cellB s).map fun s => s) = true := by
            rw [List.map_id']
            exact flats_of fun s hm => flx' flx s (List.mem_filter.mp hm).1
          have e : ((xs.filter fun s => !cellB s).map fun s => s).isEmpty = xs.all cellB := by
            rw [List.map_id', sieve]
          simp only [List.map_cons, List.map_nil, List.cons_append, List.nil_append, List.replicate, evSs, evS, evE.eq_1, evE.eq_2, evE.eq_3, evE.eq_4, evE.eq_5, evE.eq_6, evE.eq_7, evE.eq_8, evE.eq_9, evE.eq_10, evE.eq_11, evE.eq_12, evE.eq_13, evE.eq_14, evE.eq_15, evE.eq_16, evE.eq_17, evE.eq_18, evE.eq_19, evE.eq_20, evE.eq_24, evE.eq_25, evE.eq_26, evE.eq_27, evEs, ok_bnd, List.getElem?_cons_zero, List.getElem?_cons_succ, ok_ret, peek_val, asP_val, ok_some, Option.map_some, idx_lst, idx_tup, at_0, at_1, at_2, cmp_gt, cmp_ge, cmp_lt, cmp_le, tru_bl, bin_add, bin_sub, blt_int, blt_intb, peeks_nil, peeks_cons, List.set_cons_zero, List.set_cons_succ, lv_val, set_slot, vals_nil, vals_cons, ok_ok, cell_lst, cell_dct, Ex.fresh, if_true, List.length_cons, List.length_nil, Nat.reduceAdd, Nat.reduceLT, Nat.reduceSub, Nat.zero_add, ne_nils fl, e]
          cases h5 : xs.all cellB with
          | true =>
            have kx := cells_kin h5
            simp only [List.map_cons, List.map_nil, List.cons_append, List.nil_append, List.replicate, evSs, evS, evE.eq_1, evE.eq_2, evE.eq_3, evE.eq_4, evE.eq_5, evE.eq_6, evE.eq_7, evE.eq_8, evE.eq_9, evE.eq_10, evE.eq_11, evE.eq_12, evE.eq_13, evE.eq_14, evE.eq_15, evE.eq_16, evE.eq_17, evE.eq_18, evE.eq_19, evE.eq_20, evE.eq_24, evE.eq_25, evE.eq_26, evE.eq_27, evEs, ok_bnd, List.getElem?_cons_zero, List.getElem?_cons_succ, ok_ret, peek_val, asP_val, ok_some, Option.map_some, idx_lst, idx_tup, at_0, at_1, at_2, cmp_gt, cmp_ge, cmp_lt, cmp_le, tru_bl, bin_add, bin_sub, blt_int, blt_intb, peeks_nil, peeks_cons, List.set_cons_zero, List.set_cons_succ, lv_val, set_slot, vals_nil, vals_cons, ok_ok, cell_lst, cell_dct, Ex.fresh, if_true, List.length_cons, List.length_nil, Nat.reduceAdd, Nat.reduceLT, Nat.reduceSub, Nat.zero_add, Bool.not_true, Bool.false_eq_true, if_false, blt_lstt, row_tup]
            rw [if_pos (kx.can (by omega))]
            simp only [List.map_cons, List.map_nil, List.cons_append, List.nil_append, List.replicate, evSs, evS, evE.eq_1, evE.eq_2, evE.eq_3, evE.eq_4, evE.eq_5, evE.eq_6, evE.eq_7, evE.eq_8, evE.eq_9, evE.eq_10, evE.eq_11, evE.eq_12, evE.eq_13, evE.eq_14, evE.eq_15, evE.eq_16, evE.eq_17, evE.eq_18, evE.eq_19, evE.eq_20, evE.eq_24, evE.eq_25, evE.eq_26, evE.eq_27, evEs, ok_bnd, List.getElem?_cons_zero, List.getElem?_cons_succ, ok_ret, peek_val, asP_val, ok_some, Option.map_some, idx_lst, idx_tup, at_0, at_1, at_2, cmp_gt, cmp_ge, cmp_lt, cmp_le, tru_bl, bin_add, bin_sub, blt_int, blt_intb, peeks_nil, peeks_cons, List.set_cons_zero, List.set_cons_succ, lv_val, set_slot, vals_nil, vals_cons, ok_ok, cell_lst, cell_dct, Ex.fresh, if_true, List.length_cons, List.length_nil, Nat.reduceAdd, Nat.reduceLT, Nat.reduceSub, Nat.zero_add, kx.sorted, List.take_length]
            rw [ec, h5] at hq
            exact hq
          | false =>
            simp only [List.map_cons, List.map_nil, List.cons_append, List.nil_append, List.replicate, evSs, evS, evE.eq_1, evE.eq_2, evE.eq_3, evE.eq_4, evE.eq_5, evE.eq_6, evE.eq_7, evE.eq_8, evE.eq_9, evE.eq_10, evE.eq_11, evE.eq_12, evE.eq_13, evE.eq_14, evE.eq_15, evE.eq_16, evE.eq_17, evE.eq_18, evE.eq_19, evE.eq_20, evE.eq_24, evE.eq_25, evE.eq_26, evE.eq_27, evEs, ok_bnd, List.getElem?_cons_zero, List.getElem?_cons_succ, ok_ret, peek_val, asP_val, ok_some, Option.map_some, idx_lst, idx_tup, at_0, at_1, at_2, cmp_gt, cmp_ge, cmp_lt, cmp_le, tru_bl, bin_add, bin_sub, blt_int, blt_intb, peeks_nil, peeks_cons, List.set_cons_zero, List.set_cons_succ, lv_val, set_slot, vals_nil, vals_cons, ok_ok, cell_lst, cell_dct, Ex.fresh, if_true, List.length_cons, List.length_nil, Nat.reduceAdd, Nat.reduceLT, Nat.reduceSub, Nat.zero_add, Bool.not_false, List.take_length]
            exact no (by rw [ec, h5]; rfl)
      · simp only [List.map_cons, List.map_nil, List.cons_append, List.nil_append, List.replicate, evSs, evS, evE.eq_1, evE.eq_2, evE.eq_3, evE.eq_4, evE.eq_5, evE.eq_6, evE.eq_7, evE.eq_8, evE.eq_9, evE.eq_10, evE.eq_11, evE.eq_12, evE.eq_13, evE.eq_14, evE.eq_15, evE.eq_16, evE.eq_17, evE.eq_18, evE.eq_19, evE.eq_20, evE.eq_24, evE.eq_25, evE.eq_26, evE.eq_27, evEs, ok_bnd, List.getElem?_cons_zero, List.getElem?_cons_succ, ok_ret, peek_val, asP_val, ok_some, Option.map_some, idx_lst, idx_tup, at_0, at_1, at_2, cmp_gt, cmp_ge, cmp_lt, cmp_le, tru_bl, bin_add, bin_sub, blt_int, blt_intb, peeks_nil, peeks_cons, List.set_cons_zero, List.set_cons_succ, lv_val, set_slot, vals_nil, vals_cons, ok_ok, cell_lst, cell_dct, Ex.fresh, if_true, List.length_cons, List.length_nil, Nat.reduceAdd, Nat.reduceLT, Nat.reduceSub, Nat.zero_add, decide_eq_true h1, decide_eq_false h2, Bool.not_false, List.take_length]
        exact no (by rw [cls_tup, decide_eq_false (show ¬ xs.length ≤ 16 by omega), Bool.false_and, Bool.and_false])
    · simp only [List.map_cons, List.map_nil, List.cons_append, List.nil_append, List.replicate, evSs, evS, evE.eq_1, evE.eq_2, evE.eq_3, evE.eq_4, evE.eq_5, evE.eq_6, evE.eq_7, evE.eq_8, evE.eq_9, evE.eq_10, evE.eq_11, evE.eq_12, evE.eq_13, evE.eq_14, evE.eq_15, evE.eq_16, evE.eq_17, evE.eq_18, evE.eq_19, evE.eq_20, evE.eq_24, evE.eq_25, evE.eq_26, evE.eq_27, evEs, ok_bnd, List.getElem?_cons_zero, List.getElem?_cons_succ, ok_ret, peek_val, asP_val, ok_some, Option.map_some, idx_lst, idx_tup, at_0, at_1, at_2, cmp_gt, cmp_ge, cmp_lt, cmp_le, tru_bl, bin_add, bin_sub, blt_int, blt_intb, peeks_nil, peeks_cons, List.set_cons_zero, List.set_cons_succ, lv_val, set_slot, vals_nil, vals_cons, ok_ok, cell_lst, cell_dct, Ex.fresh, if_true, List.length_cons, List.length_nil, Nat.reduceAdd, Nat.reduceLT, Nat.reduceSub, Nat.zero_add, decide_eq_false h1, Bool.not_false, Bool.false_eq_true, if_false, List.take_length]
      exact no (by rw [cls_tup, decide_eq_false (show ¬ 1 ≤ xs.length by omega), Bool.false_and])
  | _ =>
    simp only [List.map_cons, List.map_nil, List.cons_append, List.nil_append, List.replicate, evSs, evS, evE.eq_1, evE.eq_2, evE.eq_3, evE.eq_4, evE.eq_5, evE.eq_6, evE.eq_7, evE.eq_8, evE.eq_9, evE.eq_10, evE.eq_11, evE.eq_12, evE.eq_13, evE.eq_14, evE.eq_15, evE.eq_16, evE.eq_17, evE.eq_18, evE.eq_19, evE.eq_20, evE.eq_24, evE.eq_25, evE.eq_26, evE.eq_27, evEs, ok_bnd, List.getElem?_cons_zero, List.getElem?_cons_succ, ok_ret, peek_val, asP_val, ok_some, Option.map_some, idx_lst, idx_tup, at_0, at_1, at_2, cmp_gt, cmp_ge, cmp_lt, cmp_le, tru_bl, bin_add, bin_sub, blt_int, blt_intb, peeks_nil, peeks_cons, List.set_cons_zero, List.set_cons_succ, lv_val, set_slot, vals_nil, vals_cons, ok_ok, cell_lst, cell_dct, Ex.fresh, if_true, List.length_cons, List.length_nil, Nat.reduceAdd, Nat.reduceLT, Nat.reduceSub, Nat.zero_add, List.any_cons, List.any_nil, Bool.or_false, ty_tupB, isTupB, Bool.not_false, or_cons, List.take_length]
    exact no rfl
end
end Fy

/-! Pl20: markings. -/
namespace Fy
open PySem (Str)
def fst0 : P → P
  | .tup (a :: _) => a
  | _ => .non
def prB : P → Bool
  | .tup [a, b] => nmP a && clsP b
  | _ => false
def mkP : P → Bool
  | .tup xs => decide (xs.length ≤ 8) && (xs.all prB && ascB (xs.map fst0))
  | _ => false
theorem mk_tup {xs : List P} : mkP (.tup xs) = (decide (xs.length ≤ 8) && (xs.all prB && ascB (xs.map fst0))) := rfl
theorem len_two {xs : List P} (h : ((xs.length : Nat) : Int) = 2) : ∃ a b, xs = [a, b] := by
  match xs, h with
  | [a, b], _ => exact ⟨a, b, rfl⟩
  | [], h => exact absurd h (by decide)
  | [_], h => exact absurd h (by simp only [List.length_cons, List.length_nil]; omega)
  | _ :: _ :: _ :: r, h => exact absurd h (by simp only [List.length_cons]; omega)
theorem pr_not {xs : List P} (h : ¬ ((xs.length : Nat) : Int) = 2) : prB (.tup xs) = false := by
  match xs, h with
  | [a, b], h => exact absurd rfl h
  | [], _ => rfl
  | [_], _ => rfl
  | _ :: _ :: _ :: r, _ => rfl
theorem pr_of {x : P} (h : prB x = true) : ∃ a b, x = .tup [a, b] ∧ nmP a = true ∧ clsP b = true := by
  cases x with
  | tup xs =>
    by_cases h2 : ((xs.length : Nat) : Int) = 2
    · obtain ⟨a, b, rfl⟩ := len_two h2
      have h : (nmP a && clsP b) = true := h
      rw [Bool.and_eq_true] at h
      exact ⟨a, b, rfl, h⟩
    · rw [pr_not h2] at h
      cases h
  | _ => exact absurd h Bool.false_ne_true
theorem nm_is {p : P} (h : nmP p = true) : ∃ s, p = .str s := by
  cases p with
  | str s => exact ⟨s, rfl⟩
  | _ => exact absurd h Bool.false_ne_true
theorem names_kin {xs : List P} (h : ∀ x ∈ xs, nmP (fst0 x) = true) : Kin (xs.map fst0) := .inr fun x hx => by
  (obtain ⟨y, hy, rfl⟩ := List.mem_map.mp hx)
  exact nm_is (h y hy)
theorem small_str {c d : Nat} {p : P} (h : Th c d p) (hc : c ≤ 100000) : ∀ x, p = .str x → x.cps.size ≤ 100000 := fun x e => by
  subst e
  exact Nat.le_trans h.str_le hc
/-- is_marking: n is_name, c are_cells, a ascends -/
def gMarking (n c a : Nat) : Sts := (.cons (.ite (.or (.not (.isi (.var 0) [.tup] false)) (.cons (.cmp .gt (.blt .len (.cons (.var 0) .nil)) (.cst (.int 8))) .nil)) (.cons (.ret (.cst (.bl false))) .nil) .nil) (.cons (.for_ (.nm 1) (.val (.var 0)) (.cons (.ite (.or (.not (.isi (.var 1) [.tup] false)) (.cons (.cmp .ne (.blt .len (.cons (.var 1) .nil)) (.cst (.int 2))) (.cons (.not (.cal n (.cons (.idx (.var 1) (.cst (.int 0))) .nil))) (.cons (.not (.cal c (.cons (.idx (.var 1) (.cst (.int 1))) .nil))) .nil)))) (.cons (.ret (.cst (.bl false))) .nil) .nil) .nil)) (.cons (.ret (.cal a (.cons (.lcm (.idx (.var 1) (.cst (.int 0))) [1] (.cons (.nm 1) (.val (.var 0)) .nil .nil)) .nil))) .nil)))
section
variable {T : Tab} {w a f n c : Nat}
theorem marking_ok (hf : T.fns[f]? = some ⟨1, 2, gMarking n c a⟩) (hn : T.fns[n]? = some ⟨1, 2, gName⟩) (hc : T.fns[c]? = some ⟨1, 2, gCells w a⟩) (hw : T.fns[w]? = some ⟨1, 1, gWhole⟩) (ha : T.fns[a]? = some ⟨1, 3, gAsc⟩) (hg : T.glo[1]? = some (.int 1000000)) (hl : T.glo[0]? = some (.str letters))
    {k cc d : Nat} {p : P} {st : Sto} {W : Sl → Sto → Prop} (hp : Th cc d p) (hcc : cc ≤ 100000) (hq : W (.val (.bl (mkP p))) st) : Ok (run T (k + 3) f [.val p] st) W := by
  refine ok_run hf rfl (by decide) ?_
  unfold gMarking
  have no : mkP p = false → W (.val (.bl false)) st := fun e => by
    rw [← e]
    exact hq
  cases p with
  | tup xs =>
    obtain ⟨lx, e, rfl, hx⟩ := hp.tup_in
    simp only [List.map_cons, List.map_nil, List.cons_append, List.nil_append, List.replicate, evSs, evS, evE.eq_1, evE.eq_2, evE.eq_3, evE.eq_4, evE.eq_5, evE.eq_6, evE.eq_7, evE.eq_8, evE.eq_9, evE.eq_10, evE.eq_11, evE.eq_12, evE.eq_13, evE.eq_14, evE.eq_15, evE.eq_16, evE.eq_17, evE.eq_18, evE.eq_19, evE.eq_20, evE.eq_24, evE.eq_25, evE.eq_26, evE.eq_27, evEs, ok_bnd, List.getElem?_cons_zero, List.getElem?_cons_succ, ok_ret, peek_val, asP_val, ok_some, Option.map_some, idx_lst, idx_tup, at_0, at_1, at_2, cmp_gt, cmp_ge, cmp_lt, cmp_le, tru_bl, bin_add, bin_sub, blt_int, blt_intb, peeks_nil, peeks_cons, List.set_cons_zero, List.set_cons_succ, lv_val, set_slot, vals_nil, vals_cons, ok_ok, cell_lst, cell_dct, Ex.fresh, if_true, List.length_cons, List.length_nil, Nat.reduceAdd, Nat.reduceLT, Nat.reduceSub, Nat.zero_add, List.any_cons, List.any_nil, Bool.or_false, ty_tupB, isTupB, Bool.not_true, or_cons, or_nil, Bool.false_eq_true, if_false, len_tup]
    by_cases h2 : (8 : Int) < (xs.length : Nat)
    · simp only [List.map_cons, List.map_nil, List.cons_append, List.nil_append, List.replicate, evSs, evS, evE.eq_1, evE.eq_2, evE.eq_3, evE.eq_4, evE.eq_5, evE.eq_6, evE.eq_7, evE.eq_8, evE.eq_9, evE.eq_10, evE.eq_11, evE.eq_12, evE.eq_13, evE.eq_14, evE.eq_15, evE.eq_16, evE.eq_17, evE.eq_18, evE.eq_19, evE.eq_20, evE.eq_24, evE.eq_25, evE.eq_26, evE.eq_27, evEs, ok_bnd, List.getElem?_cons_zero, List.getElem?_cons_succ, ok_ret, peek_val, asP_val, ok_some, Option.map_some, idx_lst, idx_tup, at_0, at_1, at_2, cmp_gt, cmp_ge, cmp_lt, cmp_le, tru_bl, bin_add, bin_sub, blt_int, blt_intb, peeks_nil, peeks_cons, List.set_cons_zero, List.set_cons_succ, lv_val, set_slot, vals_nil, vals_cons, ok_ok, cell_lst, cell_dct, Ex.fresh, if_true, List.length_cons, List.length_nil, Nat.reduceAdd, Nat.reduceLT, Nat.reduceSub, Nat.zero_add, decide_eq_true h2, List.take_length]
      exact no (by rw [mk_tup, decide_eq_false (show ¬ xs.length ≤ 8 by omega), Bool.false_and])
    · simp only [List.map_cons, List.map_nil, List.cons_append, List.nil_append, List.replicate, evSs, evS, evE.eq_1, evE.eq_2, evE.eq_3, evE.eq_4, evE.eq_5, evE.eq_6, evE.eq_7, evE.eq_8, evE.eq_9, evE.eq_10, evE.eq_11, evE.eq_12, evE.eq_13, evE.eq_14, evE.eq_15, evE.eq_16, evE.eq_17, evE.eq_18, evE.eq_19, evE.eq_20, evE.eq_24, evE.eq_25, evE.eq_26, evE.eq_27, evEs, ok_bnd, List.getElem?_cons_zero, List.getElem?_cons_succ, ok_ret, peek_val, asP_val, ok_some, Option.map_some, idx_lst, idx_tup, at_0, at_1, at_2, cmp_gt, cmp_ge, cmp_lt, cmp_le, tru_bl, bin_add, bin_sub, blt_int, blt_intb, peeks_nil, peeks_cons, List.set_cons_zero, List.set_cons_succ, lv_val, set_slot, vals_nil, vals_cons, ok_ok, cell_lst, cell_dct, Ex.fresh, if_true, List.length_cons, List.length_nil, Nat.reduceAdd, Nat.reduceLT, Nat.reduceSub, Nat.zero_add, decide_eq_false h2, evI, itm_tup, Bool.false_eq_true, if_false]
      have ec : mkP (.tup xs) = (xs.all prB && ascB (xs.map fst0)) := by
        rw [mk_tup, decide_eq_true (show xs.length ≤ 8 by omega), Bool.true_and]
      refine guard_loop (fun j => prB (xs.getD j .non)) (fun j env t => t = st ∧ ∃ z, env = [some (.val (.tup xs)), z]) (fun env t => t = st) ⟨rfl, none, rfl⟩ (fun j x env t hj _ ⟨h3, z, h4⟩ => ?_) (fun env t hall ⟨h3, z, h4⟩ => ?_) fun env t hall h3 => ?_
      · subst h3
        subst h4
        have hxm := hx x (List.mem_of_getElem? hj)
        have eb : bindP (.nm 1) x [some (.val (.tup xs)), z] = some [some (.val (.tup xs)), some (.val x)] := rfl
        rw [eb]
        simp only [getD_at hj]
        cases x with
        | tup ys =>
          obtain ⟨ly, e2, rfl, hy⟩ := hxm.tup_in
          simp only [List.map_cons, List.map_nil, List.cons_append, List.nil_append, List.replicate, evSs, evS, evE.eq_1, evE.eq_2, evE.eq_3, evE.eq_4, evE.eq_5, evE.eq_6, evE.eq_7, evE.eq_8, evE.eq_9, evE.eq_10, evE.eq_11, evE.eq_12, evE.eq_13, evE.eq_14, evE.eq_15, evE.eq_16, evE.eq_17, evE.eq_18, evE.eq_19, evE.eq_20, evE.eq_24, evE.eq_25, evE.eq_26, evE.eq_27, evEs, ok_bnd, List.getElem?_cons_zero, List.getElem?_cons_succ, ok_ret, peek_val, asP_val, ok_some, Option.map_some, idx_lst, idx_tup, at_0, at_1, at_2, cmp_gt, cmp_ge, cmp_lt, cmp_le, tru_bl, bin_add, bin_sub, blt_int, blt_intb, peeks_nil, peeks_cons, List.set_cons_zero, List.set_cons_succ, lv_val, set_slot, vals_nil, vals_cons, ok_ok, cell_lst, cell_dct, Ex.fresh, if_true, List.length_cons, List.length_nil, Nat.reduceAdd, Nat.reduceLT, Nat.reduceSub, Nat.zero_add, List.any_cons, List.any_nil, Bool.or_false, ty_tupB, isTupB, Bool.not_true, or_cons, or_nil, Bool.false_eq_true, if_false, len_tup, ne_int]
          by_cases h5 : ((ys.length : Nat) : Int) = 2
          · obtain ⟨p1, p2, rfl⟩ := len_two h5
            have ee : prB (.tup [p1, p2]) = (nmP p1 && clsP p2) := rfl
            simp only [List.map_cons, List.map_nil, List.cons_append, List.nil_append, List.replicate, evSs, evS, evE.eq_1, evE.eq_2, evE.eq_3, evE.eq_4, evE.eq_5, evE.eq_6, evE.eq_7, evE.eq_8, evE.eq_9, evE.eq_10, evE.eq_11, evE.eq_12, evE.eq_13, evE.eq_14, evE.eq_15, evE.eq_16, evE.eq_17, evE.eq_18, evE.eq_19, evE.eq_20, evE.eq_24, evE.eq_25, evE.eq_26, evE.eq_27, evEs, ok_bnd, List.getElem?_cons_zero, List.getElem?_cons_succ, ok_ret, peek_val, asP_val, ok_some, Option.map_some, idx_lst, idx_tup, at_0, at_1, at_2, cmp_gt, cmp_ge, cmp_lt, cmp_le, tru_bl, bin_add, bin_sub, blt_int, blt_intb, peeks_nil, peeks_cons, List.set_cons_zero, List.set_cons_succ, lv_val, set_slot, vals_nil, vals_cons, ok_ok, cell_lst, cell_dct, Ex.fresh, if_true, List.length_cons, List.length_nil, Nat.reduceAdd, Nat.reduceLT, Nat.reduceSub, Nat.zero_add, show (!(((2 : Nat) : Int) == 2)) = false from rfl, Bool.false_eq_true, if_false]
            refine name_ok (k := k + 1) hn hl (small_str (hy p1 (by simp)) hcc) ?_
            cases h6 : nmP p1 with
            | true =>
              simp only [List.map_cons, List.map_nil, List.cons_append, List.nil_append, List.replicate, evSs, evS, evE.eq_1, evE.eq_2, evE.eq_3, evE.eq_4, evE.eq_5, evE.eq_6, evE.eq_7, evE.eq_8, evE.eq_9, evE.eq_10, evE.eq_11, evE.eq_12, evE.eq_13, evE.eq_14, evE.eq_15, evE.eq_16, evE.eq_17, evE.eq_18, evE.eq_19, evE.eq_20, evE.eq_24, evE.eq_25, evE.eq_26, evE.eq_27, evEs, ok_bnd, List.getElem?_cons_zero, List.getElem?_cons_succ, ok_ret, peek_val, asP_val, ok_some, Option.map_some, idx_lst, idx_tup, at_0, at_1, at_2, cmp_gt, cmp_ge, cmp_lt, cmp_le, tru_bl, bin_add, bin_sub, blt_int, blt_intb, peeks_nil, peeks_cons, List.set_cons_zero, List.set_cons_succ, lv_val, set_slot, vals_nil, vals_cons, ok_ok, cell_lst, cell_dct, Ex.fresh, if_true, List.length_cons, List.length_nil, Nat.reduceAdd, Nat.reduceLT, Nat.reduceSub, Nat.zero_add, Bool.not_true, or_cons, or_nil, Bool.false_eq_true, if_false]
              refine cells_ok (k := k) hc hw ha hg ?_
              cases h7 : clsP p2 with
              | true =>
                simp only [List.map_cons, List.map_nil, List.cons_append, List.nil_append, List.replicate, evSs, evS, evE.eq_1, evE.eq_2, evE.eq_3, evE.eq_4, evE.eq_5, evE.eq_6, evE.eq_7, evE.eq_8, evE.eq_9, evE.eq_10, evE.eq_11, evE.eq_12, evE.eq_13, evE.eq_14, evE.eq_15, evE.eq_16, evE.eq_17, evE.eq_18, evE.eq_19, evE.eq_20, evE.eq_24, evE.eq_25, evE.eq_26, evE.eq_27, evEs, ok_bnd, List.getElem?_cons_zero, List.getElem?_cons_succ, ok_ret, peek_val, asP_val, ok_some, Option.map_some, idx_lst, idx_tup, at_0, at_1, at_2, cmp_gt, cmp_ge, cmp_lt, cmp_le, tru_bl, bin_add, bin_sub, blt_int, blt_intb, peeks_nil, peeks_cons, List.set_cons_zero, List.set_cons_succ, lv_val, set_slot, vals_nil, vals_cons, ok_ok, cell_lst, cell_dct, Ex.fresh, if_true, List.length_cons, List.length_nil, Nat.reduceAdd, Nat.reduceLT, Nat.reduceSub, Nat.zero_add, Bool.not_true, Bool.false_eq_true, if_false]
                exact ⟨by rw [ee, h6, h7]; rfl, trivial, _, rfl⟩
              | false =>
                simp only [List.map_cons, List.map_nil, List.cons_append, List.nil_append, List.replicate, evSs, evS, evE.eq_1, evE.eq_2, evE.eq_3, evE.eq_4, evE.eq_5, evE.eq_6, evE.eq_7, evE.eq_8, evE.eq_9, evE.eq_10, evE.eq_11, evE.eq_12, evE.eq_13, evE.eq_14, evE.eq_15, evE.eq_16, evE.eq_17, evE.eq_18, evE.eq_19, evE.eq_20, evE.eq_24, evE.eq_25, evE.eq_26, evE.eq_27, evEs, ok_bnd, List.getElem?_cons_zero, List.getElem?_cons_succ, ok_ret, peek_val, asP_val, ok_some, Option.map_some, idx_lst, idx_tup, at_0, at_1, at_2, cmp_gt, cmp_ge, cmp_lt, cmp_le, tru_bl, bin_add, bin_sub, blt_int, blt_intb, peeks_nil, peeks_cons, List.set_cons_zero, List.set_cons_succ, lv_val, set_slot, vals_nil, vals_cons, ok_ok, cell_lst, cell_dct, Ex.fresh, if_true, List.length_cons, List.length_nil, Nat.reduceAdd, Nat.reduceLT, Nat.reduceSub, Nat.zero_add, Bool.not_false]
                exact ⟨by rw [ee, h6, h7]; rfl, trivial, trivial⟩
            | false =>
              simp only [List.map_cons, List.map_nil, List.cons_append, List.nil_append, List.replicate, evSs, evS, evE.eq_1, evE.eq_2, evE.eq_3, evE.eq_4, evE.eq_5, evE.eq_6, evE.eq_7, evE.eq_8, evE.eq_9, evE.eq_10, evE.eq_11, evE.eq_12, evE.eq_13, evE.eq_14, evE.eq_15, evE.eq_16, evE.eq_17, evE.eq_18, evE.eq_19, evE.eq_20, evE.eq_24, evE.eq_25, evE.eq_26, evE.eq_27, evEs, ok_bnd, List.getElem?_cons_zero, List.getElem?_cons_succ, ok_ret, peek_val, asP_val, ok_some, Option.map_some, idx_lst, idx_tup, at_0, at_1, at_2, cmp_gt, cmp_ge, cmp_lt, cmp_le, tru_bl, bin_add, bin_sub, blt_int, blt_intb, peeks_nil, peeks_cons, List.set_cons_zero, List.set_cons_succ, lv_val, set_slot, vals_nil, vals_cons, ok_ok, cell_lst, cell_dct, Ex.fresh, if_true, List.length_cons, List.length_nil, Nat.reduceAdd, Nat.reduceLT, Nat.reduceSub, Nat.zero_add, Bool.not_false, or_cons]
              exact ⟨by rw [ee, h6]; rfl, trivial, trivial⟩
          · have e4 : (!(((ys.length : Nat) : Int) == 2)) = true := by
              rw [beq_eq_false_iff_ne.mpr h5]
              rfl
            simp only [List.map_cons, List.map_nil, List.cons_append, List.nil_append, List.replicate, evSs, evS, evE.eq_1, evE.eq_2, evE.eq_3, evE.eq_4, evE.eq_5, evE.eq_6, evE.eq_7, evE.eq_8, evE.eq_9, evE.eq_10, evE.eq_11, evE.eq_12, evE.eq_13, evE.eq_14, evE.eq_15, evE.eq_16, evE.eq_17, evE.eq_18, evE.eq_19, evE.eq_20, evE.eq_24, evE.eq_25, evE.eq_26, evE.eq_27, evEs, ok_bnd, List.getElem?_cons_zero, List.getElem?_cons_succ, ok_ret, peek_val, asP_val, ok_some, Option.map_some, idx_lst, idx_tup, at_0, at_1, at_2, cmp_gt, cmp_ge, cmp_lt, cmp_le, tru_bl, bin_add, bin_sub, blt_int, blt_intb, peeks_nil, peeks_cons, List.set_cons_zero, List.set_cons_succ, lv_val, set_slot, vals_nil, vals_cons, ok_ok, cell_lst, cell_dct, Ex.fresh, if_true, List.length_cons, List.length_nil, Nat.reduceAdd, Nat.reduceLT, Nat.reduceSub, Nat.zero_add, e4]
            exact ⟨pr_not h5, trivial, trivial⟩
        | _ =>
          simp only [List.map_cons, List.map_nil, List.cons_append, List.nil_append, List.replicate, evSs, evS, evE.eq_1, evE.eq_2, evE.eq_3, evE.eq_4, evE.eq_5, evE.eq_6, evE.eq_7, evE.eq_8, evE.eq_9, evE.eq_10, evE.eq_11, evE.eq_12, evE.eq_13, evE.eq_14, evE.eq_15, evE.eq_16, evE.eq_17, evE.eq_18, evE.eq_19, evE.eq_20, evE.eq_24, evE.eq_25, evE.eq_26, evE.eq_27, evEs, ok_bnd, List.getElem?_cons_zero, List.getElem?_cons_succ, ok_ret, peek_val, asP_val, ok_some, Option.map_some, idx_lst, idx_tup, at_0, at_1, at_2, cmp_gt, cmp_ge, cmp_lt, cmp_le, tru_bl, bin_add, bin_sub, blt_int, blt_intb, peeks_nil, peeks_cons, List.set_cons_zero, List.set_cons_succ, lv_val, set_slot, vals_nil, vals_cons, ok_ok, cell_lst, cell_dct, Ex.fresh, if_true, List.length_cons, List.length_nil, Nat.reduceAdd, Nat.reduceLT, Nat.reduceSub, Nat.zero_add, List.any_cons, List.any_nil, Bool.or_false, ty_tupB, isTupB, Bool.not_false, or_cons]
          exact ⟨rfl, trivial, trivial⟩
      · subst h3
        subst h4
        rw [all_at prB] at hall
        have hall' := List.all_eq_true.mp hall
        simp only [List.map_cons, List.map_nil, List.cons_append, List.nil_append, List.replicate, evSs, evS, evE.eq_1, evE.eq_2, evE.eq_3, evE.eq_4, evE.eq_5, evE.eq_6, evE.eq_7, evE.eq_8, evE.eq_9, evE.eq_10, evE.eq_11, evE.eq_12, evE.eq_13, evE.eq_14, evE.eq_15, evE.eq_16, evE.eq_17, evE.eq_18, evE.eq_19, evE.eq_20, evE.eq_24, evE.eq_25, evE.eq_26, evE.eq_27, evEs, ok_bnd, List.getElem?_cons_zero, List.getElem?_cons_succ, ok_ret, peek_val, asP_val, ok_some, Option.map_some, idx_lst, idx_tup, at_0, at_1, at_2, cmp_gt, cmp_ge, cmp_lt, cmp_le, tru_bl, bin_add, bin_sub, blt_int, blt_intb, peeks_nil, peeks_cons, List.set_cons_zero, List.set_cons_succ, lv_val, set_slot, vals_nil, vals_cons, ok_ok, cell_lst, cell_dct, Ex.fresh, if_true, List.length_cons, List.length_nil, Nat.reduceAdd, Nat.reduceLT, Nat.reduceSub, Nat.zero_add]
        refine map_ok (env := [some (.val (.tup xs)), z]) (g := fst0) (xs := xs) (Nat.lt_succ_self 1) rfl ⟨rfl, rfl⟩ (by omega) (fun s hm => ?_) ?_
        · obtain ⟨p1, p2, rfl, _⟩ := pr_of (hall' s hm)
          simp only [List.map_cons, List.map_nil, List.cons_append, List.nil_append, List.replicate, evSs, evS, evE.eq_1, evE.eq_2, evE.eq_3, evE.eq_4, evE.eq_5, evE.eq_6, evE.eq_7, evE.eq_8, evE.eq_9, evE.eq_10, evE.eq_11, evE.eq_12, evE.eq_13, evE.eq_14, evE.eq_15, evE.eq_16, evE.eq_17, evE.eq_18, evE.eq_19, evE.eq_20, evE.eq_24, evE.eq_25, evE.eq_26, evE.eq_27, evEs, ok_bnd, List.getElem?_cons_zero, List.getElem?_cons_succ, ok_ret, peek_val, asP_val, ok_some, Option.map_some, idx_lst, idx_tup, at_0, at_1, at_2, cmp_gt, cmp_ge, cmp_lt, cmp_le, tru_bl, bin_add, bin_sub, blt_int, blt_intb, peeks_nil, peeks_cons, List.set_cons_zero, List.set_cons_succ, lv_val, set_slot, vals_nil, vals_cons, ok_ok, cell_lst, cell_dct, Ex.fresh, if_true, List.length_cons, List.length_nil, Nat.reduceAdd, Nat.reduceLT, Nat.reduceSub, Nat.zero_add, wipeE]
          exact ⟨rfl, trivial⟩
        · skip
          refine asc_ok (k := k + 1) ha rfl (names_kin fun x hm => ?_) (by show (xs.map fst0).length ≤ 100000; rw [List.length_map]; omega) ?_
          · obtain ⟨p1, p2, rfl, h6, _⟩ := pr_of (hall' x hm)
            exact h6
          · simp only [List.map_cons, List.map_nil, List.cons_append, List.nil_append, List.replicate, evSs, evS, evE.eq_1, evE.eq_2, evE.eq_3, evE.eq_4, evE.eq_5, evE.eq_6, evE.eq_7, evE.eq_8, evE.eq_9, evE.eq_10, evE.eq_11, evE.eq_12, evE.eq_13, evE.eq_14, evE.eq_15, evE.eq_16, evE.eq_17, evE.eq_18, evE.eq_19, evE.eq_20, evE.eq_24, evE.eq_25, evE.eq_26, evE.eq_27, evEs, ok_bnd, List.getElem?_cons_zero, List.getElem?_cons_succ, ok_ret, peek_val, asP_val, ok_some, Option.map_some, idx_lst, idx_tup, at_0, at_1, at_2, cmp_gt, cmp_ge, cmp_lt, cmp_le, tru_bl, bin_add, bin_sub, blt_int, blt_intb, peeks_nil, peeks_cons, List.set_cons_zero, List.set_cons_succ, lv_val, set_slot, vals_nil, vals_cons, ok_ok, cell_lst, cell_dct, Ex.fresh, if_true, List.length_cons, List.length_nil, Nat.reduceAdd, Nat.reduceLT, Nat.reduceSub, Nat.zero_add, List.take_length]
            rw [ec, hall] at hq
            exact hq
      · subst h3
        rw [all_at prB] at hall
        simp only [List.map_cons, List.map_nil, List.cons_append, List.nil_append, List.replicate, evSs, evS, evE.eq_1, evE.eq_2, evE.eq_3, evE.eq_4, evE.eq_5, evE.eq_6, evE.eq_7, evE.eq_8, evE.eq_9, evE.eq_10, evE.eq_11, evE.eq_12, evE.eq_13, evE.eq_14, evE.eq_15, evE.eq_16, evE.eq_17, evE.eq_18, evE.eq_19, evE.eq_20, evE.eq_24, evE.eq_25, evE.eq_26, evE.eq_27, evEs, ok_bnd, List.getElem?_cons_zero, List.getElem?_cons_succ, ok_ret, peek_val, asP_val, ok_some, Option.map_some, idx_lst, idx_tup, at_0, at_1, at_2, cmp_gt, cmp_ge, cmp_lt, cmp_le, tru_bl, bin_add, bin_sub, blt_int, blt_intb, peeks_nil, peeks_cons, List.set_cons_zero, List.set_cons_succ, lv_val, set_slot, vals_nil, vals_cons, ok_ok, cell_lst, cell_dct, Ex.fresh, if_true, List.length_cons, List.length_nil, Nat.reduceAdd, Nat.reduceLT, Nat.reduceSub, Nat.zero_add, List.take_length]
        exact no (by rw [ec, hall]; rfl)
  | _ =>
    simp only [List.map_cons, List.map_nil, List.cons_append, List.nil_append, List.replicate, evSs, evS, evE.eq_1, evE.eq_2, evE.eq_3, evE.eq_4, evE.eq_5, evE.eq_6, evE.eq_7, evE.eq_8, evE.eq_9, evE.eq_10, evE.eq_11, evE.eq_12, evE.eq_13, evE.eq_14, evE.eq_15, evE.eq_16, evE.eq_17, evE.eq_18, evE.eq_19, evE.eq_20, evE.eq_24, evE.eq_25, evE.eq_26, evE.eq_27, evEs, ok_bnd, List.getElem?_cons_zero, List.getElem?_cons_succ, ok_ret, peek_val, asP_val, ok_some, Option.map_some, idx_lst, idx_tup, at_0, at_1, at_2, cmp_gt, cmp_ge, cmp_lt, cmp_le, tru_bl, bin_add, bin_sub, blt_int, blt_intb, peeks_nil, peeks_cons, List.set_cons_zero, List.set_cons_succ, lv_val, set_slot, vals_nil, vals_cons, ok_ok, cell_lst, cell_dct, Ex.fresh, if_true, List.length_cons, List.length_nil, Nat.reduceAdd, Nat.reduceLT, Nat.reduceSub, Nat.zero_add, List.any_cons, List.any_nil, Bool.or_false, ty_tupB, isTupB, Bool.not_false, or_cons, List.take_length]
    exact no rfl
end
end Fy

/-! Pl21: the law's words for markings. -/
namespace Fy
open PySem (Str)
theorem top_at {st : Sto} {c : Cell} : (st ++ [c])[st.length]? = some c := by
  rw [List.getElem?_append_right (Nat.le_refl _), Nat.sub_self]
  rfl
theorem top_set {st : Sto} {c c' : Cell} : (st ++ [c]).set st.length c' = st ++ [c'] := by
  rw [List.set_append_right _ _ (Nat.le_refl _), Nat.sub_self]
  rfl
theorem top_take {st r : Sto} : (st ++ r).take st.length = st := List.take_left ..
theorem take_snoc {xs : List P} {j : Nat} {x : P} (h : xs[j]? = some x) : xs.take (j + 1) = xs.take j ++ [x] := by
  rw [List.take_succ, h]
  rfl
/-- the law's is_marking: n its name test, c its cell test -/
def gLMarking (n c : Nat) : Sts := (.cons (.ite (.or (.not (.isi (.var 0) [.tup] false)) (.cons (.cmp .gt (.blt .len (.cons (.var 0) .nil)) (.cst (.int 8))) .nil)) (.cons (.ret (.cst (.bl false))) .nil) .nil) (.cons (.asg 1 (.new (.lst .nil))) (.cons (.for_ (.nm 2) (.val (.var 0)) (.cons (.ite (.or (.not (.isi (.var 2) [.tup] false)) (.cons (.cmp .ne (.blt .len (.cons (.var 2) .nil)) (.cst (.int 2))) .nil)) (.cons (.ret (.cst (.bl false))) .nil) .nil) (.cons (.ite (.or (.not (.cal n (.cons (.idx (.var 2) (.cst (.int 0))) .nil))) (.cons (.not (.cal c (.cons (.idx (.var 2) (.cst (.int 1))) .nil))) .nil)) (.cons (.ret (.cst (.bl false))) .nil) .nil) (.cons (.expr (.mth .append (.var 1) (.cons (.idx (.var 2) (.cst (.int 0))) .nil))) .nil)))) (.cons (.ret (.cmp .eq (.var 1) (.sst (.var 1)))) .nil))))
section
variable {T : Tab} {w f n c : Nat}
theorem lmarking_ok (hf : T.fns[f]? = some ⟨1, 3, gLMarking n c⟩) (hn : T.fns[n]? = some ⟨1, 2, gLName⟩) (hc : T.fns[c]? = some ⟨1, 2, gLCells w⟩) (hw : T.fns[w]? = some ⟨1, 1, gWhole⟩)
    {k cc d : Nat} {p : P} {st : Sto} {W : Sl → Sto → Prop} (hp : Th cc d p) (hcc : cc ≤ 100000) (hq : W (.val (.bl (mkP p))) st) : Ok (run T (k + 3) f [.val p] st) W := by
  refine ok_run hf rfl (by decide) ?_
  unfold gLMarking
  have no : mkP p = false → W (.val (.bl false)) st := fun e => by
    rw [← e]
    exact hq
  cases p with
  | tup xs =>
    obtain ⟨lx, e, rfl, hx⟩ := hp.tup_in
    simp only [List.map_cons, List.map_nil, List.cons_append, List.nil_append, List.replicate, evSs, evS, evE.eq_1, evE.eq_2, evE.eq_3, evE.eq_4, evE.eq_5, evE.eq_6, evE.eq_7, evE.eq_8, evE.eq_9, evE.eq_10, evE.eq_11, evE.eq_12, evE.eq_13, evE.eq_14, evE.eq_15, evE.eq_16, evE.eq_17, evE.eq_18, evE.eq_19, evE.eq_20, evE.eq_24, evE.eq_25, evE.eq_26, evE.eq_27, evEs, ok_bnd, List.getElem?_cons_zero, List.getElem?_cons_succ, ok_ret, peek_val, asP_val, ok_some, Option.map_some, idx_lst, idx_tup, at_0, at_1, at_2, cmp_gt, cmp_ge, cmp_lt, cmp_le, tru_bl, bin_add, bin_sub, blt_int, blt_intb, peeks_nil, peeks_cons, List.set_cons_zero, List.set_cons_succ, lv_val, set_slot, vals_nil, vals_cons, ok_ok, cell_lst, cell_dct, Ex.fresh, if_true, List.length_cons, List.length_nil, Nat.reduceAdd, Nat.reduceLT, Nat.reduceSub, Nat.zero_add, List.any_cons, List.any_nil, Bool.or_false, ty_tupB, isTupB, Bool.not_true, or_cons, or_nil, Bool.false_eq_true, if_false, len_tup]
    by_cases h2 : (8 : Int) < (xs.length : Nat)
    · simp only [List.map_cons, List.map_nil, List.cons_append, List.nil_append, List.replicate, evSs, evS, evE.eq_1, evE.eq_2, evE.eq_3, evE.eq_4, evE.eq_5, evE.eq_6, evE.eq_7, evE.eq_8, evE.eq_9, evE.eq_10, evE.eq_11, evE.eq_12, evE.eq_13, evE.eq_14, evE.eq_15, evE.eq_16, evE.eq_17, evE.eq_18, evE.eq_19, evE.eq_20, evE.eq_24, evE.eq_25, evE.eq_26, evE.eq_27, evEs, ok_bnd, List.getElem?_cons_zero, List.getElem?_cons_succ, ok_ret, peek_val, asP_val, ok_some, Option.map_some, idx_lst, idx_tup, at_0, at_1, at_2, cmp_gt, cmp_ge, cmp_lt, cmp_le, tru_bl, bin_add, bin_sub, blt_int, blt_intb, peeks_nil, peeks_cons, List.set_cons_zero, List.set_cons_succ, lv_val, set_slot, vals_nil, vals_cons, ok_ok, cell_lst, cell_dct, Ex.fresh, if_true, List.length_cons, List.length_nil, Nat.reduceAdd, Nat.reduceLT, Nat.reduceSub, Nat.zero_add, decide_eq_true h2, List.take_length]
      exact no (by rw [mk_tup, decide_eq_false (show ¬ xs.length ≤ 8 by omega), Bool.false_and])
    · simp only [List.map_cons, List.map_nil, List.cons_append, List.nil_append, List.replicate, evSs, evS, evE.eq_1, evE.eq_2, evE.eq_3, evE.eq_4, evE.eq_5, evE.eq_6, evE.eq_7, evE.eq_8, evE.eq_9, evE.eq_10, evE.eq_11, evE.eq_12, evE.eq_13, evE.eq_14, evE.eq_15, evE.eq_16, evE.eq_17, evE.eq_18, evE.eq_19, evE.eq_20, evE.eq_24, evE.eq_25, evE.eq_26, evE.eq_27, evEs, ok_bnd, List.getElem?_cons_zero, List.getElem?_cons_succ, ok_ret, peek_val, asP_val, ok_some, Option.map_some, idx_lst, idx_tup, at_0, at_1, at_2, cmp_gt, cmp_ge, cmp_lt, cmp_le, tru_bl, bin_add, bin_sub, blt_int, blt_intb, peeks_nil, peeks_cons, List.set_cons_zero, List.set_cons_succ, lv_val, set_slot, vals_nil, vals_cons, ok_ok, cell_lst, cell_dct, Ex.fresh, if_true, List.length_cons, List.length_nil, Nat.reduceAdd, Nat.reduceLT, Nat.reduceSub, Nat.zero_add, decide_eq_false h2, evI, itm_tup, Bool.false_eq_true, if_false]
      have ec : mkP (.tup xs) = (xs.all prB && ascB (xs.map fst0)) := by
        rw [mk_tup, decide_eq_true (show xs.length ≤ 8 by omega), Bool.true_and]
      refine guard_loop (fun j => prB (xs.getD j .non)) (fun j env t => t = st ++ [.lst ((xs.take j).map fst0)] ∧ ∃ z, env = [some (.val (.tup xs)), some (.ref st.length), z]) (fun env t => t.take st.length = st) ⟨rfl, none, rfl⟩ (fun j x env t hj _ ⟨h3, z, h4⟩ => ?_) (fun env t hall ⟨h3, z, h4⟩ => ?_) fun env t hall h3 => ?_
      · subst h3
        subst h4
        have hxm := hx x (List.mem_of_getElem? hj)
        have lj := lt_of_some hj
        have eb : bindP (.nm 2) x [some (.val (.tup xs)), some (.ref st.length), z] = some [some (.val (.tup xs)), some (.ref st.length), some (.val x)] := rfl
        rw [eb]
        simp only [getD_at hj]
        cases x with
        | tup ys =>
          obtain ⟨ly, e2, rfl, hy⟩ := hxm.tup_in
          simp only [List.map_cons, List.map_nil, List.cons_append, List.nil_append, List.replicate, evSs, evS, evE.eq_1, evE.eq_2, evE.eq_3, evE.eq_4, evE.eq_5, evE.eq_6, evE.eq_7, evE.eq_8, evE.eq_9, evE.eq_10, evE.eq_11, evE.eq_12, evE.eq_13, evE.eq_14, evE.eq_15, evE.eq_16, evE.eq_17, evE.eq_18, evE.eq_19, evE.eq_20, evE.eq_24, evE.eq_25, evE.eq_26, evE.eq_27, evEs, ok_bnd, List.getElem?_cons_zero, List.getElem?_cons_succ, ok_ret, peek_val, asP_val, ok_some, Option.map_some, idx_lst, idx_tup, at_0, at_1, at_2, cmp_gt, cmp_ge, cmp_lt, cmp_le, tru_bl, bin_add, bin_sub, blt_int, blt_intb, peeks_nil, peeks_cons, List.set_cons_zero, List.set_cons_succ, lv_val, set_slot, vals_nil, vals_cons, ok_ok, cell_lst, cell_dct, Ex.fresh, if_true, List.length_cons, List.length_nil, Nat.reduceAdd, Nat.reduceLT, Nat.reduceSub, Nat.zero_add, List.any_cons, List.any_nil, Bool.or_false, ty_tupB, isTupB, Bool.not_true, or_cons, or_nil, Bool.false_eq_true, if_false, len_tup, ne_int]
          by_cases h5 : ((ys.length : Nat) : Int) = 2
          · obtain ⟨p1, p2, rfl⟩ := len_two h5
            have ee : prB (.tup [p1, p2]) = (nmP p1 && clsP p2) := rfl
            simp only [List.map_cons, List.map_nil, List.cons_append, List.nil_append, List.replicate, evSs, evS, evE.eq_1, evE.eq_2, evE.eq_3, evE.eq_4, evE.eq_5, evE.eq_6, evE.eq_7, evE.eq_8, evE.eq_9, evE.eq_10, evE.eq_11, evE.eq_12, evE.eq_13, evE.eq_14, evE.eq_15, evE.eq_16, evE.eq_17, evE.eq_18, evE.eq_19, evE.eq_20, evE.eq_24, evE.eq_25, evE.eq_26, evE.eq_27, evEs, ok_bnd, List.getElem?_cons_zero, List.getElem?_cons_succ, ok_ret, peek_val, asP_val, ok_some, Option.map_some, idx_lst, idx_tup, at_0, at_1, at_2, cmp_gt, cmp_ge, cmp_lt, cmp_le, tru_bl, bin_add, bin_sub, blt_int, blt_intb, peeks_nil, peeks_cons, List.set_cons_zero, List.set_cons_succ, lv_val, set_slot, vals_nil, vals_cons, ok_ok, cell_lst, cell_dct, Ex.fresh, if_true, List.length_cons, List.length_nil, Nat.reduceAdd, Nat.reduceLT, Nat.reduceSub, Nat.zero_add, show (!(((2 : Nat) : Int) == 2)) = false from rfl, Bool.false_eq_true, if_false]
            refine lname_ok (k := k + 1) hn (small_str (hy p1 (by simp)) hcc) ?_
            cases h6 : nmP p1 with
            | true =>
              simp only [List.map_cons, List.map_nil, List.cons_append, List.nil_append, List.replicate, evSs, evS, evE.eq_1, evE.eq_2, evE.eq_3, evE.eq_4, evE.eq_5, evE.eq_6, evE.eq_7, evE.eq_8, evE.eq_9, evE.eq_10, evE.eq_11, evE.eq_12, evE.eq_13, evE.eq_14, evE.eq_15, evE.eq_16, evE.eq_17, evE.eq_18, evE.eq_19, evE.eq_20, evE.eq_24, evE.eq_25, evE.eq_26, evE.eq_27, evEs, ok_bnd, List.getElem?_cons_zero, List.getElem?_cons_succ, ok_ret, peek_val, asP_val, ok_some, Option.map_some, idx_lst, idx_tup, at_0, at_1, at_2, cmp_gt, cmp_ge, cmp_lt, cmp_le, tru_bl, bin_add, bin_sub, blt_int, blt_intb, peeks_nil, peeks_cons, List.set_cons_zero, List.set_cons_succ, lv_val, set_slot, vals_nil, vals_cons, ok_ok, cell_lst, cell_dct, Ex.fresh, if_true, List.length_cons, List.length_nil, Nat.reduceAdd, Nat.reduceLT, Nat.reduceSub, Nat.zero_add, Bool.not_true, or_cons, or_nil, Bool.false_eq_true, if_false]
              refine lcells_ok (k := k) hc hw (hy p2 (by simp)).flat ?_
              cases h7 : clsP p2 with
              | true =>
                simp only [List.map_cons, List.map_nil, List.cons_append, List.nil_append, List.replicate, evSs, evS, evE.eq_1, evE.eq_2, evE.eq_3, evE.eq_4, evE.eq_5, evE.eq_6, evE.eq_7, evE.eq_8, evE.eq_9, evE.eq_10, evE.eq_11, evE.eq_12, evE.eq_13, evE.eq_14, evE.eq_15, evE.eq_16, evE.eq_17, evE.eq_18, evE.eq_19, evE.eq_20, evE.eq_24, evE.eq_25, evE.eq_26, evE.eq_27, evEs, ok_bnd, List.getElem?_cons_zero, List.getElem?_cons_succ, ok_ret, peek_val, asP_val, ok_some, Option.map_some, idx_lst, idx_tup, at_0, at_1, at_2, cmp_gt, cmp_ge, cmp_lt, cmp_le, tru_bl, bin_add, bin_sub, blt_int, blt_intb, peeks_nil, peeks_cons, List.set_cons_zero, List.set_cons_succ, lv_val, set_slot, vals_nil, vals_cons, ok_ok, cell_lst, cell_dct, Ex.fresh, if_true, List.length_cons, List.length_nil, Nat.reduceAdd, Nat.reduceLT, Nat.reduceSub, Nat.zero_add, Bool.not_true, Bool.false_eq_true, if_false, peek_lst top_at, of_app]
                rw [app_cell top_at (by rw [List.length_map, List.length_take]; omega), top_set]
                refine ⟨by rw [ee, h6, h7]; rfl, ?_, _, rfl⟩
                rw [take_snoc hj, List.map_append]
                rfl
              | false =>
                simp only [List.map_cons, List.map_nil, List.cons_append, List.nil_append, List.replicate, evSs, evS, evE.eq_1, evE.eq_2, evE.eq_3, evE.eq_4, evE.eq_5, evE.eq_6, evE.eq_7, evE.eq_8, evE.eq_9, evE.eq_10, evE.eq_11, evE.eq_12, evE.eq_13, evE.eq_14, evE.eq_15, evE.eq_16, evE.eq_17, evE.eq_18, evE.eq_19, evE.eq_20, evE.eq_24, evE.eq_25, evE.eq_26, evE.eq_27, evEs, ok_bnd, List.getElem?_cons_zero, List.getElem?_cons_succ, ok_ret, peek_val, asP_val, ok_some, Option.map_some, idx_lst, idx_tup, at_0, at_1, at_2, cmp_gt, cmp_ge, cmp_lt, cmp_le, tru_bl, bin_add, bin_sub, blt_int, blt_intb, peeks_nil, peeks_cons, List.set_cons_zero, List.set_cons_succ, lv_val, set_slot, vals_nil, vals_cons, ok_ok, cell_lst, cell_dct, Ex.fresh, if_true, List.length_cons, List.length_nil, Nat.reduceAdd, Nat.reduceLT, Nat.reduceSub, Nat.zero_add, Bool.not_false]
                exact ⟨by rw [ee, h6, h7]; rfl, trivial, top_take⟩
            | false =>
              simp only [List.map_cons, List.map_nil, List.cons_append, List.nil_append, List.replicate, evSs, evS, evE.eq_1, evE.eq_2, evE.eq_3, evE.eq_4, evE.eq_5, evE.eq_6, evE.eq_7, evE.eq_8, evE.eq_9, evE.eq_10, evE.eq_11, evE.eq_12, evE.eq_13, evE.eq_14, evE.eq_15, evE.eq_16, evE.eq_17, evE.eq_18, evE.eq_19, evE.eq_20, evE.eq_24, evE.eq_25, evE.eq_26, evE.eq_27, evEs, ok_bnd, List.getElem?_cons_zero, List.getElem?_cons_succ, ok_ret, peek_val, asP_val, ok_some, Option.map_some, idx_lst, idx_tup, at_0, at_1, at_2, cmp_gt, cmp_ge, cmp_lt, cmp_le, tru_bl, bin_add, bin_sub, blt_int, blt_intb, peeks_nil, peeks_cons, List.set_cons_zero, List.set_cons_succ, lv_val, set_slot, vals_nil, vals_cons, ok_ok, cell_lst, cell_dct, Ex.fresh, if_true, List.length_cons, List.length_nil, Nat.reduceAdd, Nat.reduceLT, Nat.reduceSub, Nat.zero_add, Bool.not_false, or_cons]
              exact ⟨by rw [ee, h6]; rfl, trivial, top_take⟩
          · have e4 : (!(((ys.length : Nat) : Int) == 2)) = true := by
              rw [beq_eq_false_iff_ne.mpr h5]
              rfl
            simp only [List.map_cons, List.map_nil, List.cons_append, List.nil_append, List.replicate, evSs, evS, evE.eq_1, evE.eq_2, evE.eq_3, evE.eq_4, evE.eq_5, evE.eq_6, evE.eq_7, evE.eq_8, evE.eq_9, evE.eq_10, evE.eq_11, evE.eq_12, evE.eq_13, evE.eq_14, evE.eq_15, evE.eq_16, evE.eq_17, evE.eq_18, evE.eq_19, evE.eq_20, evE.eq_24, evE.eq_25, evE.eq_26, evE.eq_27, evEs, ok_bnd, List.getElem?_cons_zero, List.getElem?_cons_succ, ok_ret, peek_val, asP_val, ok_some, Option.map_some, idx_lst, idx_tup, at_0, at_1, at_2, cmp_gt, cmp_ge, cmp_lt, cmp_le, tru_bl, bin_add, bin_sub, blt_int, blt_intb, peeks_nil, peeks_cons, List.set_cons_zero, List.set_cons_succ, lv_val, set_slot, vals_nil, vals_cons, ok_ok, cell_lst, cell_dct, Ex.fresh, if_true, List.length_cons, List.length_nil, Nat.reduceAdd, Nat.reduceLT, Nat.reduceSub, Nat.zero_add, e4]
            exact ⟨pr_not h5, trivial, top_take⟩
        | _ =>
          simp only [List.map_cons, List.map_nil, List.cons_append, List.nil_append, List.replicate, evSs, evS, evE.eq_1, evE.eq_2, evE.eq_3, evE.eq_4, evE.eq_5, evE.eq_6, evE.eq_7, evE.eq_8, evE.eq_9, evE.eq_10, evE.eq_11, evE.eq_12, evE.eq_13, evE.eq_14, evE.eq_15, evE.eq_16, evE.eq_17, evE.eq_18, evE.eq_19, evE.eq_20, evE.eq_24, evE.eq_25, evE.eq_26, evE.eq_27, evEs, ok_bnd, List.getElem?_cons_zero, List.getElem?_cons_succ, ok_ret, peek_val, asP_val, ok_some, Option.map_some, idx_lst, idx_tup, at_0, at_1, at_2, cmp_gt, cmp_ge, cmp_lt, cmp_le, tru_bl, bin_add, bin_sub, blt_int, blt_intb, peeks_nil, peeks_cons, List.set_cons_zero, List.set_cons_succ, lv_val, set_slot, vals_nil, vals_cons, ok_ok, cell_lst, cell_dct, Ex.fresh, if_true, List.length_cons, List.length_nil, Nat.reduceAdd, Nat.reduceLT, Nat.reduceSub, Nat.zero_add, List.any_cons, List.any_nil, Bool.or_false, ty_tupB, isTupB, Bool.not_false, or_cons]
          exact ⟨rfl, trivial, top_take⟩
      · subst h3
        subst h4
        rw [all_at prB] at hall
        have hall' := List.all_eq_true.mp hall
        rw [List.take_length]
        have kx : Kin (xs.map fst0) := names_kin fun x hm => by
          obtain ⟨p1, p2, rfl, h6, _⟩ := pr_of (hall' x hm)
          exact h6
        simp only [List.map_cons, List.map_nil, List.cons_append, List.nil_append, List.replicate, evSs, evS, evE.eq_1, evE.eq_2, evE.eq_3, evE.eq_4, evE.eq_5, evE.eq_6, evE.eq_7, evE.eq_8, evE.eq_9, evE.eq_10, evE.eq_11, evE.eq_12, evE.eq_13, evE.eq_14, evE.eq_15, evE.eq_16, evE.eq_17, evE.eq_18, evE.eq_19, evE.eq_20, evE.eq_24, evE.eq_25, evE.eq_26, evE.eq_27, evEs, ok_bnd, List.getElem?_cons_zero, List.getElem?_cons_succ, ok_ret, peek_val, asP_val, ok_some, Option.map_some, idx_lst, idx_tup, at_0, at_1, at_2, cmp_gt, cmp_ge, cmp_lt, cmp_le, tru_bl, bin_add, bin_sub, blt_int, blt_intb, peeks_nil, peeks_cons, List.set_cons_zero, List.set_cons_succ, lv_val, set_slot, vals_nil, vals_cons, ok_ok, cell_lst, cell_dct, Ex.fresh, if_true, List.length_cons, List.length_nil, Nat.reduceAdd, Nat.reduceLT, Nat.reduceSub, Nat.zero_add, peek_lst top_at, row_lst]
        rw [if_pos (kx.can (by rw [List.length_map]; omega))]
        simp only [List.map_cons, List.map_nil, List.cons_append, List.nil_append, List.replicate, evSs, evS, evE.eq_1, evE.eq_2, evE.eq_3, evE.eq_4, evE.eq_5, evE.eq_6, evE.eq_7, evE.eq_8, evE.eq_9, evE.eq_10, evE.eq_11, evE.eq_12, evE.eq_13, evE.eq_14, evE.eq_15, evE.eq_16, evE.eq_17, evE.eq_18, evE.eq_19, evE.eq_20, evE.eq_24, evE.eq_25, evE.eq_26, evE.eq_27, evEs, ok_bnd, List.getElem?_cons_zero, List.getElem?_cons_succ, ok_ret, peek_val, asP_val, ok_some, Option.map_some, idx_lst, idx_tup, at_0, at_1, at_2, cmp_gt, cmp_ge, cmp_lt, cmp_le, tru_bl, bin_add, bin_sub, blt_int, blt_intb, peeks_nil, peeks_cons, List.set_cons_zero, List.set_cons_succ, lv_val, set_slot, vals_nil, vals_cons, ok_ok, cell_lst, cell_dct, Ex.fresh, if_true, List.length_cons, List.length_nil, Nat.reduceAdd, Nat.reduceLT, Nat.reduceSub, Nat.zero_add, peek_lst top_at, kx.sorted, top_take]
        rw [ec, hall] at hq
        exact hq
      · rw [all_at prB] at hall
        simp only [List.map_cons, List.map_nil, List.cons_append, List.nil_append, List.replicate, evSs, evS, evE.eq_1, evE.eq_2, evE.eq_3, evE.eq_4, evE.eq_5, evE.eq_6, evE.eq_7, evE.eq_8, evE.eq_9, evE.eq_10, evE.eq_11, evE.eq_12, evE.eq_13, evE.eq_14, evE.eq_15, evE.eq_16, evE.eq_17, evE.eq_18, evE.eq_19, evE.eq_20, evE.eq_24, evE.eq_25, evE.eq_26, evE.eq_27, evEs, ok_bnd, List.getElem?_cons_zero, List.getElem?_cons_succ, ok_ret, peek_val, asP_val, ok_some, Option.map_some, idx_lst, idx_tup, at_0, at_1, at_2, cmp_gt, cmp_ge, cmp_lt, cmp_le, tru_bl, bin_add, bin_sub, blt_int, blt_intb, peeks_nil, peeks_cons, List.set_cons_zero, List.set_cons_succ, lv_val, set_slot, vals_nil, vals_cons, ok_ok, cell_lst, cell_dct, Ex.fresh, if_true, List.length_cons, List.length_nil, Nat.reduceAdd, Nat.reduceLT, Nat.reduceSub, Nat.zero_add, h3]
        exact no (by rw [ec, hall]; rfl)
  | _ =>
    simp only [List.map_cons, List.map_nil, List.cons_append, List.nil_append, List.replicate, evSs, evS, evE.eq_1, evE.eq_2, evE.eq_3, evE.eq_4, evE.eq_5, evE.eq_6, evE.eq_7, evE.eq_8, evE.eq_9, evE.eq_10, evE.eq_11, evE.eq_12, evE.eq_13, evE.eq_14, evE.eq_15, evE.eq_16, evE.eq_17, evE.eq_18, evE.eq_19, evE.eq_20, evE.eq_24, evE.eq_25, evE.eq_26, evE.eq_27, evEs, ok_bnd, List.getElem?_cons_zero, List.getElem?_cons_succ, ok_ret, peek_val, asP_val, ok_some, Option.map_some, idx_lst, idx_tup, at_0, at_1, at_2, cmp_gt, cmp_ge, cmp_lt, cmp_le, tru_bl, bin_add, bin_sub, blt_int, blt_intb, peeks_nil, peeks_cons, List.set_cons_zero, List.set_cons_succ, lv_val, set_slot, vals_nil, vals_cons, ok_ok, cell_lst, cell_dct, Ex.fresh, if_true, List.length_cons, List.length_nil, Nat.reduceAdd, Nat.reduceLT, Nat.reduceSub, Nat.zero_add, List.any_cons, List.any_nil, Bool.or_false, ty_tupB, isTupB, Bool.not_false, or_cons, List.take_length]
    exact no rfl
end
end Fy

/-! Pl22: dicts of integers; the same key, the same cells. -/
namespace Fy
open PySem (Str)
def IntKeys (kvs : List (P × P)) : Prop := ∀ e ∈ kvs, ∃ i, e.1 = .int i
theorem int_eqv {i j : Int} : (P.int i).eqv (.int j) = (i == j) := rfl
theorem look_put {kvs : List (P × P)} {k k' : Int} {v : P} (h : IntKeys kvs) : look (putKv kvs (.int k) v) (.int k') = if k = k' then some v else look kvs (.int k') := by
  unfold putKv
  by_cases ha : (kvs.any fun e => e.1.eqv (.int k)) = true
  · rw [if_pos ha]
    unfold look
    rw [List.find?_map]
    have e1 : ((fun kv : P × P => kv.1.eqv (.int k')) ∘ fun e : P × P => if e.1.eqv (.int k) then (e.1, v) else e) = fun kv : P × P => kv.1.eqv (.int k') := by
      funext e
      show (if e.1.eqv (.int k) then (e.1, v) else e).1.eqv (.int k') = _
      split <;> rfl
    rw [e1]
    by_cases hk : k = k'
    · subst hk
      rw [if_pos rfl]
      obtain ⟨e, he, hv⟩ := List.any_eq_true.mp ha
      cases hf : kvs.find? fun kv => kv.1.eqv (.int k) with
      | none =>
        have := List.find?_eq_none.mp hf e he
        exact absurd hv this
      | some y =>
        have hy : y.1.eqv (.int k) = true := List.find?_some (p := fun kv : P × P => kv.1.eqv (.int k)) hf
        show some (if y.1.eqv (.int k) then (y.1, v) else y).2 = _
        rw [if_pos hy]
    · rw [if_neg hk]
      cases hf : kvs.find? fun kv => kv.1.eqv (.int k') with
      | none => rfl
      | some y =>
        have hy : y.1.eqv (.int k') = true := List.find?_some (p := fun kv : P × P => kv.1.eqv (.int k')) hf
        obtain ⟨i, ei⟩ := h y (List.mem_of_find?_eq_some hf)
        have hn : y.1.eqv (.int k) = false := by
          rw [ei, int_eqv] at hy
          rw [ei, int_eqv, beq_eq_false_iff_ne]
          rw [beq_iff_eq] at hy
          omega
        show some (if y.1.eqv (.int k) then (y.1, v) else y).2 = some y.2
        rw [hn, if_neg Bool.false_ne_true]
  · rw [if_neg ha]
    unfold look
    rw [List.find?_append]
    by_cases hk : k = k'
    · subst hk
      rw [if_pos rfl]
      have hf : (kvs.find? fun kv => kv.1.eqv (.int k)) = none := List.find?_eq_none.mpr fun e he hv => ha (List.any_eq_true.mpr ⟨e, he, hv⟩)
      rw [hf, Option.none_or, List.find?_cons_of_pos (by rw [int_eqv]; exact beq_self_eq_true k)]
      rfl
    · rw [if_neg hk]
      have e2 : (List.find? (fun kv : P × P => kv.1.eqv (.int k')) [(P.int k, v)]) = none := by
        rw [List.find?_cons_of_neg (by rw [int_eqv, beq_eq_false_iff_ne.mpr hk]; exact Bool.false_ne_true)]
        rfl
      rw [e2, Option.or_none]
theorem put_keys {kvs : List (P × P)} {k : Int} {v : P} (h : IntKeys kvs) : IntKeys (putKv kvs (.int k) v) := fun e he => by
  unfold putKv at he
  split at he
  · obtain ⟨y, hy, rfl⟩ := List.mem_map.mp he
    obtain ⟨i, ei⟩ := h y hy
    refine ⟨i, ?_⟩
    split
    · exact ei
    · exact ei
  · (rcases List.mem_append.mp he with he | he)
    · exact h e he
    · rw [List.mem_singleton.mp he]
      exact ⟨k, rfl⟩
theorem put_len {kvs : List (P × P)} {k v : P} : (putKv kvs k v).length ≤ kvs.length + 1 := by
  unfold putKv
  split
  · rw [List.length_map]
    exact Nat.le_succ _
  · rw [List.length_append]
    exact Nat.le_refl _
/-- a world's triple -/
abbrev Tr := P × Int × P
def mkT (t : Tr) : P := .tup [t.1, .int t.2.1, t.2.2]
/-- the table behind the triples -/
def tblT (ts : List Tr) : List (P × P) := ts.foldl (fun kvs t => putKv kvs (.int t.2.1) t.2.2) []
theorem tbl_snoc {ts : List Tr} {t : Tr} : tblT (ts ++ [t]) = putKv (tblT ts) (.int t.2.1) t.2.2 := by
  unfold tblT
  rw [List.foldl_append]
  rfl
theorem snoc_ind {α : Type} {M : List α → Prop} (h0 : M []) (h1 : ∀ l a, M l → M (l ++ [a])) (l : List α) : M l := by
  have go : ∀ l : List α, M l.reverse := fun l => by
    induction l with
    | nil => exact h0
    | cons a l ih =>
      rw [List.reverse_cons]
      exact h1 _ a ih
  have z := go l.reverse
  rw [List.reverse_reverse] at z
  exact z
theorem tbl_ok (ts : List Tr) : IntKeys (tblT ts) ∧ (tblT ts).length ≤ ts.length ∧ (∀ k v, look (tblT ts) (.int k) = some v → ∃ t ∈ ts, t.2.1 = k ∧ t.2.2 = v) ∧ ∀ t ∈ ts, ∃ v, look (tblT ts) (.int t.2.1) = some v := by
  refine snoc_ind (M := fun ts => IntKeys (tblT ts) ∧ (tblT ts).length ≤ ts.length ∧ (∀ k v, look (tblT ts) (.int k) = some v → ∃ t ∈ ts, t.2.1 = k ∧ t.2.2 = v) ∧ ∀ t ∈ ts, ∃ v, look (tblT ts) (.int t.2.1) = some v) ?_ (fun ts t ⟨h1, h2, h3, h4⟩ => ?_) ts
  · exact ⟨fun e he => (nomatch he), Nat.le_refl _, fun k v h => (nomatch h), fun t ht => (nomatch ht)⟩
  · rw [tbl_snoc]
    refine ⟨put_keys h1, ?_, fun k v h => ?_, fun u hu => ?_⟩
    · have := put_len (kvs := tblT ts) (k := .int t.2.1) (v := t.2.2)
      (rw [List.length_append, List.length_singleton])
      omega
    · rw [look_put h1] at h
      split at h
      · rename_i hk
        exact ⟨t, List.mem_append.mpr (.inr (List.mem_singleton.mpr rfl)), hk, Option.some.inj h⟩
      · obtain ⟨u, hu, e⟩ := h3 k v h
        exact ⟨u, List.mem_append.mpr (.inl hu), e⟩
    · rw [look_put h1]
      split
      · exact ⟨_, rfl⟩
      · rename_i hk
        (rcases List.mem_append.mp hu with hu | hu)
        · exact h4 u hu
        · rw [List.mem_singleton.mp hu] at hk
          exact absurd rfl hk
/-- two triples with one key have the same cells -/
def samT (ts : List Tr) : Bool := ts.all fun t => ts.all fun u => !(t.2.1 == u.2.1) || t.2.2.eqv u.2.2
theorem cls_eqv {a b : P} (ha : clsP a = true) (hb : clsP b = true) : a.eqv b = true ↔ a = b := by
  have get : ∀ {p : P}, clsP p = true → ∃ is : List Int, p = .tup (is.map P.int) := fun {p} h => by
    cases p with
    | tup xs =>
      rw [cls_tup, Bool.and_eq_true, Bool.and_eq_true, Bool.and_eq_true] at h
      obtain ⟨as, e⟩ := in_map (f := P.int) (l := xs) fun x hx => by
        obtain ⟨i, e⟩ := cell_int (List.all_eq_true.mp h.2.2.1 x hx)
        exact ⟨i, e.symm⟩
      exact ⟨as, by rw [e]⟩
    | _ => exact absurd h Bool.false_ne_true
  obtain ⟨as, rfl⟩ := get ha
  obtain ⟨bs, rfl⟩ := get hb
  show P.eqvs (as.map P.int) (bs.map P.int) = true ↔ _
  rw [eqvs_map lin_int]
  refine ⟨fun h => by rw [h], fun h => ?_⟩
  injection h with h
  exact (eqvs_map lin_int as bs).mp (by rw [h]; exact (eqvs_map lin_int bs bs).mpr rfl)
theorem sam_iff {ts : List Tr} (h : ∀ t ∈ ts, clsP t.2.2 = true) : samT ts = true ↔ ∀ t ∈ ts, ∀ u ∈ ts, t.2.1 = u.2.1 → t.2.2 = u.2.2 := by
  unfold samT
  rw [List.all_eq_true]
  refine forall_congr' fun t => forall_congr' fun ht => ?_
  rw [List.all_eq_true]
  refine forall_congr' fun u => forall_congr' fun hu => ?_
  rw [Bool.or_eq_true, cls_eqv (h t ht) (h u hu)]
  by_cases e : t.2.1 = u.2.1
  · rw [e]
    simp
  · rw [beq_eq_false_iff_ne.mpr e]
    simp [e]
/-- each triple's cells are what the table has at the end -/
theorem tbl_same {ts : List Tr} (h : ∀ t ∈ ts, clsP t.2.2 = true) : (ts.all fun t => ((look (tblT ts) (.int t.2.1)).getD .non).eqv t.2.2) = samT ts := by
  obtain ⟨_, _, h3, h4⟩ := tbl_ok ts
  rw [Bool.eq_iff_iff, sam_iff h, List.all_eq_true]
  refine ⟨fun g t ht u hu e => ?_, fun g t ht => ?_⟩
  · have gt := g t ht
    have gu := g u hu
    obtain ⟨v, hv⟩ := h4 t ht
    obtain ⟨r, hr, _, er⟩ := h3 _ _ hv
    rw [hv] at gt
    rw [← e, hv] at gu
    have cv : clsP v = true := by
      rw [← er]
      exact h r hr
    exact ((cls_eqv cv (h t ht)).mp gt).symm.trans ((cls_eqv cv (h u hu)).mp gu)
  · obtain ⟨v, hv⟩ := h4 t ht
    obtain ⟨r, hr, ek, er⟩ := h3 _ _ hv
    rw [hv]
    show v.eqv t.2.2 = true
    rw [← er, cls_eqv (h r hr) (h t ht)]
    exact g r hr t ht ek
/-- the law's look, triple by triple -/
def chkT (ts : List Tr) (t : Tr) : Bool := ((look (tblT ts) (.int t.2.1)).getD t.2.2).eqv t.2.2
theorem sam_snoc {ts : List Tr} {t : Tr} (h : ∀ u ∈ ts ++ [t], clsP u.2.2 = true) : samT (ts ++ [t]) = (samT ts && chkT ts t) := by
  have hts : ∀ u ∈ ts, clsP u.2.2 = true := fun u hu => h u (List.mem_append.mpr (.inl hu))
  have ht : clsP t.2.2 = true := h t (List.mem_append.mpr (.inr (List.mem_singleton.mpr rfl)))
  obtain ⟨_, _, h3, h4⟩ := tbl_ok ts
  rw [Bool.eq_iff_iff, Bool.and_eq_true, sam_iff h, sam_iff hts]
  have self : t.2.2.eqv t.2.2 = true := (cls_eqv ht ht).mpr rfl
  refine ⟨fun g => ⟨fun u hu v hv => g u (List.mem_append.mpr (.inl hu)) v (List.mem_append.mpr (.inl hv)), ?_⟩, fun ⟨g1, g2⟩ u hu v hv e => ?_⟩
  · unfold chkT
    cases hl : look (tblT ts) (.int t.2.1) with
    | none => exact self
    | some v =>
      obtain ⟨r, hr, ek, er⟩ := h3 _ _ hl
      show v.eqv t.2.2 = true
      rw [← er, cls_eqv (hts r hr) ht]
      exact g r (List.mem_append.mpr (.inl hr)) t (List.mem_append.mpr (.inr (List.mem_singleton.mpr rfl))) ek
  · have old : ∀ u ∈ ts, u.2.1 = t.2.1 → u.2.2 = t.2.2 := fun u hu e => by
      obtain ⟨v, hv⟩ := h4 u hu
      obtain ⟨r, hr, ek, er⟩ := h3 _ _ hv
      unfold chkT at g2
      rw [← e, hv] at g2
      have g2 : v.eqv t.2.2 = true := g2
      rw [← er, cls_eqv (hts r hr) ht] at g2
      rw [← g2]
      exact g1 u hu r hr ek.symm
    (rcases List.mem_append.mp hu with hu | hu)
    · (rcases List.mem_append.mp hv with hv | hv)
      · exact g1 u hu v hv e
      · rw [List.mem_singleton.mp hv] at e ⊢
        exact old u hu e
    · rw [List.mem_singleton.mp hu] at e ⊢
      rcases List.mem_append.mp hv with hv | hv
      · exact (old v hv e.symm).symm
      · rw [List.mem_singleton.mp hv]
end Fy

/-! Pl23: worlds. -/
namespace Fy
open PySem (Str)
def at1 : P → P
  | .tup (_ :: b :: _) => b
  | _ => .non
def at2 : P → P
  | .tup (_ :: _ :: z :: _) => z
  | _ => .non
def trB : P → Bool
  | .tup [a, b, z] => nmP a && (cellB b && clsP z)
  | _ => false
def samP (xs : List P) : Bool := xs.all fun t => xs.all fun u => !((at1 t).eqv (at1 u)) || (at2 t).eqv (at2 u)
def wdP : P → Bool
  | .tup xs => decide (xs.length ≤ 8) && (xs.all trB && (ascB (xs.map fst0) && samP xs))
  | _ => false
theorem wd_tup {xs : List P} : wdP (.tup xs) = (decide (xs.length ≤ 8) && (xs.all trB && (ascB (xs.map fst0) && samP xs))) := rfl
theorem len_thr {xs : List P} (h : ((xs.length : Nat) : Int) = 3) : ∃ a b z, xs = [a, b, z] := by
  match xs, h with
  | [a, b, z], _ => exact ⟨a, b, z, rfl⟩
  | [], h => exact absurd h (by decide)
  | [_], h => exact absurd h (by simp only [List.length_cons, List.length_nil]; omega)
  | [_, _], h => exact absurd h (by simp only [List.length_cons, List.length_nil]; omega)
  | _ :: _ :: _ :: _ :: r, h => exact absurd h (by simp only [List.length_cons]; omega)
theorem tr_not {xs : List P} (h : ¬ ((xs.length : Nat) : Int) = 3) : trB (.tup xs) = false := by
  match xs, h with
  | [a, b, z], h => exact absurd rfl h
  | [], _ => rfl
  | [_], _ => rfl
  | [_, _], _ => rfl
  | _ :: _ :: _ :: _ :: r, _ => rfl
theorem tr_of {x : P} (h : trB x = true) : ∃ t : Tr, x = mkT t ∧ nmP t.1 = true ∧ cellB (.int t.2.1) = true ∧ clsP t.2.2 = true := by
  cases x with
  | tup xs =>
    by_cases h2 : ((xs.length : Nat) : Int) = 3
    · obtain ⟨a, b, z, rfl⟩ := len_thr h2
      have h : (nmP a && (cellB b && clsP z)) = true := h
      rw [Bool.and_eq_true, Bool.and_eq_true] at h
      obtain ⟨i, rfl⟩ := cell_int h.2.1
      exact ⟨(a, i, z), rfl, h.1, h.2.1, h.2.2⟩
    · rw [tr_not h2] at h
      cases h
  | _ => exact absurd h Bool.false_ne_true
theorem trs_of {xs : List P} (h : xs.all trB = true) : ∃ ts : List Tr, xs = ts.map mkT ∧ ∀ t ∈ ts, nmP t.1 = true ∧ clsP t.2.2 = true := by
  induction xs with
  | nil => exact ⟨[], rfl, fun t ht => nomatch ht⟩
  | cons x xs ih =>
    (rw [List.all_cons, Bool.and_eq_true] at h)
    obtain ⟨ts, e, hts⟩ := ih h.2
    obtain ⟨t, et, h1, _, h3⟩ := tr_of h.1
    refine ⟨t :: ts, by rw [List.map_cons, et, e], fun u hu => ?_⟩
    (rcases List.mem_cons.mp hu with rfl | hu)
    · exact ⟨h1, h3⟩
    · exact hts u hu
theorem sam_map {ts : List Tr} : samP (ts.map mkT) = samT ts := by
  unfold samP samT
  rw [List.all_map]
  refine congrArg (ts.all ·) (funext fun t => ?_)
  show (ts.map mkT).all _ = _
  rw [List.all_map]
  rfl
def tblP (xs : List P) : List (P × P) := xs.foldl (fun kvs t => putKv kvs (at1 t) (at2 t)) []
theorem tbl_map {ts : List Tr} : tblP (ts.map mkT) = tblT ts := by
  unfold tblP tblT
  rw [List.foldl_map]
  rfl
def chkP (pre : List P) (x : P) : Bool := ((look (tblP pre) (at1 x)).getD (at2 x)).eqv (at2 x)
theorem guard_all {xs : List P} : ∀ j, j ≤ xs.length → (List.range j).all (fun j => trB (xs.getD j .non) && chkP (xs.take j) (xs.getD j .non)) = ((xs.take j).all trB && samP (xs.take j))
  | 0, _ => by
    rw [List.take_zero]
    rfl
  | j + 1, hj => by
    have hx : xs[j]? = some xs[j] := List.getElem?_eq_getElem (by omega)
    rw [all_range, guard_all j (by omega), getD_at hx, take_snoc hx, List.all_append, List.all_cons, List.all_nil, Bool.and_true]
    cases h1 : (xs.take j).all trB with
    | false => rfl
    | true =>
      cases h2 : trB xs[j] with
      | false =>
        rw [Bool.false_and, Bool.and_false, Bool.and_false, Bool.false_and]
      | true =>
        obtain ⟨ts, e, hts⟩ := trs_of h1
        obtain ⟨t, et, n1, _, n3⟩ := tr_of h2
        have e2 : ts.map mkT ++ [mkT t] = (ts ++ [t]).map mkT := by
          rw [List.map_append]
          rfl
        have e3 : chkP (ts.map mkT) (mkT t) = chkT ts t := by
          unfold chkP chkT
          rw [tbl_map]
          rfl
        rw [e, et, e2, sam_map, sam_map, e3, sam_snoc fun u hu => ?_]
        · rfl
        · rcases List.mem_append.mp hu with hu | hu
          · exact (hts u hu).2
          · rw [List.mem_singleton.mp hu]
            exact n3
theorem cls_flat {a : P} (h : clsP a = true) : a.flat = true ∧ a.depth ≤ 1 := by
  cases a with
  | tup xs =>
    rw [cls_tup, Bool.and_eq_true, Bool.and_eq_true, Bool.and_eq_true] at h
    have k := cells_kin h.2.2.1
    refine ⟨flats_all k.flat, Nat.succ_le_succ (depths_all (d := 0) fun x hx => Nat.le_of_eq (k.dep x hx))⟩
  | _ => exact absurd h Bool.false_ne_true
theorem cls_eq {a b : P} (ha : clsP a = true) (hb : clsP b = true) : cmpP .eq a b = some (a.eqv b) := by
  have e : cmpP .eq a b = if a.flat && b.flat && decide (min a.depth b.depth ≤ depthMost) then some (a.eqv b) else none := rfl
  rw [e, (cls_flat ha).1, (cls_flat hb).1, decide_eq_true (Nat.le_trans (Nat.min_le_left _ _) (Nat.le_trans (cls_flat ha).2 (by decide)))]
  rfl
theorem cls_ne {a b : P} (ha : clsP a = true) (hb : clsP b = true) : cmpP .ne a b = some (!a.eqv b) := by
  show (cmpP .eq a b).map (!·) = _
  rw [cls_eq ha hb]
  rfl
/-- {k: v for p in xs} -/
theorem dcm_pat {C : Ev} {ke ve : Ex} {p : Pt} {own : List Nat} {it : It} {env : Env} {W : Sl → Sto → Prop} {st : Sto} {xs : List P} (gk gv : P → P) (fr : freeP p (wipeE env own) = true) (hx : Ok (evI C it env st) fun ys t => ys = xs ∧ t = st) (hl : xs.length ≤ 100000)
    (hs : ∀ x ∈ xs, keyOk (gk x) = true ∧ ∃ env', bindP p x (wipeE env own) = some env' ∧ (Ok (evE C ke env' st) fun v t => v = .val (gk x) ∧ t = st) ∧ Ok (evE C ve env' st) fun v t => v = .val (gv x) ∧ t = st) (hw : W (.val (.dct (xs.foldl (fun kvs x => putKv kvs (gk x) (gv x)) []))) st) : Ok (evE C (.dcm ke ve own (.cons p it .nil .nil)) env st) W := by
  rw [evE, ok_bnd, gen_pat fr]
  refine hx.imp fun ys t ⟨e1, e2⟩ => ?_
  subst e1
  subst e2
  refine fold_ok (fun j acc u => acc = (ys.take j).map (fun x => .tup [gk x, gv x]) ∧ u = t) ⟨rfl, rfl⟩ (fun j x acc u hj ⟨h1, h2⟩ => ?_) fun acc u ⟨h1, h2⟩ => ?_
  · subst h1
    subst h2
    have hm : x ∈ ys := List.mem_of_getElem? hj
    have lt := lt_of_some hj
    obtain ⟨hk, env', eb, h3, h4⟩ := hs x hm
    rw [eb]
    show Ok (bnd (ret true) _ u) _
    rw [ok_bnd, ok_ret, if_pos rfl, ok_bnd]
    refine h3.imp fun v w ⟨h5, h6⟩ => ?_
    subst h5
    subst h6
    rw [ok_bnd, asP_val, ok_bnd]
    refine h4.imp fun v w' ⟨h5, h6⟩ => ?_
    subst h5
    subst h6
    rw [ok_bnd, asP_val]
    have lm : ((ys.take j).map fun x => P.tup [gk x, gv x]).length < lenMost := by
      rw [List.length_map, List.length_take]
      have : lenMost = 100000 := rfl
      omega
    rw [hk, decide_eq_true lm]
    refine ⟨?_, rfl⟩
    rw [List.take_succ, hj, List.map_append]
    rfl
  · subst h1
    subst h2
    rw [List.take_length]
    rw [ok_ret, List.foldl_map]
    exact hw
end Fy

/-! Pl24: is_triple, is_world. -/
namespace Fy
open PySem (Str)
def gTriple (n w c : Nat) : Sts := (.cons (.ite (.or (.not (.isi (.var 0) [.tup] false)) (.cons (.cmp .ne (.blt .len (.cons (.var 0) .nil)) (.cst (.int 3))) (.cons (.not (.cal n (.cons (.idx (.var 0) (.cst (.int 0))) .nil))) .nil))) (.cons (.ret (.cst (.bl false))) .nil) .nil) (.cons (.ret (.and (.cal w (.cons (.idx (.var 0) (.cst (.int 1))) .nil)) (.cons (.cmp2 .le .le (.cst (.int 0)) (.idx (.var 0) (.cst (.int 1))) (.glo 1)) (.cons (.cal c (.cons (.idx (.var 0) (.cst (.int 2))) .nil)) .nil)))) .nil))
def gWorld (r a : Nat) : Sts := (.cons (.ite (.or (.not (.isi (.var 0) [.tup] false)) (.cons (.cmp .gt (.blt .len (.cons (.var 0) .nil)) (.cst (.int 8))) (.cons (.not (.blt .all (.cons (.lcm (.cal r (.cons (.var 1) .nil)) [1] (.cons (.nm 1) (.val (.var 0)) .nil .nil)) .nil))) .nil))) (.cons (.ret (.cst (.bl false))) .nil) .nil) (.cons (.asg 2 (.dcm (.var 4) (.var 5) [3, 4, 5] (.cons (.tp [(.nm 3), (.nm 4), (.nm 5)]) (.val (.var 0)) .nil .nil))) (.cons (.ret (.and (.cal a (.cons (.lcm (.idx (.var 1) (.cst (.int 0))) [1] (.cons (.nm 1) (.val (.var 0)) .nil .nil)) .nil)) (.cons (.blt .all (.cons (.lcm (.cmp .eq (.idx (.var 2) (.var 4)) (.var 5)) [3, 4, 5] (.cons (.tp [(.nm 3), (.nm 4), (.nm 5)]) (.val (.var 0)) .nil .nil)) .nil)) .nil))) .nil)))
def gLWorld (n w c : Nat) : Sts := (.cons (.ite (.or (.not (.isi (.var 0) [.tup] false)) (.cons (.cmp .gt (.blt .len (.cons (.var 0) .nil)) (.cst (.int 8))) .nil)) (.cons (.ret (.cst (.bl false))) .nil) .nil) (.cons (.par 1 2 (.new (.lst .nil)) (.new .emp)) (.cons (.for_ (.nm 3) (.val (.var 0)) (.cons (.ite (.or (.not (.isi (.var 3) [.tup] false)) (.cons (.cmp .ne (.blt .len (.cons (.var 3) .nil)) (.cst (.int 3))) (.cons (.not (.cal n (.cons (.idx (.var 3) (.cst (.int 0))) .nil))) .nil))) (.cons (.ret (.cst (.bl false))) .nil) .nil) (.cons (.ite (.or (.not (.cal w (.cons (.idx (.var 3) (.cst (.int 1))) .nil))) (.cons (.not (.cmp2 .le .le (.cst (.int 0)) (.idx (.var 3) (.cst (.int 1))) (.cst (.int 1000000)))) (.cons (.not (.cal c (.cons (.idx (.var 3) (.cst (.int 2))) .nil))) .nil))) (.cons (.ret (.cst (.bl false))) .nil) .nil) (.cons (.ite (.cmp .ne (.mth .get2 (.var 2) (.cons (.idx (.var 3) (.cst (.int 1))) (.cons (.idx (.var 3) (.cst (.int 2))) .nil))) (.idx (.var 3) (.cst (.int 2)))) (.cons (.ret (.cst (.bl false))) .nil) .nil) (.cons (.expr (.mth .append (.var 1) (.cons (.idx (.var 3) (.cst (.int 0))) .nil))) (.cons (.seti (.var 2) (.idx (.var 3) (.cst (.int 1))) (.idx (.var 3) (.cst (.int 2)))) .nil)))))) (.cons (.ret (.cmp .eq (.var 1) (.sst (.var 1)))) .nil))))
section
variable {T : Tab} {w a f n c r : Nat}
theorem triple_ok (hf : T.fns[f]? = some ⟨1, 1, gTriple n w c⟩) (hn : T.fns[n]? = some ⟨1, 2, gName⟩) (hc : T.fns[c]? = some ⟨1, 2, gCells w a⟩) (hw : T.fns[w]? = some ⟨1, 1, gWhole⟩) (ha : T.fns[a]? = some ⟨1, 3, gAsc⟩) (hg : T.glo[1]? = some (.int 1000000)) (hl : T.glo[0]? = some (.str letters))
    {k cc d : Nat} {p : P} {st : Sto} {W : Sl → Sto → Prop} (hp : Th cc d p) (hcc : cc ≤ 100000) (hq : W (.val (.bl (trB p))) st) : Ok (run T (k + 3) f [.val p] st) W := by
  refine ok_run hf rfl (by decide) ?_
  unfold gTriple
  have no : trB p = false → W (.val (.bl false)) st := fun e => by
    rw [← e]
    exact hq
  cases p with
  | tup ys =>
    obtain ⟨ly, e2, rfl, hy⟩ := hp.tup_in
    simp only [List.map_cons, List.map_nil, List.cons_append, List.nil_append, List.replicate, evSs, evS, evE.eq_1, evE.eq_2, evE.eq_3, evE.eq_4, evE.eq_5, evE.eq_6, evE.eq_7, evE.eq_8, evE.eq_9, evE.eq_10, evE.eq_11, evE.eq_12, evE.eq_13, evE.eq_14, evE.eq_15, evE.eq_16, evE.eq_17, evE.eq_18, evE.eq_19, evE.eq_20, evE.eq_24, evE.eq_25, evE.eq_26, evE.eq_27, evEs, ok_bnd, List.getElem?_cons_zero, List.getElem?_cons_succ, ok_ret, peek_val, asP_val, ok_some, Option.map_some, idx_lst, idx_tup, at_0, at_1, at_2, cmp_gt, cmp_ge, cmp_lt, cmp_le, tru_bl, bin_add, bin_sub, blt_int, blt_intb, peeks_nil, peeks_cons, List.set_cons_zero, List.set_cons_succ, lv_val, set_slot, vals_nil, vals_cons, ok_ok, cell_lst, cell_dct, Ex.fresh, if_true, List.length_cons, List.length_nil, Nat.reduceAdd, Nat.reduceLT, Nat.reduceSub, Nat.zero_add, List.any_cons, List.any_nil, Bool.or_false, ty_tupB, isTupB, Bool.not_true, or_cons, or_nil, Bool.false_eq_true, if_false, len_tup, ne_int]
    by_cases h5 : ((ys.length : Nat) : Int) = 3
    · obtain ⟨p1, p2, p3, rfl⟩ := len_thr h5
      have ee : trB (.tup [p1, p2, p3]) = (nmP p1 && (cellB p2 && clsP p3)) := rfl
      simp only [List.map_cons, List.map_nil, List.cons_append, List.nil_append, List.replicate, evSs, evS, evE.eq_1, evE.eq_2, evE.eq_3, evE.eq_4, evE.eq_5, evE.eq_6, evE.eq_7, evE.eq_8, evE.eq_9, evE.eq_10, evE.eq_11, evE.eq_12, evE.eq_13, evE.eq_14, evE.eq_15, evE.eq_16, evE.eq_17, evE.eq_18, evE.eq_19, evE.eq_20, evE.eq_24, evE.eq_25, evE.eq_26, evE.eq_27, evEs, ok_bnd, List.getElem?_cons_zero, List.getElem?_cons_succ, ok_ret, peek_val, asP_val, ok_some, Option.map_some, idx_lst, idx_tup, at_0, at_1, at_2, cmp_gt, cmp_ge, cmp_lt, cmp_le, tru_bl, bin_add, bin_sub, blt_int, blt_intb, peeks_nil, peeks_cons, List.set_cons_zero, List.set_cons_succ, lv_val, set_slot, vals_nil, vals_cons, ok_ok, cell_lst, cell_dct, Ex.fresh, if_true, List.length_cons, List.length_nil, Nat.reduceAdd, Nat.reduceLT, Nat.reduceSub, Nat.zero_add, show (!(((3 : Nat) : Int) == 3)) = false from rfl, Bool.false_eq_true, if_false]
      refine name_ok (k := k + 1) hn hl (small_str (hy p1 (by simp)) hcc) ?_
      cases h6 : nmP p1 with
      | true =>
        simp only [List.map_cons, List.map_nil, List.cons_append, List.nil_append, List.replicate, evSs, evS, evE.eq_1, evE.eq_2, evE.eq_3, evE.eq_4, evE.eq_5, evE.eq_6, evE.eq_7, evE.eq_8, evE.eq_9, evE.eq_10, evE.eq_11, evE.eq_12, evE.eq_13, evE.eq_14, evE.eq_15, evE.eq_16, evE.eq_17, evE.eq_18, evE.eq_19, evE.eq_20, evE.eq_24, evE.eq_25, evE.eq_26, evE.eq_27, evEs, ok_bnd, List.getElem?_cons_zero, List.getElem?_cons_succ, ok_ret, peek_val, asP_val, ok_some, Option.map_some, idx_lst, idx_tup, at_0, at_1, at_2, cmp_gt, cmp_ge, cmp_lt, cmp_le, tru_bl, bin_add, bin_sub, blt_int, blt_intb, peeks_nil, peeks_cons, List.set_cons_zero, List.set_cons_succ, lv_val, set_slot, vals_nil, vals_cons, ok_ok, cell_lst, cell_dct, Ex.fresh, if_true, List.length_cons, List.length_nil, Nat.reduceAdd, Nat.reduceLT, Nat.reduceSub, Nat.zero_add, Bool.not_true, Bool.false_eq_true, if_false]
        refine whole_ok (k := k + 1) hw ?_
        cases p2 with
        | int i =>
          simp only [List.map_cons, List.map_nil, List.cons_append, List.nil_append, List.replicate, evSs, evS, evE.eq_1, evE.eq_2, evE.eq_3, evE.eq_4, evE.eq_5, evE.eq_6, evE.eq_7, evE.eq_8, evE.eq_9, evE.eq_10, evE.eq_11, evE.eq_12, evE.eq_13, evE.eq_14, evE.eq_15, evE.eq_16, evE.eq_17, evE.eq_18, evE.eq_19, evE.eq_20, evE.eq_24, evE.eq_25, evE.eq_26, evE.eq_27, evEs, ok_bnd, List.getElem?_cons_zero, List.getElem?_cons_succ, ok_ret, peek_val, asP_val, ok_some, Option.map_some, idx_lst, idx_tup, at_0, at_1, at_2, cmp_gt, cmp_ge, cmp_lt, cmp_le, tru_bl, bin_add, bin_sub, blt_int, blt_intb, peeks_nil, peeks_cons, List.set_cons_zero, List.set_cons_succ, lv_val, set_slot, vals_nil, vals_cons, ok_ok, cell_lst, cell_dct, Ex.fresh, if_true, List.length_cons, List.length_nil, Nat.reduceAdd, Nat.reduceLT, Nat.reduceSub, Nat.zero_add, wholeP, and_cons, hg]
          by_cases h3 : (0 : Int) ≤ i
          · by_cases h4 : i ≤ 1000000
            · simp only [List.map_cons, List.map_nil, List.cons_append, List.nil_append, List.replicate, evSs, evS, evE.eq_1, evE.eq_2, evE.eq_3, evE.eq_4, evE.eq_5, evE.eq_6, evE.eq_7, evE.eq_8, evE.eq_9, evE.eq_10, evE.eq_11, evE.eq_12, evE.eq_13, evE.eq_14, evE.eq_15, evE.eq_16, evE.eq_17, evE.eq_18, evE.eq_19, evE.eq_20, evE.eq_24, evE.eq_25, evE.eq_26, evE.eq_27, evEs, ok_bnd, List.getElem?_cons_zero, List.getElem?_cons_succ, ok_ret, peek_val, asP_val, ok_some, Option.map_some, idx_lst, idx_tup, at_0, at_1, at_2, cmp_gt, cmp_ge, cmp_lt, cmp_le, tru_bl, bin_add, bin_sub, blt_int, blt_intb, peeks_nil, peeks_cons, List.set_cons_zero, List.set_cons_succ, lv_val, set_slot, vals_nil, vals_cons, ok_ok, cell_lst, cell_dct, Ex.fresh, if_true, List.length_cons, List.length_nil, Nat.reduceAdd, Nat.reduceLT, Nat.reduceSub, Nat.zero_add, decide_eq_true h3, decide_eq_true h4, and_cons]
              refine cells_ok (k := k) hc hw ha hg ?_
              simp only [List.map_cons, List.map_nil, List.cons_append, List.nil_append, List.replicate, evSs, evS, evE.eq_1, evE.eq_2, evE.eq_3, evE.eq_4, evE.eq_5, evE.eq_6, evE.eq_7, evE.eq_8, evE.eq_9, evE.eq_10, evE.eq_11, evE.eq_12, evE.eq_13, evE.eq_14, evE.eq_15, evE.eq_16, evE.eq_17, evE.eq_18, evE.eq_19, evE.eq_20, evE.eq_24, evE.eq_25, evE.eq_26, evE.eq_27, evEs, ok_bnd, List.getElem?_cons_zero, List.getElem?_cons_succ, ok_ret, peek_val, asP_val, ok_some, Option.map_some, idx_lst, idx_tup, at_0, at_1, at_2, cmp_gt, cmp_ge, cmp_lt, cmp_le, tru_bl, bin_add, bin_sub, blt_int, blt_intb, peeks_nil, peeks_cons, List.set_cons_zero, List.set_cons_succ, lv_val, set_slot, vals_nil, vals_cons, ok_ok, cell_lst, cell_dct, Ex.fresh, if_true, List.length_cons, List.length_nil, Nat.reduceAdd, Nat.reduceLT, Nat.reduceSub, Nat.zero_add, and_nil, List.take_length]
              have e7 : trB (.tup [p1, .int i, p3]) = clsP p3 := by
                rw [ee, h6]
                show ((decide (0 ≤ i) && decide (i ≤ 1000000)) && clsP p3) = _
                rw [decide_eq_true h3, decide_eq_true h4]
                rfl
              rw [← e7]
              exact hq
            · simp only [List.map_cons, List.map_nil, List.cons_append, List.nil_append, List.replicate, evSs, evS, evE.eq_1, evE.eq_2, evE.eq_3, evE.eq_4, evE.eq_5, evE.eq_6, evE.eq_7, evE.eq_8, evE.eq_9, evE.eq_10, evE.eq_11, evE.eq_12, evE.eq_13, evE.eq_14, evE.eq_15, evE.eq_16, evE.eq_17, evE.eq_18, evE.eq_19, evE.eq_20, evE.eq_24, evE.eq_25, evE.eq_26, evE.eq_27, evEs, ok_bnd, List.getElem?_cons_zero, List.getElem?_cons_succ, ok_ret, peek_val, asP_val, ok_some, Option.map_some, idx_lst, idx_tup, at_0, at_1, at_2, cmp_gt, cmp_ge, cmp_lt, cmp_le, tru_bl, bin_add, bin_sub, blt_int, blt_intb, peeks_nil, peeks_cons, List.set_cons_zero, List.set_cons_succ, lv_val, set_slot, vals_nil, vals_cons, ok_ok, cell_lst, cell_dct, Ex.fresh, if_true, List.length_cons, List.length_nil, Nat.reduceAdd, Nat.reduceLT, Nat.reduceSub, Nat.zero_add, decide_eq_true h3, decide_eq_false h4, and_cons, Bool.false_eq_true, if_false, List.take_length]
              exact no (by
                rw [ee]
                show (nmP p1 && ((decide (0 ≤ i) && decide (i ≤ 1000000)) && clsP p3)) = _
                rw [decide_eq_false h4, Bool.and_false, Bool.false_and, Bool.and_false])
          · simp only [List.map_cons, List.map_nil, List.cons_append, List.nil_append, List.replicate, evSs, evS, evE.eq_1, evE.eq_2, evE.eq_3, evE.eq_4, evE.eq_5, evE.eq_6, evE.eq_7, evE.eq_8, evE.eq_9, evE.eq_10, evE.eq_11, evE.eq_12, evE.eq_13, evE.eq_14, evE.eq_15, evE.eq_16, evE.eq_17, evE.eq_18, evE.eq_19, evE.eq_20, evE.eq_24, evE.eq_25, evE.eq_26, evE.eq_27, evEs, ok_bnd, List.getElem?_cons_zero, List.getElem?_cons_succ, ok_ret, peek_val, asP_val, ok_some, Option.map_some, idx_lst, idx_tup, at_0, at_1, at_2, cmp_gt, cmp_ge, cmp_lt, cmp_le, tru_bl, bin_add, bin_sub, blt_int, blt_intb, peeks_nil, peeks_cons, List.set_cons_zero, List.set_cons_succ, lv_val, set_slot, vals_nil, vals_cons, ok_ok, cell_lst, cell_dct, Ex.fresh, if_true, List.length_cons, List.length_nil, Nat.reduceAdd, Nat.reduceLT, Nat.reduceSub, Nat.zero_add, decide_eq_false h3, and_cons, Bool.false_eq_true, if_false, List.take_length]
            exact no (by
              rw [ee]
              show (nmP p1 && ((decide (0 ≤ i) && decide (i ≤ 1000000)) && clsP p3)) = _
              rw [decide_eq_false h3, Bool.false_and, Bool.false_and, Bool.and_false])
        | _ =>
          simp only [List.map_cons, List.map_nil, List.cons_append, List.nil_append, List.replicate, evSs, evS, evE.eq_1, evE.eq_2, evE.eq_3, evE.eq_4, evE.eq_5, evE.eq_6, evE.eq_7, evE.eq_8, evE.eq_9, evE.eq_10, evE.eq_11, evE.eq_12, evE.eq_13, evE.eq_14, evE.eq_15, evE.eq_16, evE.eq_17, evE.eq_18, evE.eq_19, evE.eq_20, evE.eq_24, evE.eq_25, evE.eq_26, evE.eq_27, evEs, ok_bnd, List.getElem?_cons_zero, List.getElem?_cons_succ, ok_ret, peek_val, asP_val, ok_some, Option.map_some, idx_lst, idx_tup, at_0, at_1, at_2, cmp_gt, cmp_ge, cmp_lt, cmp_le, tru_bl, bin_add, bin_sub, blt_int, blt_intb, peeks_nil, peeks_cons, List.set_cons_zero, List.set_cons_succ, lv_val, set_slot, vals_nil, vals_cons, ok_ok, cell_lst, cell_dct, Ex.fresh, if_true, List.length_cons, List.length_nil, Nat.reduceAdd, Nat.reduceLT, Nat.reduceSub, Nat.zero_add, wholeP, and_cons, Bool.false_eq_true, if_false, List.take_length]
          exact no (by rw [ee, h6]; rfl)
      | false =>
        simp only [List.map_cons, List.map_nil, List.cons_append, List.nil_append, List.replicate, evSs, evS, evE.eq_1, evE.eq_2, evE.eq_3, evE.eq_4, evE.eq_5, evE.eq_6, evE.eq_7, evE.eq_8, evE.eq_9, evE.eq_10, evE.eq_11, evE.eq_12, evE.eq_13, evE.eq_14, evE.eq_15, evE.eq_16, evE.eq_17, evE.eq_18, evE.eq_19, evE.eq_20, evE.eq_24, evE.eq_25, evE.eq_26, evE.eq_27, evEs, ok_bnd, List.getElem?_cons_zero, List.getElem?_cons_succ, ok_ret, peek_val, asP_val, ok_some, Option.map_some, idx_lst, idx_tup, at_0, at_1, at_2, cmp_gt, cmp_ge, cmp_lt, cmp_le, tru_bl, bin_add, bin_sub, blt_int, blt_intb, peeks_nil, peeks_cons, List.set_cons_zero, List.set_cons_succ, lv_val, set_slot, vals_nil, vals_cons, ok_ok, cell_lst, cell_dct, Ex.fresh, if_true, List.length_cons, List.length_nil, Nat.reduceAdd, Nat.reduceLT, Nat.reduceSub, Nat.zero_add, Bool.not_false, List.take_length]
        exact no (by rw [ee, h6]; rfl)
    · have e4 : (!(((ys.length : Nat) : Int) == 3)) = true := by
        rw [beq_eq_false_iff_ne.mpr h5]
        rfl
      simp only [List.map_cons, List.map_nil, List.cons_append, List.nil_append, List.replicate, evSs, evS, evE.eq_1, evE.eq_2, evE.eq_3, evE.eq_4, evE.eq_5, evE.eq_6, evE.eq_7, evE.eq_8, evE.eq_9, evE.eq_10, evE.eq_11, evE.eq_12, evE.eq_13, evE.eq_14, evE.eq_15, evE.eq_16, evE.eq_17, evE.eq_18, evE.eq_19, evE.eq_20, evE.eq_24, evE.eq_25, evE.eq_26, evE.eq_27, evEs, ok_bnd, List.getElem?_cons_zero, List.getElem?_cons_succ, ok_ret, peek_val, asP_val, ok_some, Option.map_some, idx_lst, idx_tup, at_0, at_1, at_2, cmp_gt, cmp_ge, cmp_lt, cmp_le, tru_bl, bin_add, bin_sub, blt_int, blt_intb, peeks_nil, peeks_cons, List.set_cons_zero, List.set_cons_succ, lv_val, set_slot, vals_nil, vals_cons, ok_ok, cell_lst, cell_dct, Ex.fresh, if_true, List.length_cons, List.length_nil, Nat.reduceAdd, Nat.reduceLT, Nat.reduceSub, Nat.zero_add, e4, List.take_length]
      exact no (tr_not h5)
  | _ =>
    simp only [List.map_cons, List.map_nil, List.cons_append, List.nil_append, List.replicate, evSs, evS, evE.eq_1, evE.eq_2, evE.eq_3, evE.eq_4, evE.eq_5, evE.eq_6, evE.eq_7, evE.eq_8, evE.eq_9, evE.eq_10, evE.eq_11, evE.eq_12, evE.eq_13, evE.eq_14, evE.eq_15, evE.eq_16, evE.eq_17, evE.eq_18, evE.eq_19, evE.eq_20, evE.eq_24, evE.eq_25, evE.eq_26, evE.eq_27, evEs, ok_bnd, List.getElem?_cons_zero, List.getElem?_cons_succ, ok_ret, peek_val, asP_val, ok_some, Option.map_some, idx_lst, idx_tup, at_0, at_1, at_2, cmp_gt, cmp_ge, cmp_lt, cmp_le, tru_bl, bin_add, bin_sub, blt_int, blt_intb, peeks_nil, peeks_cons, List.set_cons_zero, List.set_cons_succ, lv_val, set_slot, vals_nil, vals_cons, ok_ok, cell_lst, cell_dct, Ex.fresh, if_true, List.length_cons, List.length_nil, Nat.reduceAdd, Nat.reduceLT, Nat.reduceSub, Nat.zero_add, List.any_cons, List.any_nil, Bool.or_false, ty_tupB, isTupB, Bool.not_false, or_cons, List.take_length]
    exact no rfl
theorem world_ok (hf : T.fns[f]? = some ⟨1, 6, gWorld r a⟩) (hr : T.fns[r]? = some ⟨1, 1, gTriple n w c⟩) (hn : T.fns[n]? = some ⟨1, 2, gName⟩) (hc : T.fns[c]? = some ⟨1, 2, gCells w a⟩) (hw : T.fns[w]? = some ⟨1, 1, gWhole⟩) (ha : T.fns[a]? = some ⟨1, 3, gAsc⟩) (hg : T.glo[1]? = some (.int 1000000)) (hl : T.glo[0]? = some (.str letters))
    {k cc d : Nat} {p : P} {st : Sto} {W : Sl → Sto → Prop} (hp : Th cc d p) (hcc : cc ≤ 100000) (hq : W (.val (.bl (wdP p))) st) : Ok (run T (k + 4) f [.val p] st) W := by
  refine ok_run hf rfl (by decide) ?_
  unfold gWorld
  have no : wdP p = false → W (.val (.bl false)) st := fun e => by
    rw [← e]
    exact hq
  cases p with
  | tup xs =>
    obtain ⟨lx, e, rfl, hx⟩ := hp.tup_in
    simp only [List.map_cons, List.map_nil, List.cons_append, List.nil_append, List.replicate, evSs, evS, evE.eq_1, evE.eq_2, evE.eq_3, evE.eq_4, evE.eq_5, evE.eq_6, evE.eq_7, evE.eq_8, evE.eq_9, evE.eq_10, evE.eq_11, evE.eq_12, evE.eq_13, evE.eq_14, evE.eq_15, evE.eq_16, evE.eq_17, evE.eq_18, evE.eq_19, evE.eq_20, evE.eq_24, evE.eq_25, evE.eq_26, evE.eq_27, evEs, ok_bnd, List.getElem?_cons_zero, List.getElem?_cons_succ, ok_ret, peek_val, asP_val, ok_some, Option.map_some, idx_lst, idx_tup, at_0, at_1, at_2, cmp_gt, cmp_ge, cmp_lt, cmp_le, tru_bl, bin_add, bin_sub, blt_int, blt_intb, peeks_nil, peeks_cons, List.set_cons_zero, List.set_cons_succ, lv_val, set_slot, vals_nil, vals_cons, ok_ok, cell_lst, cell_dct, Ex.fresh, if_true, List.length_cons, List.length_nil, Nat.reduceAdd, Nat.reduceLT, Nat.reduceSub, Nat.zero_add, List.any_cons, List.any_nil, Bool.or_false, ty_tupB, isTupB, Bool.not_true, or_cons, or_nil, Bool.false_eq_true, if_false, len_tup]
    by_cases h2 : (8 : Int) < (xs.length : Nat)
    · simp only [List.map_cons, List.map_nil, List.cons_append, List.nil_append, List.replicate, evSs, evS, evE.eq_1, evE.eq_2, evE.eq_3, evE.eq_4, evE.eq_5, evE.eq_6, evE.eq_7, evE.eq_8, evE.eq_9, evE.eq_10, evE.eq_11, evE.eq_12, evE.eq_13, evE.eq_14, evE.eq_15, evE.eq_16, evE.eq_17, evE.eq_18, evE.eq_19, evE.eq_20, evE.eq_24, evE.eq_25, evE.eq_26, evE.eq_27, evEs, ok_bnd, List.getElem?_cons_zero, List.getElem?_cons_succ, ok_ret, peek_val, asP_val, ok_some, Option.map_some, idx_lst, idx_tup, at_0, at_1, at_2, cmp_gt, cmp_ge, cmp_lt, cmp_le, tru_bl, bin_add, bin_sub, blt_int, blt_intb, peeks_nil, peeks_cons, List.set_cons_zero, List.set_cons_succ, lv_val, set_slot, vals_nil, vals_cons, ok_ok, cell_lst, cell_dct, Ex.fresh, if_true, List.length_cons, List.length_nil, Nat.reduceAdd, Nat.reduceLT, Nat.reduceSub, Nat.zero_add, decide_eq_true h2, List.take_length]
      exact no (by rw [wd_tup, decide_eq_false (show ¬ xs.length ≤ 8 by omega), Bool.false_and])
    · simp only [List.map_cons, List.map_nil, List.cons_append, List.nil_append, List.replicate, evSs, evS, evE.eq_1, evE.eq_2, evE.eq_3, evE.eq_4, evE.eq_5, evE.eq_6, evE.eq_7, evE.eq_8, evE.eq_9, evE.eq_10, evE.eq_11, evE.eq_12, evE.eq_13, evE.eq_14, evE.eq_15, evE.eq_16, evE.eq_17, evE.eq_18, evE.eq_19, evE.eq_20, evE.eq_24, evE.eq_25, evE.eq_26, evE.eq_27, evEs, ok_bnd, List.getElem?_cons_zero, List.getElem?_cons_succ, ok_ret, peek_val, asP_val, ok_some, Option.map_some, idx_lst, idx_tup, at_0, at_1, at_2, cmp_gt, cmp_ge, cmp_lt, cmp_le, tru_bl, bin_add, bin_sub, blt_int, blt_intb, peeks_nil, peeks_cons, List.set_cons_zero, List.set_cons_succ, lv_val, set_slot, vals_nil, vals_cons, ok_ok, cell_lst, cell_dct, Ex.fresh, if_true, List.length_cons, List.length_nil, Nat.reduceAdd, Nat.reduceLT, Nat.reduceSub, Nat.zero_add, decide_eq_false h2, Bool.false_eq_true, if_false]
      have ec : wdP (.tup xs) = (xs.all trB && (ascB (xs.map fst0) && samP xs)) := by
        rw [wd_tup, decide_eq_true (show xs.length ≤ 8 by omega), Bool.true_and]
      refine map_ok (env := [some (.val (.tup xs)), none, none, none, none, none]) (g := fun s => .bl (trB s)) (xs := xs) (by simp [wipeE]) rfl ⟨rfl, rfl⟩ (by omega) (fun s hm => ?_) ?_
      · simp only [List.map_cons, List.map_nil, List.cons_append, List.nil_append, List.replicate, evSs, evS, evE.eq_1, evE.eq_2, evE.eq_3, evE.eq_4, evE.eq_5, evE.eq_6, evE.eq_7, evE.eq_8, evE.eq_9, evE.eq_10, evE.eq_11, evE.eq_12, evE.eq_13, evE.eq_14, evE.eq_15, evE.eq_16, evE.eq_17, evE.eq_18, evE.eq_19, evE.eq_20, evE.eq_24, evE.eq_25, evE.eq_26, evE.eq_27, evEs, ok_bnd, List.getElem?_cons_zero, List.getElem?_cons_succ, ok_ret, peek_val, asP_val, ok_some, Option.map_some, idx_lst, idx_tup, at_0, at_1, at_2, cmp_gt, cmp_ge, cmp_lt, cmp_le, tru_bl, bin_add, bin_sub, blt_int, blt_intb, peeks_nil, peeks_cons, List.set_cons_zero, List.set_cons_succ, lv_val, set_slot, vals_nil, vals_cons, ok_ok, cell_lst, cell_dct, Ex.fresh, if_true, List.length_cons, List.length_nil, Nat.reduceAdd, Nat.reduceLT, Nat.reduceSub, Nat.zero_add, wipeE]
        exact triple_ok hr hn hc hw ha hg hl (hx s hm) hcc ⟨rfl, rfl⟩
      · simp only [List.map_cons, List.map_nil, List.cons_append, List.nil_append, List.replicate, evSs, evS, evE.eq_1, evE.eq_2, evE.eq_3, evE.eq_4, evE.eq_5, evE.eq_6, evE.eq_7, evE.eq_8, evE.eq_9, evE.eq_10, evE.eq_11, evE.eq_12, evE.eq_13, evE.eq_14, evE.eq_15, evE.eq_16, evE.eq_17, evE.eq_18, evE.eq_19, evE.eq_20, evE.eq_24, evE.eq_25, evE.eq_26, evE.eq_27, evEs, ok_bnd, List.getElem?_cons_zero, List.getElem?_cons_succ, ok_ret, peek_val, asP_val, ok_some, Option.map_some, idx_lst, idx_tup, at_0, at_1, at_2, cmp_gt, cmp_ge, cmp_lt, cmp_le, tru_bl, bin_add, bin_sub, blt_int, blt_intb, peeks_nil, peeks_cons, List.set_cons_zero, List.set_cons_succ, lv_val, set_slot, vals_nil, vals_cons, ok_ok, cell_lst, cell_dct, Ex.fresh, if_true, List.length_cons, List.length_nil, Nat.reduceAdd, Nat.reduceLT, Nat.reduceSub, Nat.zero_add, all_map]
        cases h5 : xs.all trB with
        | false =>
          simp only [List.map_cons, List.map_nil, List.cons_append, List.nil_append, List.replicate, evSs, evS, evE.eq_1, evE.eq_2, evE.eq_3, evE.eq_4, evE.eq_5, evE.eq_6, evE.eq_7, evE.eq_8, evE.eq_9, evE.eq_10, evE.eq_11, evE.eq_12, evE.eq_13, evE.eq_14, evE.eq_15, evE.eq_16, evE.eq_17, evE.eq_18, evE.eq_19, evE.eq_20, evE.eq_24, evE.eq_25, evE.eq_26, evE.eq_27, evEs, ok_bnd, List.getElem?_cons_zero, List.getElem?_cons_succ, ok_ret, peek_val, asP_val, ok_some, Option.map_some, idx_lst, idx_tup, at_0, at_1, at_2, cmp_gt, cmp_ge, cmp_lt, cmp_le, tru_bl, bin_add, bin_sub, blt_int, blt_intb, peeks_nil, peeks_cons, List.set_cons_zero, List.set_cons_succ, lv_val, set_slot, vals_nil, vals_cons, ok_ok, cell_lst, cell_dct, Ex.fresh, if_true, List.length_cons, List.length_nil, Nat.reduceAdd, Nat.reduceLT, Nat.reduceSub, Nat.zero_add, Bool.not_false, List.take_length]
          exact no (by rw [ec, h5]; rfl)
        | true =>
          simp only [List.map_cons, List.map_nil, List.cons_append, List.nil_append, List.replicate, evSs, evS, evE.eq_1, evE.eq_2, evE.eq_3, evE.eq_4, evE.eq_5, evE.eq_6, evE.eq_7, evE.eq_8, evE.eq_9, evE.eq_10, evE.eq_11, evE.eq_12, evE.eq_13, evE.eq_14, evE.eq_15, evE.eq_16, evE.eq_17, evE.eq_18, evE.eq_19, evE.eq_20, evE.eq_24, evE.eq_25, evE.eq_26, evE.eq_27, evEs, ok_bnd, List.getElem?_cons_zero, List.getElem?_cons_succ, ok_ret, peek_val, asP_val, ok_some, Option.map_some, idx_lst, idx_tup, at_0, at_1, at_2, cmp_gt, cmp_ge, cmp_lt, cmp_le, tru_bl, bin_add, bin_sub, blt_int, blt_intb, peeks_nil, peeks_cons, List.set_cons_zero, List.set_cons_succ, lv_val, set_slot, vals_nil, vals_cons, ok_ok, cell_lst, cell_dct, Ex.fresh, if_true, List.length_cons, List.length_nil, Nat.reduceAdd, Nat.reduceLT, Nat.reduceSub, Nat.zero_add, Bool.not_true, Bool.false_eq_true, if_false]
          obtain ⟨ts, rfl, hts⟩ := trs_of h5
          have lts : ts.length ≤ 8 := by
            rw [List.length_map] at h2
            omega
          have bt : ∀ t : Tr, bindP (.tp [.nm 3, .nm 4, .nm 5]) (mkT t) [some (.val (.tup (ts.map mkT))), none, none, none, none, none] = some [some (.val (.tup (ts.map mkT))), none, none, some (.val t.1), some (.val (.int t.2.1)), some (.val t.2.2)] := fun t => rfl
          refine dcm_pat (env := [some (.val (.tup (ts.map mkT))), none, none, none, none, none]) (gk := at1) (gv := at2) (xs := ts.map mkT) rfl ⟨rfl, rfl⟩ (by rw [List.length_map]; omega) (fun s hm => ?_) ?_
          · obtain ⟨t, ht, rfl⟩ := List.mem_map.mp hm
            refine ⟨rfl, _, bt t, ?_, ?_⟩
            · simp only [List.map_cons, List.map_nil, List.cons_append, List.nil_append, List.replicate, evSs, evS, evE.eq_1, evE.eq_2, evE.eq_3, evE.eq_4, evE.eq_5, evE.eq_6, evE.eq_7, evE.eq_8, evE.eq_9, evE.eq_10, evE.eq_11, evE.eq_12, evE.eq_13, evE.eq_14, evE.eq_15, evE.eq_16, evE.eq_17, evE.eq_18, evE.eq_19, evE.eq_20, evE.eq_24, evE.eq_25, evE.eq_26, evE.eq_27, evEs, ok_bnd, List.getElem?_cons_zero, List.getElem?_cons_succ, ok_ret, peek_val, asP_val, ok_some, Option.map_some, idx_lst, idx_tup, at_0, at_1, at_2, cmp_gt, cmp_ge, cmp_lt, cmp_le, tru_bl, bin_add, bin_sub, blt_int, blt_intb, peeks_nil, peeks_cons, List.set_cons_zero, List.set_cons_succ, lv_val, set_slot, vals_nil, vals_cons, ok_ok, cell_lst, cell_dct, Ex.fresh, if_true, List.length_cons, List.length_nil, Nat.reduceAdd, Nat.reduceLT, Nat.reduceSub, Nat.zero_add]
              exact ⟨rfl, trivial⟩
            · simp only [List.map_cons, List.map_nil, List.cons_append, List.nil_append, List.replicate, evSs, evS, evE.eq_1, evE.eq_2, evE.eq_3, evE.eq_4, evE.eq_5, evE.eq_6, evE.eq_7, evE.eq_8, evE.eq_9, evE.eq_10, evE.eq_11, evE.eq_12, evE.eq_13, evE.eq_14, evE.eq_15, evE.eq_16, evE.eq_17, evE.eq_18, evE.eq_19, evE.eq_20, evE.eq_24, evE.eq_25, evE.eq_26, evE.eq_27, evEs, ok_bnd, List.getElem?_cons_zero, List.getElem?_cons_succ, ok_ret, peek_val, asP_val, ok_some, Option.map_some, idx_lst, idx_tup, at_0, at_1, at_2, cmp_gt, cmp_ge, cmp_lt, cmp_le, tru_bl, bin_add, bin_sub, blt_int, blt_intb, peeks_nil, peeks_cons, List.set_cons_zero, List.set_cons_succ, lv_val, set_slot, vals_nil, vals_cons, ok_ok, cell_lst, cell_dct, Ex.fresh, if_true, List.length_cons, List.length_nil, Nat.reduceAdd, Nat.reduceLT, Nat.reduceSub, Nat.zero_add]
              exact ⟨rfl, trivial⟩
          · have tab : (ts.map mkT).foldl (fun kvs x => putKv kvs (at1 x) (at2 x)) [] = tblT ts := tbl_map
            rw [tab]
            refine map_ok (env := [some (.val (.tup (ts.map mkT))), none, some (.val (.dct (tblT ts))), none, none, none]) (g := fst0) (xs := ts.map mkT) (by simp [wipeE]) rfl ⟨rfl, rfl⟩ (by rw [List.length_map]; omega) (fun s hm => ?_) ?_
            · obtain ⟨t, ht, rfl⟩ := List.mem_map.mp hm
              show Ok (evE _ _ [some (.val (.tup (ts.map mkT))), some (.val (.tup [t.1, .int t.2.1, t.2.2])), some (.val (.dct (tblT ts))), none, none, none] st) _
              simp only [List.map_cons, List.map_nil, List.cons_append, List.nil_append, List.replicate, evSs, evS, evE.eq_1, evE.eq_2, evE.eq_3, evE.eq_4, evE.eq_5, evE.eq_6, evE.eq_7, evE.eq_8, evE.eq_9, evE.eq_10, evE.eq_11, evE.eq_12, evE.eq_13, evE.eq_14, evE.eq_15, evE.eq_16, evE.eq_17, evE.eq_18, evE.eq_19, evE.eq_20, evE.eq_24, evE.eq_25, evE.eq_26, evE.eq_27, evEs, ok_bnd, List.getElem?_cons_zero, List.getElem?_cons_succ, ok_ret, peek_val, asP_val, ok_some, Option.map_some, idx_lst, idx_tup, at_0, at_1, at_2, cmp_gt, cmp_ge, cmp_lt, cmp_le, tru_bl, bin_add, bin_sub, blt_int, blt_intb, peeks_nil, peeks_cons, List.set_cons_zero, List.set_cons_succ, lv_val, set_slot, vals_nil, vals_cons, ok_ok, cell_lst, cell_dct, Ex.fresh, if_true, List.length_cons, List.length_nil, Nat.reduceAdd, Nat.reduceLT, Nat.reduceSub, Nat.zero_add]
              exact ⟨rfl, trivial⟩
            · refine asc_ok (k := k + 2) ha rfl (names_kin fun x hm => ?_) (by show ((ts.map mkT).map fst0).length ≤ 100000; rw [List.length_map, List.length_map]; omega) ?_
              · obtain ⟨t, ht, rfl⟩ := List.mem_map.mp hm
                exact (hts t ht).1
              · have er : rowOf (.lst ((ts.map mkT).map fst0)) = (ts.map mkT).map fst0 := rfl
                rw [er]
                simp only [List.map_cons, List.map_nil, List.cons_append, List.nil_append, List.replicate, evSs, evS, evE.eq_1, evE.eq_2, evE.eq_3, evE.eq_4, evE.eq_5, evE.eq_6, evE.eq_7, evE.eq_8, evE.eq_9, evE.eq_10, evE.eq_11, evE.eq_12, evE.eq_13, evE.eq_14, evE.eq_15, evE.eq_16, evE.eq_17, evE.eq_18, evE.eq_19, evE.eq_20, evE.eq_24, evE.eq_25, evE.eq_26, evE.eq_27, evEs, ok_bnd, List.getElem?_cons_zero, List.getElem?_cons_succ, ok_ret, peek_val, asP_val, ok_some, Option.map_some, idx_lst, idx_tup, at_0, at_1, at_2, cmp_gt, cmp_ge, cmp_lt, cmp_le, tru_bl, bin_add, bin_sub, blt_int, blt_intb, peeks_nil, peeks_cons, List.set_cons_zero, List.set_cons_succ, lv_val, set_slot, vals_nil, vals_cons, ok_ok, cell_lst, cell_dct, Ex.fresh, if_true, List.length_cons, List.length_nil, Nat.reduceAdd, Nat.reduceLT, Nat.reduceSub, Nat.zero_add, and_cons]
                cases h6 : ascB ((ts.map mkT).map fst0) with
                | false =>
                  simp only [List.map_cons, List.map_nil, List.cons_append, List.nil_append, List.replicate, evSs, evS, evE.eq_1, evE.eq_2, evE.eq_3, evE.eq_4, evE.eq_5, evE.eq_6, evE.eq_7, evE.eq_8, evE.eq_9, evE.eq_10, evE.eq_11, evE.eq_12, evE.eq_13, evE.eq_14, evE.eq_15, evE.eq_16, evE.eq_17, evE.eq_18, evE.eq_19, evE.eq_20, evE.eq_24, evE.eq_25, evE.eq_26, evE.eq_27, evEs, ok_bnd, List.getElem?_cons_zero, List.getElem?_cons_succ, ok_ret, peek_val, asP_val, ok_some, Option.map_some, idx_lst, idx_tup, at_0, at_1, at_2, cmp_gt, cmp_ge, cmp_lt, cmp_le, tru_bl, bin_add, bin_sub, blt_int, blt_intb, peeks_nil, peeks_cons, List.set_cons_zero, List.set_cons_succ, lv_val, set_slot, vals_nil, vals_cons, ok_ok, cell_lst, cell_dct, Ex.fresh, if_true, List.length_cons, List.length_nil, Nat.reduceAdd, Nat.reduceLT, Nat.reduceSub, Nat.zero_add, Bool.false_eq_true, if_false, List.take_length]
                  exact no (by rw [ec, h5, h6]; rfl)
                | true =>
                  simp only [List.map_cons, List.map_nil, List.cons_append, List.nil_append, List.replicate, evSs, evS, evE.eq_1, evE.eq_2, evE.eq_3, evE.eq_4, evE.eq_5, evE.eq_6, evE.eq_7, evE.eq_8, evE.eq_9, evE.eq_10, evE.eq_11, evE.eq_12, evE.eq_13, evE.eq_14, evE.eq_15, evE.eq_16, evE.eq_17, evE.eq_18, evE.eq_19, evE.eq_20, evE.eq_24, evE.eq_25, evE.eq_26, evE.eq_27, evEs, ok_bnd, List.getElem?_cons_zero, List.getElem?_cons_succ, ok_ret, peek_val, asP_val, ok_some, Option.map_some, idx_lst, idx_tup, at_0, at_1, at_2, cmp_gt, cmp_ge, cmp_lt, cmp_le, tru_bl, bin_add, bin_sub, blt_int, blt_intb, peeks_nil, peeks_cons, List.set_cons_zero, List.set_cons_succ, lv_val, set_slot, vals_nil, vals_cons, ok_ok, cell_lst, cell_dct, Ex.fresh, if_true, List.length_cons, List.length_nil, Nat.reduceAdd, Nat.reduceLT, Nat.reduceSub, Nat.zero_add]
                  have bt : ∀ t : Tr, bindP (.tp [.nm 3, .nm 4, .nm 5]) (mkT t) [some (.val (.tup (ts.map mkT))), none, some (.val (.dct (tblT ts))), none, none, none] = some [some (.val (.tup (ts.map mkT))), none, some (.val (.dct (tblT ts))), some (.val t.1), some (.val (.int t.2.1)), some (.val t.2.2)] := fun t => rfl
                  obtain ⟨_, _, l3, l4⟩ := tbl_ok ts
                  refine map_pat (env := [some (.val (.tup (ts.map mkT))), none, some (.val (.dct (tblT ts))), none, none, none]) (g := fun x => .bl (((look (tblT ts) (at1 x)).getD .non).eqv (at2 x))) (xs := ts.map mkT) rfl ⟨rfl, rfl⟩ (by rw [List.length_map]; omega) (fun s hm => ?_) ?_
                  · obtain ⟨t, ht, rfl⟩ := List.mem_map.mp hm
                    obtain ⟨v, hv⟩ := l4 t ht
                    obtain ⟨u, hu, _, eu⟩ := l3 _ _ hv
                    have cv : clsP v = true := by
                      rw [← eu]
                      exact (hts u hu).2
                    have ei : idxP (.dct (tblT ts)) (.int t.2.1) = some v := hv
                    refine ⟨_, bt t, ?_⟩
                    simp only [List.map_cons, List.map_nil, List.cons_append, List.nil_append, List.replicate, evSs, evS, evE.eq_1, evE.eq_2, evE.eq_3, evE.eq_4, evE.eq_5, evE.eq_6, evE.eq_7, evE.eq_8, evE.eq_9, evE.eq_10, evE.eq_11, evE.eq_12, evE.eq_13, evE.eq_14, evE.eq_15, evE.eq_16, evE.eq_17, evE.eq_18, evE.eq_19, evE.eq_20, evE.eq_24, evE.eq_25, evE.eq_26, evE.eq_27, evEs, ok_bnd, List.getElem?_cons_zero, List.getElem?_cons_succ, ok_ret, peek_val, asP_val, ok_some, Option.map_some, idx_lst, idx_tup, at_0, at_1, at_2, cmp_gt, cmp_ge, cmp_lt, cmp_le, tru_bl, bin_add, bin_sub, blt_int, blt_intb, peeks_nil, peeks_cons, List.set_cons_zero, List.set_cons_succ, lv_val, set_slot, vals_nil, vals_cons, ok_ok, cell_lst, cell_dct, Ex.fresh, if_true, List.length_cons, List.length_nil, Nat.reduceAdd, Nat.reduceLT, Nat.reduceSub, Nat.zero_add, ei, cls_eq cv (hts t ht).2]
                    refine ⟨?_, trivial⟩
                    show _ = Sl.val (.bl (((look (tblT ts) (.int t.2.1)).getD .non).eqv t.2.2))
                    rw [hv]
                    rfl
                  · have e8 : ((ts.map mkT).all fun x => ((look (tblT ts) (at1 x)).getD .non).eqv (at2 x)) = samP (ts.map mkT) := by
                      rw [List.all_map, sam_map, ← tbl_same fun t ht => (hts t ht).2]
                      rfl
                    simp only [List.map_cons, List.map_nil, List.cons_append, List.nil_append, List.replicate, evSs, evS, evE.eq_1, evE.eq_2, evE.eq_3, evE.eq_4, evE.eq_5, evE.eq_6, evE.eq_7, evE.eq_8, evE.eq_9, evE.eq_10, evE.eq_11, evE.eq_12, evE.eq_13, evE.eq_14, evE.eq_15, evE.eq_16, evE.eq_17, evE.eq_18, evE.eq_19, evE.eq_20, evE.eq_24, evE.eq_25, evE.eq_26, evE.eq_27, evEs, ok_bnd, List.getElem?_cons_zero, List.getElem?_cons_succ, ok_ret, peek_val, asP_val, ok_some, Option.map_some, idx_lst, idx_tup, at_0, at_1, at_2, cmp_gt, cmp_ge, cmp_lt, cmp_le, tru_bl, bin_add, bin_sub, blt_int, blt_intb, peeks_nil, peeks_cons, List.set_cons_zero, List.set_cons_succ, lv_val, set_slot, vals_nil, vals_cons, ok_ok, cell_lst, cell_dct, Ex.fresh, if_true, List.length_cons, List.length_nil, Nat.reduceAdd, Nat.reduceLT, Nat.reduceSub, Nat.zero_add, all_map, and_nil, List.take_length, e8]
                    rw [ec, h5, h6] at hq
                    exact hq
  | _ =>
    simp only [List.map_cons, List.map_nil, List.cons_append, List.nil_append, List.replicate, evSs, evS, evE.eq_1, evE.eq_2, evE.eq_3, evE.eq_4, evE.eq_5, evE.eq_6, evE.eq_7, evE.eq_8, evE.eq_9, evE.eq_10, evE.eq_11, evE.eq_12, evE.eq_13, evE.eq_14, evE.eq_15, evE.eq_16, evE.eq_17, evE.eq_18, evE.eq_19, evE.eq_20, evE.eq_24, evE.eq_25, evE.eq_26, evE.eq_27, evEs, ok_bnd, List.getElem?_cons_zero, List.getElem?_cons_succ, ok_ret, peek_val, asP_val, ok_some, Option.map_some, idx_lst, idx_tup, at_0, at_1, at_2, cmp_gt, cmp_ge, cmp_lt, cmp_le, tru_bl, bin_add, bin_sub, blt_int, blt_intb, peeks_nil, peeks_cons, List.set_cons_zero, List.set_cons_succ, lv_val, set_slot, vals_nil, vals_cons, ok_ok, cell_lst, cell_dct, Ex.fresh, if_true, List.length_cons, List.length_nil, Nat.reduceAdd, Nat.reduceLT, Nat.reduceSub, Nat.zero_add, List.any_cons, List.any_nil, Bool.or_false, ty_tupB, isTupB, Bool.not_false, or_cons, List.take_length]
    exact no rfl
end
end Fy

/-! Pl25: the law's words for worlds. -/
namespace Fy
open PySem (Str)
theorem two_at0 {st : Sto} {a b : Cell} : (st ++ [a, b])[st.length]? = some a := by
  rw [List.getElem?_append_right (Nat.le_refl _), Nat.sub_self]
  rfl
theorem two_at1 {st : Sto} {a b : Cell} : (st ++ [a, b])[st.length + 1]? = some b := by
  rw [List.getElem?_append_right (by omega), show st.length + 1 - st.length = 1 by omega]
  rfl
theorem two_set0 {st : Sto} {a b a' : Cell} : (st ++ [a, b]).set st.length a' = st ++ [a', b] := by
  rw [List.set_append_right _ _ (Nat.le_refl _), Nat.sub_self]
  rfl
theorem two_set1 {st : Sto} {a b b' : Cell} : (st ++ [a, b]).set (st.length + 1) b' = st ++ [a, b'] := by
  rw [List.set_append_right _ _ (by omega), show st.length + 1 - st.length = 1 by omega]
  rfl
theorem two_new {st : Sto} {a b : Cell} : st ++ [a] ++ [b] = st ++ [a, b] := by
  rw [List.append_assoc]
  rfl
theorem peek_dct {n : Nat} {kvs : List (P × P)} {st : Sto} {W : P → Sto → Prop} (h : st[n]? = some (.dct kvs)) : Ok (peek (.ref n) st) W ↔ W (.dct kvs) st := by
  unfold peek
  show Ok (match st[n]? with | some (.lst ys) => _ | some (.lck ys) => _ | some (.dct ks) => _ | _ => _) W ↔ _
  rw [h]
  rfl
theorem of_get {α : Type} {kvs : List (P × P)} {a b : α} : (if Mth.of .get2 (.dct kvs) = true then a else b) = a := rfl
theorem get_cell {n : Nat} {kvs : List (P × P)} {k p : P} {t : Sto} {W : Sl → Sto → Prop} (h : t[n]? = some (.dct kvs)) (hk : keyOk k = true) : Ok (mthM .get2 (.ref n) [.val k, .val p] t) W ↔ W (.val ((look kvs k).getD p)) t := by
  unfold mthM
  rw [if_neg (show ¬ (Mth.get2).mut = true from Bool.false_ne_true), ok_bnd, peek_dct h]
  have e : mthP .get2 (.dct kvs) [k, p] = some ((look kvs k).getD p) := by
    show (if keyOk k then _ else none) = _
    rw [if_pos hk]
  show Ok (lift (((some [k, p] : Option (List P)).bind fun ps => (mthP .get2 (.dct kvs) ps).map Sl.val)) t) W ↔ _
  show Ok (lift ((mthP .get2 (.dct kvs) [k, p]).map Sl.val) t) W ↔ _
  rw [e]
  rfl
theorem setk_c {kvs : List (P × P)} {k p : P} (hk : keyOk k = true) (hl : kvs.length < 100000) : setC (.dct kvs) k p = some (.dct (putKv kvs k p)) := by
  show (if keyOk k && decide (kvs.length < lenMost) then _ else none) = _
  rw [hk, decide_eq_true (show kvs.length < lenMost from hl)]
  rfl
section
variable {T : Tab} {w f n c : Nat}
theorem lworld_ok (hf : T.fns[f]? = some ⟨1, 4, gLWorld n w c⟩) (hn : T.fns[n]? = some ⟨1, 2, gLName⟩) (hc : T.fns[c]? = some ⟨1, 2, gLCells w⟩) (hw : T.fns[w]? = some ⟨1, 1, gWhole⟩)
    {k cc d : Nat} {p : P} {st : Sto} {W : Sl → Sto → Prop} (hp : Th cc d p) (hcc : cc ≤ 100000) (hq : W (.val (.bl (wdP p))) st) : Ok (run T (k + 3) f [.val p] st) W := by
  refine ok_run hf rfl (by decide) ?_
  unfold gLWorld
  have no : wdP p = false → W (.val (.bl false)) st := fun e => by
    rw [← e]
    exact hq
  cases p with
  | tup xs =>
    obtain ⟨lx, e, rfl, hx⟩ := hp.tup_in
    simp only [List.map_cons, List.map_nil, List.cons_append, List.nil_append, List.replicate, evSs, evS, evE.eq_1, evE.eq_2, evE.eq_3, evE.eq_4, evE.eq_5, evE.eq_6, evE.eq_7, evE.eq_8, evE.eq_9, evE.eq_10, evE.eq_11, evE.eq_12, evE.eq_13, evE.eq_14, evE.eq_15, evE.eq_16, evE.eq_17, evE.eq_18, evE.eq_19, evE.eq_20, evE.eq_24, evE.eq_25, evE.eq_26, evE.eq_27, evEs, ok_bnd, List.getElem?_cons_zero, List.getElem?_cons_succ, ok_ret, peek_val, asP_val, ok_some, Option.map_some, idx_lst, idx_tup, at_0, at_1, at_2, cmp_gt, cmp_ge, cmp_lt, cmp_le, tru_bl, bin_add, bin_sub, blt_int, blt_intb, peeks_nil, peeks_cons, List.set_cons_zero, List.set_cons_succ, lv_val, set_slot, vals_nil, vals_cons, ok_ok, cell_lst, cell_dct, Ex.fresh, if_true, List.length_cons, List.length_nil, Nat.reduceAdd, Nat.reduceLT, Nat.reduceSub, Nat.zero_add, List.any_cons, List.any_nil, Bool.or_false, ty_tupB, isTupB, Bool.not_true, or_cons, or_nil, Bool.false_eq_true, if_false, len_tup]
    by_cases h2 : (8 : Int) < (xs.length : Nat)
    · simp only [List.map_cons, List.map_nil, List.cons_append, List.nil_append, List.replicate, evSs, evS, evE.eq_1, evE.eq_2, evE.eq_3, evE.eq_4, evE.eq_5, evE.eq_6, evE.eq_7, evE.eq_8, evE.eq_9, evE.eq_10, evE.eq_11, evE.eq_12, evE.eq_13, evE.eq_14, evE.eq_15, evE.eq_16, evE.eq_17, evE.eq_18, evE.eq_19, evE.eq_20, evE.eq_24, evE.eq_25, evE.eq_26, evE.eq_27, evEs, ok_bnd, List.getElem?_cons_zero, List.getElem?_cons_succ, ok_ret, peek_val, asP_val, ok_some, Option.map_some, idx_lst, idx_tup, at_0, at_1, at_2, cmp_gt, cmp_ge, cmp_lt, cmp_le, tru_bl, bin_add, bin_sub, blt_int, blt_intb, peeks_nil, peeks_cons, List.set_cons_zero, List.set_cons_succ, lv_val, set_slot, vals_nil, vals_cons, ok_ok, cell_lst, cell_dct, Ex.fresh, if_true, List.length_cons, List.length_nil, Nat.reduceAdd, Nat.reduceLT, Nat.reduceSub, Nat.zero_add, decide_eq_true h2, List.take_length]
      exact no (by rw [wd_tup, decide_eq_false (show ¬ xs.length ≤ 8 by omega), Bool.false_and])
    · simp only [List.map_cons, List.map_nil, List.cons_append, List.nil_append, List.replicate, evSs, evS, evE.eq_1, evE.eq_2, evE.eq_3, evE.eq_4, evE.eq_5, evE.eq_6, evE.eq_7, evE.eq_8, evE.eq_9, evE.eq_10, evE.eq_11, evE.eq_12, evE.eq_13, evE.eq_14, evE.eq_15, evE.eq_16, evE.eq_17, evE.eq_18, evE.eq_19, evE.eq_20, evE.eq_24, evE.eq_25, evE.eq_26, evE.eq_27, evEs, ok_bnd, List.getElem?_cons_zero, List.getElem?_cons_succ, ok_ret, peek_val, asP_val, ok_some, Option.map_some, idx_lst, idx_tup, at_0, at_1, at_2, cmp_gt, cmp_ge, cmp_lt, cmp_le, tru_bl, bin_add, bin_sub, blt_int, blt_intb, peeks_nil, peeks_cons, List.set_cons_zero, List.set_cons_succ, lv_val, set_slot, vals_nil, vals_cons, ok_ok, cell_lst, cell_dct, Ex.fresh, if_true, List.length_cons, List.length_nil, Nat.reduceAdd, Nat.reduceLT, Nat.reduceSub, Nat.zero_add, decide_eq_false h2, Bool.false_eq_true, if_false, two_new, List.length_append]
      rw [if_pos ⟨by simp, by simp, by decide⟩]
      simp only [List.map_cons, List.map_nil, List.cons_append, List.nil_append, List.replicate, evSs, evS, evE.eq_1, evE.eq_2, evE.eq_3, evE.eq_4, evE.eq_5, evE.eq_6, evE.eq_7, evE.eq_8, evE.eq_9, evE.eq_10, evE.eq_11, evE.eq_12, evE.eq_13, evE.eq_14, evE.eq_15, evE.eq_16, evE.eq_17, evE.eq_18, evE.eq_19, evE.eq_20, evE.eq_24, evE.eq_25, evE.eq_26, evE.eq_27, evEs, ok_bnd, List.getElem?_cons_zero, List.getElem?_cons_succ, ok_ret, peek_val, asP_val, ok_some, Option.map_some, idx_lst, idx_tup, at_0, at_1, at_2, cmp_gt, cmp_ge, cmp_lt, cmp_le, tru_bl, bin_add, bin_sub, blt_int, blt_intb, peeks_nil, peeks_cons, List.set_cons_zero, List.set_cons_succ, lv_val, set_slot, vals_nil, vals_cons, ok_ok, cell_lst, cell_dct, Ex.fresh, if_true, List.length_cons, List.length_nil, Nat.reduceAdd, Nat.reduceLT, Nat.reduceSub, Nat.zero_add, evI, itm_tup]
      have ec : wdP (.tup xs) = (xs.all trB && (ascB (xs.map fst0) && samP xs)) := by
        rw [wd_tup, decide_eq_true (show xs.length ≤ 8 by omega), Bool.true_and]
      have fin := guard_all (xs := xs) xs.length (Nat.le_refl _)
      rw [List.take_length] at fin
      refine guard_loop (fun j => trB (xs.getD j .non) && chkP (xs.take j) (xs.getD j .non)) (fun j env t => t = st ++ [.lst ((xs.take j).map fst0), .dct (tblP (xs.take j))] ∧ ∃ z, env = [some (.val (.tup xs)), some (.ref st.length), some (.ref (st.length + 1)), z]) (fun env t => t.take st.length = st) ⟨rfl, none, rfl⟩ (fun j x env t hj hpre ⟨h3, z, h4⟩ => ?_) (fun env t hall ⟨h3, z, h4⟩ => ?_) fun env t hall h3 => ?_
      · subst h3
        subst h4
        have hxm := hx x (List.mem_of_getElem? hj)
        have lj := lt_of_some hj
        rw [guard_all j (by omega), Bool.and_eq_true] at hpre
        obtain ⟨ts, ets, hts⟩ := trs_of hpre.1
        have eb : bindP (.nm 3) x [some (.val (.tup xs)), some (.ref st.length), some (.ref (st.length + 1)), z] = some [some (.val (.tup xs)), some (.ref st.length), some (.ref (st.length + 1)), some (.val x)] := rfl
        rw [eb]
        simp only [getD_at hj]
        cases x with
        | tup ys =>
          obtain ⟨ly, e2, rfl, hy⟩ := hxm.tup_in
          simp only [List.map_cons, List.map_nil, List.cons_append, List.nil_append, List.replicate, evSs, evS, evE.eq_1, evE.eq_2, evE.eq_3, evE.eq_4, evE.eq_5, evE.eq_6, evE.eq_7, evE.eq_8, evE.eq_9, evE.eq_10, evE.eq_11, evE.eq_12, evE.eq_13, evE.eq_14, evE.eq_15, evE.eq_16, evE.eq_17, evE.eq_18, evE.eq_19, evE.eq_20, evE.eq_24, evE.eq_25, evE.eq_26, evE.eq_27, evEs, ok_bnd, List.getElem?_cons_zero, List.getElem?_cons_succ, ok_ret, peek_val, asP_val, ok_some, Option.map_some, idx_lst, idx_tup, at_0, at_1, at_2, cmp_gt, cmp_ge, cmp_lt, cmp_le, tru_bl, bin_add, bin_sub, blt_int, blt_intb, peeks_nil, peeks_cons, List.set_cons_zero, List.set_cons_succ, lv_val, set_slot, vals_nil, vals_cons, ok_ok, cell_lst, cell_dct, Ex.fresh, if_true, List.length_cons, List.length_nil, Nat.reduceAdd, Nat.reduceLT, Nat.reduceSub, Nat.zero_add, List.any_cons, List.any_nil, Bool.or_false, ty_tupB, isTupB, Bool.not_true, or_cons, or_nil, Bool.false_eq_true, if_false, len_tup, ne_int]
          by_cases h5 : ((ys.length : Nat) : Int) = 3
          · obtain ⟨p1, p2, p3, rfl⟩ := len_thr h5
            have ee : trB (.tup [p1, p2, p3]) = (nmP p1 && (cellB p2 && clsP p3)) := rfl
            have f3 := (hy p3 (by simp)).flat
            simp only [List.map_cons, List.map_nil, List.cons_append, List.nil_append, List.replicate, evSs, evS, evE.eq_1, evE.eq_2, evE.eq_3, evE.eq_4, evE.eq_5, evE.eq_6, evE.eq_7, evE.eq_8, evE.eq_9, evE.eq_10, evE.eq_11, evE.eq_12, evE.eq_13, evE.eq_14, evE.eq_15, evE.eq_16, evE.eq_17, evE.eq_18, evE.eq_19, evE.eq_20, evE.eq_24, evE.eq_25, evE.eq_26, evE.eq_27, evEs, ok_bnd, List.getElem?_cons_zero, List.getElem?_cons_succ, ok_ret, peek_val, asP_val, ok_some, Option.map_some, idx_lst, idx_tup, at_0, at_1, at_2, cmp_gt, cmp_ge, cmp_lt, cmp_le, tru_bl, bin_add, bin_sub, blt_int, blt_intb, peeks_nil, peeks_cons, List.set_cons_zero, List.set_cons_succ, lv_val, set_slot, vals_nil, vals_cons, ok_ok, cell_lst, cell_dct, Ex.fresh, if_true, List.length_cons, List.length_nil, Nat.reduceAdd, Nat.reduceLT, Nat.reduceSub, Nat.zero_add, show (!(((3 : Nat) : Int) == 3)) = false from rfl, Bool.false_eq_true, if_false]
            refine lname_ok (k := k + 1) hn (small_str (hy p1 (by simp)) hcc) ?_
            cases h6 : nmP p1 with
            | true =>
              simp only [List.map_cons, List.map_nil, List.cons_append, List.nil_append, List.replicate, evSs, evS, evE.eq_1, evE.eq_2, evE.eq_3, evE.eq_4, evE.eq_5, evE.eq_6, evE.eq_7, evE.eq_8, evE.eq_9, evE.eq_10, evE.eq_11, evE.eq_12, evE.eq_13, evE.eq_14, evE.eq_15, evE.eq_16, evE.eq_17, evE.eq_18, evE.eq_19, evE.eq_20, evE.eq_24, evE.eq_25, evE.eq_26, evE.eq_27, evEs, ok_bnd, List.getElem?_cons_zero, List.getElem?_cons_succ, ok_ret, peek_val, asP_val, ok_some, Option.map_some, idx_lst, idx_tup, at_0, at_1, at_2, cmp_gt, cmp_ge, cmp_lt, cmp_le, tru_bl, bin_add, bin_sub, blt_int, blt_intb, peeks_nil, peeks_cons, List.set_cons_zero, List.set_cons_succ, lv_val, set_slot, vals_nil, vals_cons, ok_ok, cell_lst, cell_dct, Ex.fresh, if_true, List.length_cons, List.length_nil, Nat.reduceAdd, Nat.reduceLT, Nat.reduceSub, Nat.zero_add, Bool.not_true, Bool.false_eq_true, if_false]
              refine whole_ok (k := k + 1) hw ?_
              cases p2 with
              | int i =>
                simp only [List.map_cons, List.map_nil, List.cons_append, List.nil_append, List.replicate, evSs, evS, evE.eq_1, evE.eq_2, evE.eq_3, evE.eq_4, evE.eq_5, evE.eq_6, evE.eq_7, evE.eq_8, evE.eq_9, evE.eq_10, evE.eq_11, evE.eq_12, evE.eq_13, evE.eq_14, evE.eq_15, evE.eq_16, evE.eq_17, evE.eq_18, evE.eq_19, evE.eq_20, evE.eq_24, evE.eq_25, evE.eq_26, evE.eq_27, evEs, ok_bnd, List.getElem?_cons_zero, List.getElem?_cons_succ, ok_ret, peek_val, asP_val, ok_some, Option.map_some, idx_lst, idx_tup, at_0, at_1, at_2, cmp_gt, cmp_ge, cmp_lt, cmp_le, tru_bl, bin_add, bin_sub, blt_int, blt_intb, peeks_nil, peeks_cons, List.set_cons_zero, List.set_cons_succ, lv_val, set_slot, vals_nil, vals_cons, ok_ok, cell_lst, cell_dct, Ex.fresh, if_true, List.length_cons, List.length_nil, Nat.reduceAdd, Nat.reduceLT, Nat.reduceSub, Nat.zero_add, wholeP, Bool.not_true, or_cons, or_nil, Bool.false_eq_true, if_false]
                have eb : trB (.tup [p1, .int i, p3]) = (nmP p1 && ((decide (0 ≤ i) && decide (i ≤ 1000000)) && clsP p3)) := rfl
                by_cases g3 : (0 : Int) ≤ i
                · by_cases g4 : i ≤ 1000000
                  · simp only [List.map_cons, List.map_nil, List.cons_append, List.nil_append, List.replicate, evSs, evS, evE.eq_1, evE.eq_2, evE.eq_3, evE.eq_4, evE.eq_5, evE.eq_6, evE.eq_7, evE.eq_8, evE.eq_9, evE.eq_10, evE.eq_11, evE.eq_12, evE.eq_13, evE.eq_14, evE.eq_15, evE.eq_16, evE.eq_17, evE.eq_18, evE.eq_19, evE.eq_20, evE.eq_24, evE.eq_25, evE.eq_26, evE.eq_27, evEs, ok_bnd, List.getElem?_cons_zero, List.getElem?_cons_succ, ok_ret, peek_val, asP_val, ok_some, Option.map_some, idx_lst, idx_tup, at_0, at_1, at_2, cmp_gt, cmp_ge, cmp_lt, cmp_le, tru_bl, bin_add, bin_sub, blt_int, blt_intb, peeks_nil, peeks_cons, List.set_cons_zero, List.set_cons_succ, lv_val, set_slot, vals_nil, vals_cons, ok_ok, cell_lst, cell_dct, Ex.fresh, if_true, List.length_cons, List.length_nil, Nat.reduceAdd, Nat.reduceLT, Nat.reduceSub, Nat.zero_add, decide_eq_true g3, decide_eq_true g4, Bool.not_true, or_cons, or_nil, Bool.false_eq_true, if_false]
                    refine lcells_ok (k := k) hc hw f3 ?_
                    have e7 : trB (.tup [p1, .int i, p3]) = clsP p3 := by
                      rw [eb, h6, decide_eq_true g3, decide_eq_true g4]
                      rfl
                    cases h7 : clsP p3 with
                    | false =>
                      simp only [List.map_cons, List.map_nil, List.cons_append, List.nil_append, List.replicate, evSs, evS, evE.eq_1, evE.eq_2, evE.eq_3, evE.eq_4, evE.eq_5, evE.eq_6, evE.eq_7, evE.eq_8, evE.eq_9, evE.eq_10, evE.eq_11, evE.eq_12, evE.eq_13, evE.eq_14, evE.eq_15, evE.eq_16, evE.eq_17, evE.eq_18, evE.eq_19, evE.eq_20, evE.eq_24, evE.eq_25, evE.eq_26, evE.eq_27, evEs, ok_bnd, List.getElem?_cons_zero, List.getElem?_cons_succ, ok_ret, peek_val, asP_val, ok_some, Option.map_some, idx_lst, idx_tup, at_0, at_1, at_2, cmp_gt, cmp_ge, cmp_lt, cmp_le, tru_bl, bin_add, bin_sub, blt_int, blt_intb, peeks_nil, peeks_cons, List.set_cons_zero, List.set_cons_succ, lv_val, set_slot, vals_nil, vals_cons, ok_ok, cell_lst, cell_dct, Ex.fresh, if_true, List.length_cons, List.length_nil, Nat.reduceAdd, Nat.reduceLT, Nat.reduceSub, Nat.zero_add, Bool.not_false]
                      exact ⟨by rw [e7, h7]; rfl, trivial, top_take⟩
                    | true =>
                      have l1 : ((xs.take j).map fst0).length < 100000 := by rw [List.length_map, List.length_take]; omega
                      have l2 : (tblP (xs.take j)).length < 100000 := by
                        have := (tbl_ok ts).2.1
                        have lt : (xs.take j).length = ts.length := by rw [ets, List.length_map]
                        rw [List.length_take] at lt
                        rw [ets, tbl_map]
                        omega
                      have cg : clsP ((look (tblP (xs.take j)) (.int i)).getD p3) = true := by
                        rw [ets, tbl_map]
                        cases hk : look (tblT ts) (.int i) with
                        | none => exact h7
                        | some v =>
                          obtain ⟨u, hu, _, eu⟩ := (tbl_ok ts).2.2.1 _ _ hk
                          show clsP v = true
                          rw [← eu]
                          exact (hts u hu).2
                      have ek : chkP (xs.take j) (.tup [p1, .int i, p3]) = ((look (tblP (xs.take j)) (.int i)).getD p3).eqv p3 := rfl
                      simp only [List.map_cons, List.map_nil, List.cons_append, List.nil_append, List.replicate, evSs, evS, evE.eq_1, evE.eq_2, evE.eq_3, evE.eq_4, evE.eq_5, evE.eq_6, evE.eq_7, evE.eq_8, evE.eq_9, evE.eq_10, evE.eq_11, evE.eq_12, evE.eq_13, evE.eq_14, evE.eq_15, evE.eq_16, evE.eq_17, evE.eq_18, evE.eq_19, evE.eq_20, evE.eq_24, evE.eq_25, evE.eq_26, evE.eq_27, evEs, ok_bnd, List.getElem?_cons_zero, List.getElem?_cons_succ, ok_ret, peek_val, asP_val, ok_some, Option.map_some, idx_lst, idx_tup, at_0, at_1, at_2, cmp_gt, cmp_ge, cmp_lt, cmp_le, tru_bl, bin_add, bin_sub, blt_int, blt_intb, peeks_nil, peeks_cons, List.set_cons_zero, List.set_cons_succ, lv_val, set_slot, vals_nil, vals_cons, ok_ok, cell_lst, cell_dct, Ex.fresh, if_true, List.length_cons, List.length_nil, Nat.reduceAdd, Nat.reduceLT, Nat.reduceSub, Nat.zero_add, Bool.not_true, Bool.false_eq_true, if_false, peek_dct two_at1, of_get, get_cell two_at1 (show keyOk (.int i) = true from rfl), cls_ne cg h7]
                      cases h8 : ((look (tblP (xs.take j)) (.int i)).getD p3).eqv p3 with
                      | false =>
                        simp only [List.map_cons, List.map_nil, List.cons_append, List.nil_append, List.replicate, evSs, evS, evE.eq_1, evE.eq_2, evE.eq_3, evE.eq_4, evE.eq_5, evE.eq_6, evE.eq_7, evE.eq_8, evE.eq_9, evE.eq_10, evE.eq_11, evE.eq_12, evE.eq_13, evE.eq_14, evE.eq_15, evE.eq_16, evE.eq_17, evE.eq_18, evE.eq_19, evE.eq_20, evE.eq_24, evE.eq_25, evE.eq_26, evE.eq_27, evEs, ok_bnd, List.getElem?_cons_zero, List.getElem?_cons_succ, ok_ret, peek_val, asP_val, ok_some, Option.map_some, idx_lst, idx_tup, at_0, at_1, at_2, cmp_gt, cmp_ge, cmp_lt, cmp_le, tru_bl, bin_add, bin_sub, blt_int, blt_intb, peeks_nil, peeks_cons, List.set_cons_zero, List.set_cons_succ, lv_val, set_slot, vals_nil, vals_cons, ok_ok, cell_lst, cell_dct, Ex.fresh, if_true, List.length_cons, List.length_nil, Nat.reduceAdd, Nat.reduceLT, Nat.reduceSub, Nat.zero_add, Bool.not_false]
                        exact ⟨by rw [ek, h8, Bool.and_false], trivial, top_take⟩
                      | true =>
                        simp only [List.map_cons, List.map_nil, List.cons_append, List.nil_append, List.replicate, evSs, evS, evE.eq_1, evE.eq_2, evE.eq_3, evE.eq_4, evE.eq_5, evE.eq_6, evE.eq_7, evE.eq_8, evE.eq_9, evE.eq_10, evE.eq_11, evE.eq_12, evE.eq_13, evE.eq_14, evE.eq_15, evE.eq_16, evE.eq_17, evE.eq_18, evE.eq_19, evE.eq_20, evE.eq_24, evE.eq_25, evE.eq_26, evE.eq_27, evEs, ok_bnd, List.getElem?_cons_zero, List.getElem?_cons_succ, ok_ret, peek_val, asP_val, ok_some, Option.map_some, idx_lst, idx_tup, at_0, at_1, at_2, cmp_gt, cmp_ge, cmp_lt, cmp_le, tru_bl, bin_add, bin_sub, blt_int, blt_intb, peeks_nil, peeks_cons, List.set_cons_zero, List.set_cons_succ, lv_val, set_slot, vals_nil, vals_cons, ok_ok, cell_lst, cell_dct, Ex.fresh, if_true, List.length_cons, List.length_nil, Nat.reduceAdd, Nat.reduceLT, Nat.reduceSub, Nat.zero_add, Bool.not_true, Bool.false_eq_true, if_false, peek_lst two_at0, of_app]
                        rw [app_cell two_at0 l1, two_set0]
                        simp only [List.map_cons, List.map_nil, List.cons_append, List.nil_append, List.replicate, evSs, evS, evE.eq_1, evE.eq_2, evE.eq_3, evE.eq_4, evE.eq_5, evE.eq_6, evE.eq_7, evE.eq_8, evE.eq_9, evE.eq_10, evE.eq_11, evE.eq_12, evE.eq_13, evE.eq_14, evE.eq_15, evE.eq_16, evE.eq_17, evE.eq_18, evE.eq_19, evE.eq_20, evE.eq_24, evE.eq_25, evE.eq_26, evE.eq_27, evEs, ok_bnd, List.getElem?_cons_zero, List.getElem?_cons_succ, ok_ret, peek_val, asP_val, ok_some, Option.map_some, idx_lst, idx_tup, at_0, at_1, at_2, cmp_gt, cmp_ge, cmp_lt, cmp_le, tru_bl, bin_add, bin_sub, blt_int, blt_intb, peeks_nil, peeks_cons, List.set_cons_zero, List.set_cons_succ, lv_val, set_slot, vals_nil, vals_cons, ok_ok, cell_lst, cell_dct, Ex.fresh, if_true, List.length_cons, List.length_nil, Nat.reduceAdd, Nat.reduceLT, Nat.reduceSub, Nat.zero_add, set_cell (f := fun c => setC c (.int i) p3) two_at1 (setk_c rfl l2), two_set1]
                        refine ⟨by rw [e7, h7, ek, h8]; rfl, ?_, _, rfl⟩
                        have et : tblP (xs.take j ++ [.tup [p1, .int i, p3]]) = putKv (tblP (xs.take j)) (.int i) p3 := by
                          unfold tblP
                          rw [List.foldl_append]
                          rfl
                        rw [take_snoc hj, List.map_append, et]
                        rfl
                  · simp only [List.map_cons, List.map_nil, List.cons_append, List.nil_append, List.replicate, evSs, evS, evE.eq_1, evE.eq_2, evE.eq_3, evE.eq_4, evE.eq_5, evE.eq_6, evE.eq_7, evE.eq_8, evE.eq_9, evE.eq_10, evE.eq_11, evE.eq_12, evE.eq_13, evE.eq_14, evE.eq_15, evE.eq_16, evE.eq_17, evE.eq_18, evE.eq_19, evE.eq_20, evE.eq_24, evE.eq_25, evE.eq_26, evE.eq_27, evEs, ok_bnd, List.getElem?_cons_zero, List.getElem?_cons_succ, ok_ret, peek_val, asP_val, ok_some, Option.map_some, idx_lst, idx_tup, at_0, at_1, at_2, cmp_gt, cmp_ge, cmp_lt, cmp_le, tru_bl, bin_add, bin_sub, blt_int, blt_intb, peeks_nil, peeks_cons, List.set_cons_zero, List.set_cons_succ, lv_val, set_slot, vals_nil, vals_cons, ok_ok, cell_lst, cell_dct, Ex.fresh, if_true, List.length_cons, List.length_nil, Nat.reduceAdd, Nat.reduceLT, Nat.reduceSub, Nat.zero_add, decide_eq_true g3, decide_eq_false g4, Bool.not_false, or_cons]
                    exact ⟨by rw [eb, decide_eq_false g4, Bool.and_false, Bool.false_and, Bool.and_false, Bool.false_and], trivial, top_take⟩
                · simp only [List.map_cons, List.map_nil, List.cons_append, List.nil_append, List.replicate, evSs, evS, evE.eq_1, evE.eq_2, evE.eq_3, evE.eq_4, evE.eq_5, evE.eq_6, evE.eq_7, evE.eq_8, evE.eq_9, evE.eq_10, evE.eq_11, evE.eq_12, evE.eq_13, evE.eq_14, evE.eq_15, evE.eq_16, evE.eq_17, evE.eq_18, evE.eq_19, evE.eq_20, evE.eq_24, evE.eq_25, evE.eq_26, evE.eq_27, evEs, ok_bnd, List.getElem?_cons_zero, List.getElem?_cons_succ, ok_ret, peek_val, asP_val, ok_some, Option.map_some, idx_lst, idx_tup, at_0, at_1, at_2, cmp_gt, cmp_ge, cmp_lt, cmp_le, tru_bl, bin_add, bin_sub, blt_int, blt_intb, peeks_nil, peeks_cons, List.set_cons_zero, List.set_cons_succ, lv_val, set_slot, vals_nil, vals_cons, ok_ok, cell_lst, cell_dct, Ex.fresh, if_true, List.length_cons, List.length_nil, Nat.reduceAdd, Nat.reduceLT, Nat.reduceSub, Nat.zero_add, decide_eq_false g3, Bool.not_false, or_cons, Bool.false_eq_true, if_false]
                  exact ⟨by rw [eb, decide_eq_false g3, Bool.false_and, Bool.false_and, Bool.and_false, Bool.false_and], trivial, top_take⟩
              | _ =>
                simp only [List.map_cons, List.map_nil, List.cons_append, List.nil_append, List.replicate, evSs, evS, evE.eq_1, evE.eq_2, evE.eq_3, evE.eq_4, evE.eq_5, evE.eq_6, evE.eq_7, evE.eq_8, evE.eq_9, evE.eq_10, evE.eq_11, evE.eq_12, evE.eq_13, evE.eq_14, evE.eq_15, evE.eq_16, evE.eq_17, evE.eq_18, evE.eq_19, evE.eq_20, evE.eq_24, evE.eq_25, evE.eq_26, evE.eq_27, evEs, ok_bnd, List.getElem?_cons_zero, List.getElem?_cons_succ, ok_ret, peek_val, asP_val, ok_some, Option.map_some, idx_lst, idx_tup, at_0, at_1, at_2, cmp_gt, cmp_ge, cmp_lt, cmp_le, tru_bl, bin_add, bin_sub, blt_int, blt_intb, peeks_nil, peeks_cons, List.set_cons_zero, List.set_cons_succ, lv_val, set_slot, vals_nil, vals_cons, ok_ok, cell_lst, cell_dct, Ex.fresh, if_true, List.length_cons, List.length_nil, Nat.reduceAdd, Nat.reduceLT, Nat.reduceSub, Nat.zero_add, wholeP, Bool.not_false, or_cons]
                exact ⟨by rw [ee, h6]; rfl, trivial, top_take⟩
            | false =>
              simp only [List.map_cons, List.map_nil, List.cons_append, List.nil_append, List.replicate, evSs, evS, evE.eq_1, evE.eq_2, evE.eq_3, evE.eq_4, evE.eq_5, evE.eq_6, evE.eq_7, evE.eq_8, evE.eq_9, evE.eq_10, evE.eq_11, evE.eq_12, evE.eq_13, evE.eq_14, evE.eq_15, evE.eq_16, evE.eq_17, evE.eq_18, evE.eq_19, evE.eq_20, evE.eq_24, evE.eq_25, evE.eq_26, evE.eq_27, evEs, ok_bnd, List.getElem?_cons_zero, List.getElem?_cons_succ, ok_ret, peek_val, asP_val, ok_some, Option.map_some, idx_lst, idx_tup, at_0, at_1, at_2, cmp_gt, cmp_ge, cmp_lt, cmp_le, tru_bl, bin_add, bin_sub, blt_int, blt_intb, peeks_nil, peeks_cons, List.set_cons_zero, List.set_cons_succ, lv_val, set_slot, vals_nil, vals_cons, ok_ok, cell_lst, cell_dct, Ex.fresh, if_true, List.length_cons, List.length_nil, Nat.reduceAdd, Nat.reduceLT, Nat.reduceSub, Nat.zero_add, Bool.not_false]
              exact ⟨by rw [ee, h6]; rfl, trivial, top_take⟩
          · have e4 : (!(((ys.length : Nat) : Int) == 3)) = true := by
              rw [beq_eq_false_iff_ne.mpr h5]
              rfl
            simp only [List.map_cons, List.map_nil, List.cons_append, List.nil_append, List.replicate, evSs, evS, evE.eq_1, evE.eq_2, evE.eq_3, evE.eq_4, evE.eq_5, evE.eq_6, evE.eq_7, evE.eq_8, evE.eq_9, evE.eq_10, evE.eq_11, evE.eq_12, evE.eq_13, evE.eq_14, evE.eq_15, evE.eq_16, evE.eq_17, evE.eq_18, evE.eq_19, evE.eq_20, evE.eq_24, evE.eq_25, evE.eq_26, evE.eq_27, evEs, ok_bnd, List.getElem?_cons_zero, List.getElem?_cons_succ, ok_ret, peek_val, asP_val, ok_some, Option.map_some, idx_lst, idx_tup, at_0, at_1, at_2, cmp_gt, cmp_ge, cmp_lt, cmp_le, tru_bl, bin_add, bin_sub, blt_int, blt_intb, peeks_nil, peeks_cons, List.set_cons_zero, List.set_cons_succ, lv_val, set_slot, vals_nil, vals_cons, ok_ok, cell_lst, cell_dct, Ex.fresh, if_true, List.length_cons, List.length_nil, Nat.reduceAdd, Nat.reduceLT, Nat.reduceSub, Nat.zero_add, e4]
            exact ⟨by rw [tr_not h5]; rfl, trivial, top_take⟩
        | _ =>
          simp only [List.map_cons, List.map_nil, List.cons_append, List.nil_append, List.replicate, evSs, evS, evE.eq_1, evE.eq_2, evE.eq_3, evE.eq_4, evE.eq_5, evE.eq_6, evE.eq_7, evE.eq_8, evE.eq_9, evE.eq_10, evE.eq_11, evE.eq_12, evE.eq_13, evE.eq_14, evE.eq_15, evE.eq_16, evE.eq_17, evE.eq_18, evE.eq_19, evE.eq_20, evE.eq_24, evE.eq_25, evE.eq_26, evE.eq_27, evEs, ok_bnd, List.getElem?_cons_zero, List.getElem?_cons_succ, ok_ret, peek_val, asP_val, ok_some, Option.map_some, idx_lst, idx_tup, at_0, at_1, at_2, cmp_gt, cmp_ge, cmp_lt, cmp_le, tru_bl, bin_add, bin_sub, blt_int, blt_intb, peeks_nil, peeks_cons, List.set_cons_zero, List.set_cons_succ, lv_val, set_slot, vals_nil, vals_cons, ok_ok, cell_lst, cell_dct, Ex.fresh, if_true, List.length_cons, List.length_nil, Nat.reduceAdd, Nat.reduceLT, Nat.reduceSub, Nat.zero_add, List.any_cons, List.any_nil, Bool.or_false, ty_tupB, isTupB, Bool.not_false, or_cons]
          exact ⟨rfl, trivial, top_take⟩
      · subst h3
        subst h4
        rw [fin, Bool.and_eq_true] at hall
        have hall' := List.all_eq_true.mp hall.1
        rw [List.take_length]
        have kx : Kin (xs.map fst0) := names_kin fun x hm => by
          obtain ⟨t, rfl, h6, _⟩ := tr_of (hall' x hm)
          exact h6
        simp only [List.map_cons, List.map_nil, List.cons_append, List.nil_append, List.replicate, evSs, evS, evE.eq_1, evE.eq_2, evE.eq_3, evE.eq_4, evE.eq_5, evE.eq_6, evE.eq_7, evE.eq_8, evE.eq_9, evE.eq_10, evE.eq_11, evE.eq_12, evE.eq_13, evE.eq_14, evE.eq_15, evE.eq_16, evE.eq_17, evE.eq_18, evE.eq_19, evE.eq_20, evE.eq_24, evE.eq_25, evE.eq_26, evE.eq_27, evEs, ok_bnd, List.getElem?_cons_zero, List.getElem?_cons_succ, ok_ret, peek_val, asP_val, ok_some, Option.map_some, idx_lst, idx_tup, at_0, at_1, at_2, cmp_gt, cmp_ge, cmp_lt, cmp_le, tru_bl, bin_add, bin_sub, blt_int, blt_intb, peeks_nil, peeks_cons, List.set_cons_zero, List.set_cons_succ, lv_val, set_slot, vals_nil, vals_cons, ok_ok, cell_lst, cell_dct, Ex.fresh, if_true, List.length_cons, List.length_nil, Nat.reduceAdd, Nat.reduceLT, Nat.reduceSub, Nat.zero_add, peek_lst two_at0, row_lst]
        rw [if_pos (kx.can (by rw [List.length_map]; omega))]
        simp only [List.map_cons, List.map_nil, List.cons_append, List.nil_append, List.replicate, evSs, evS, evE.eq_1, evE.eq_2, evE.eq_3, evE.eq_4, evE.eq_5, evE.eq_6, evE.eq_7, evE.eq_8, evE.eq_9, evE.eq_10, evE.eq_11, evE.eq_12, evE.eq_13, evE.eq_14, evE.eq_15, evE.eq_16, evE.eq_17, evE.eq_18, evE.eq_19, evE.eq_20, evE.eq_24, evE.eq_25, evE.eq_26, evE.eq_27, evEs, ok_bnd, List.getElem?_cons_zero, List.getElem?_cons_succ, ok_ret, peek_val, asP_val, ok_some, Option.map_some, idx_lst, idx_tup, at_0, at_1, at_2, cmp_gt, cmp_ge, cmp_lt, cmp_le, tru_bl, bin_add, bin_sub, blt_int, blt_intb, peeks_nil, peeks_cons, List.set_cons_zero, List.set_cons_succ, lv_val, set_slot, vals_nil, vals_cons, ok_ok, cell_lst, cell_dct, Ex.fresh, if_true, List.length_cons, List.length_nil, Nat.reduceAdd, Nat.reduceLT, Nat.reduceSub, Nat.zero_add, peek_lst two_at0, kx.sorted, top_take]
        rw [ec, hall.1, hall.2, Bool.and_true, Bool.true_and] at hq
        exact hq
      · rw [fin] at hall
        simp only [List.map_cons, List.map_nil, List.cons_append, List.nil_append, List.replicate, evSs, evS, evE.eq_1, evE.eq_2, evE.eq_3, evE.eq_4, evE.eq_5, evE.eq_6, evE.eq_7, evE.eq_8, evE.eq_9, evE.eq_10, evE.eq_11, evE.eq_12, evE.eq_13, evE.eq_14, evE.eq_15, evE.eq_16, evE.eq_17, evE.eq_18, evE.eq_19, evE.eq_20, evE.eq_24, evE.eq_25, evE.eq_26, evE.eq_27, evEs, ok_bnd, List.getElem?_cons_zero, List.getElem?_cons_succ, ok_ret, peek_val, asP_val, ok_some, Option.map_some, idx_lst, idx_tup, at_0, at_1, at_2, cmp_gt, cmp_ge, cmp_lt, cmp_le, tru_bl, bin_add, bin_sub, blt_int, blt_intb, peeks_nil, peeks_cons, List.set_cons_zero, List.set_cons_succ, lv_val, set_slot, vals_nil, vals_cons, ok_ok, cell_lst, cell_dct, Ex.fresh, if_true, List.length_cons, List.length_nil, Nat.reduceAdd, Nat.reduceLT, Nat.reduceSub, Nat.zero_add, h3]
        refine no ?_
        rw [ec]
        cases g1 : xs.all trB with
        | false => rfl
        | true =>
          rw [g1] at hall
          have hall : samP xs = false := hall
          rw [hall, Bool.and_false]
          rfl
  | _ =>
    simp only [List.map_cons, List.map_nil, List.cons_append, List.nil_append, List.replicate, evSs, evS, evE.eq_1, evE.eq_2, evE.eq_3, evE.eq_4, evE.eq_5, evE.eq_6, evE.eq_7, evE.eq_8, evE.eq_9, evE.eq_10, evE.eq_11, evE.eq_12, evE.eq_13, evE.eq_14, evE.eq_15, evE.eq_16, evE.eq_17, evE.eq_18, evE.eq_19, evE.eq_20, evE.eq_24, evE.eq_25, evE.eq_26, evE.eq_27, evEs, ok_bnd, List.getElem?_cons_zero, List.getElem?_cons_succ, ok_ret, peek_val, asP_val, ok_some, Option.map_some, idx_lst, idx_tup, at_0, at_1, at_2, cmp_gt, cmp_ge, cmp_lt, cmp_le, tru_bl, bin_add, bin_sub, blt_int, blt_intb, peeks_nil, peeks_cons, List.set_cons_zero, List.set_cons_succ, lv_val, set_slot, vals_nil, vals_cons, ok_ok, cell_lst, cell_dct, Ex.fresh, if_true, List.length_cons, List.length_nil, Nat.reduceAdd, Nat.reduceLT, Nat.reduceSub, Nat.zero_add, List.any_cons, List.any_nil, Bool.or_false, ty_tupB, isTupB, Bool.not_false, or_cons, List.take_length]
    exact no rfl
end
end Fy

/-! Pl26: a drawn world. -/
namespace Fy
open PySem (Str)
def gLawWorld (d : Nat) : Sts := (.cons (.asg 3 (.new (.lst .nil))) (.cons (.for_ (.nm 4) (.rng1 (.cst (.int 4))) (.cons (.asg 5 (.lcm (.var 6) [6] (.cons (.nm 6) (.rng1 (.var 2)) (.cons (.cmp .gt (.cal d (.cons (.var 0) (.cons (.cst (.int 3)) .nil))) (.cst (.int 0))) .nil) .nil))) (.cons (.expr (.mth .append (.var 3) (.cons (.ife (.cmp .ne (.var 5) (.lst .nil)) (.blt .tup (.cons (.var 5) .nil)) (.tup (.cons (.cal d (.cons (.var 0) (.cons (.var 2) .nil))) .nil))) .nil))) .nil))) (.cons (.asg 7 (.new (.lst .nil))) (.cons (.for_ (.nm 8) (.val (.blt .sorted (.cons (.var 1) .nil))) (.cons (.asg 4 (.cal d (.cons (.var 0) (.cons (.cst (.int 4)) .nil)))) (.cons (.expr (.mth .append (.var 7) (.cons (.tup (.cons (.var 8) (.cons (.var 4) (.cons (.idx (.var 3) (.var 4)) .nil)))) .nil))) .nil))) (.cons (.ret (.blt .tup (.cons (.var 7) .nil))) .nil)))))
/-- [e for x in xs if ..] where the test may draw -/
theorem sift_draw {C : Ev} {e : Ex} {i : Nat} {own : List Nat} {it : It} {ifs : Exs} {env : Env} {W : Sl → Sto → Prop} {st : Sto} {xs : List P} (S : Sto → Prop) (g : P → P) (hi : i < (wipeE env own).length) (hn : (wipeE env own)[i]? = some none) (hx : Ok (evI C it env st) fun ys t => ys = xs ∧ S t) (hl : xs.length ≤ 100000)
    (ht : ∀ x t, x ∈ xs → S t → Ok (evTs C ifs ((wipeE env own).set i (some (.val x))) t) fun b u => S u)
    (hs : ∀ x t, x ∈ xs → S t → Ok (evE C e ((wipeE env own).set i (some (.val x))) t) fun v u => v = .val (g x) ∧ u = t) (hw : ∀ ps t, ps.Sublist (xs.map g) → S t → W (.val (.lst ps)) t) : Ok (evE C (.lcm e own (.cons (.nm i) it ifs .nil)) env st) W := by
  rw [evE.eq_21, ok_bnd, gen_one hi hn]
  refine hx.imp fun ys t ⟨e1, h0⟩ => ?_
  subst e1
  refine fold_ok (fun j acc u => acc.Sublist ((ys.take j).map g) ∧ S u) ⟨List.Sublist.refl _, h0⟩ (fun j x acc u hj ⟨h1, h2⟩ => ?_) fun acc u ⟨h1, h2⟩ => ?_
  · have hm : x ∈ ys := List.mem_of_getElem? hj
    have lt := lt_of_some hj
    have more : (ys.take (j + 1)).map g = (ys.take j).map g ++ [g x] := by
      rw [take_snoc hj, List.map_append]
      rfl
    rw [ok_bnd]
    refine (ht x u hm h2).imp fun b u2 h3 => ?_
    cases b with
    | false =>
      (rw [if_neg Bool.false_ne_true])
      refine ⟨?_, h3⟩
      rw [more]
      exact h1.trans (List.sublist_append_left _ _)
    | true =>
      rw [if_pos rfl, ok_bnd]
      refine (hs x u2 hm h3).imp fun v w ⟨h4, h5⟩ => ?_
      subst h4
      subst h5
      rw [ok_bnd, asP_val]
      have lm : acc.length < lenMost := by
        have := h1.length_le
        rw [List.length_map, List.length_take] at this
        have : lenMost = 100000 := rfl
        omega
      rw [if_pos lm]
      refine ⟨?_, h3⟩
      rw [more]
      exact List.Sublist.append h1 (List.Sublist.refl _)
  · rw [List.take_length] at h1
    exact hw acc u h1 h2
theorem Kin.cansort {xs : List P} (h : Kin xs) (hl : xs.length ≤ 100000) : canSort xs = true := by
  obtain ⟨A, f, lt, as, l, e⟩ := h.lin
  rw [e] at hl ⊢
  have al : ∀ (g : P → Bool), (∀ a, g (f a) = true) → (as.map f).all g = true := fun g hg => by
    rw [List.all_eq_true]
    intro x hx
    (obtain ⟨a, _, rfl⟩ := List.mem_map.mp hx)
    exact hg a
  unfold canSort
  rw [al _ fun a => al _ fun b => l.alk a b, al isPlainKey l.pk, al (fun x => x.flat && decide (x.depth ≤ depthMost)) (fun a => by rw [l.fl, l.dp]; rfl), decide_eq_true (show (as.map f).length ≤ lenMost from hl), Bool.or_true]
  rfl
def intsP (r : List Int) : P := .tup (r.map .int)
/-- one row of the table -/
def RowOk (m : Nat) (r : List Int) : Prop := r ≠ [] ∧ r.Pairwise (fun i j => i < j) ∧ (∀ i ∈ r, 0 ≤ i ∧ i < (m : Nat)) ∧ r.length ≤ m
def triP (rows : List (List Int)) (nm : P) (k : Nat) : P := .tup [nm, .int (k : Nat), intsP (rows.getD k [])]
def WorldOf (xs : List P) (m : Nat) (p : P) : Prop := ∃ rows : List (List Int), rows.length = 4 ∧ (∀ r ∈ rows, RowOk m r) ∧ ∃ ks : List Nat, ks.length = xs.length ∧ (∀ k ∈ ks, k < 4) ∧ p = .tup (List.zipWith (triP rows) (sortL xs) ks)
theorem range_pw (m : Nat) : ((List.range m).map fun i : Nat => (i : Int)).Pairwise fun i j => i < j := by
  rw [List.pairwise_map]
  refine List.pairwise_lt_range.imp fun {a b} h => ?_
  omega
theorem sub_ints {m : Nat} {ps : List P} (h : ps.Sublist ((List.range m).map fun i : Nat => P.int (i : Int))) : ∃ r : List Int, ps = r.map .int ∧ r.Pairwise (fun i j => i < j) ∧ (∀ i ∈ r, 0 ≤ i ∧ i < (m : Nat)) ∧ r.length ≤ m := by
  have hlen := h.length_le
  rw [List.length_map, List.length_range] at hlen
  have e : ((List.range m).map fun i : Nat => P.int (i : Int)) = ((List.range m).map fun i : Nat => (i : Int)).map P.int := by
    rw [List.map_map]
    rfl
  rw [e] at h
  obtain ⟨r, hr, er⟩ := List.sublist_map_iff.mp h
  refine ⟨r, er, (range_pw m).sublist hr, fun i hi => ?_, by rw [er, List.length_map] at hlen; exact hlen⟩
  obtain ⟨j, hj, rfl⟩ := List.mem_map.mp (hr.subset hi)
  have := List.mem_range.mp hj
  omega
theorem sort_len {xs : List P} : (sortL xs).length = xs.length := List.length_mergeSort _
section
variable {T : Tab} {f d n : Nat}
theorem lawworld_ok (hf : T.fns[f]? = some ⟨3, 9, gLawWorld d⟩) (hd : T.fns[d]? = some ⟨2, 5, gDraw⟩) (hu : T.fuel = 1000) {k m : Nat} {st : Sto} {xs : List P} {W : Sl → Sto → Prop} (h0 : 0 < m) (h1 : m ≤ 1000) (hk : Kin xs) (hl : xs.length ≤ 1000) (hn : Drw st n)
    (q : ∀ (p : P) (t : Sto), WorldOf xs m p → Nx st t n → W (.val p) t) : Ok (run T (k + 2) f [.ref n, .val (.lst xs), .val (.int (m : Nat))] st) W := by
  refine ok_run hf rfl (by decide) ?_
  unfold gLawWorld
  have hk1 := Nk.start (xs := []) hn
  have ln := hn.lt
  simp only [List.map_cons, List.map_nil, List.cons_append, List.nil_append, List.replicate, evSs, evS, evE.eq_1, evE.eq_2, evE.eq_3, evE.eq_4, evE.eq_5, evE.eq_6, evE.eq_7, evE.eq_8, evE.eq_9, evE.eq_10, evE.eq_11, evE.eq_12, evE.eq_13, evE.eq_14, evE.eq_15, evE.eq_16, evE.eq_17, evE.eq_18, evE.eq_19, evE.eq_20, evE.eq_24, evE.eq_25, evE.eq_26, evE.eq_27, evEs, ok_bnd, List.getElem?_cons_zero, List.getElem?_cons_succ, ok_ret, peek_val, asP_val, ok_some, Option.map_some, idx_lst, idx_tup, at_0, at_1, at_2, cmp_gt, cmp_ge, cmp_lt, cmp_le, tru_bl, bin_add, bin_sub, blt_int, blt_intb, peeks_nil, peeks_cons, List.set_cons_zero, List.set_cons_succ, lv_val, set_slot, vals_nil, vals_cons, ok_ok, cell_lst, cell_dct, Ex.fresh, if_true, List.length_cons, List.length_nil, Nat.reduceAdd, Nat.reduceLT, Nat.reduceSub, Nat.zero_add, evI]
  rw [if_pos (by decide)]
  simp only [List.map_cons, List.map_nil, List.cons_append, List.nil_append, List.replicate, evSs, evS, evE.eq_1, evE.eq_2, evE.eq_3, evE.eq_4, evE.eq_5, evE.eq_6, evE.eq_7, evE.eq_8, evE.eq_9, evE.eq_10, evE.eq_11, evE.eq_12, evE.eq_13, evE.eq_14, evE.eq_15, evE.eq_16, evE.eq_17, evE.eq_18, evE.eq_19, evE.eq_20, evE.eq_24, evE.eq_25, evE.eq_26, evE.eq_27, evEs, ok_bnd, List.getElem?_cons_zero, List.getElem?_cons_succ, ok_ret, peek_val, asP_val, ok_some, Option.map_some, idx_lst, idx_tup, at_0, at_1, at_2, cmp_gt, cmp_ge, cmp_lt, cmp_le, tru_bl, bin_add, bin_sub, blt_int, blt_intb, peeks_nil, peeks_cons, List.set_cons_zero, List.set_cons_succ, lv_val, set_slot, vals_nil, vals_cons, ok_ok, cell_lst, cell_dct, Ex.fresh, if_true, List.length_cons, List.length_nil, Nat.reduceAdd, Nat.reduceLT, Nat.reduceSub, Nat.zero_add]
  refine loop_ok (fun j env t => ∃ z4 z5 rows, env = [some (.ref n), some (.val (.lst xs)), some (.val (.int (m : Nat))), some (.ref st.length), z4, z5, none, none, none] ∧ Nk st t n (rows.map intsP) ∧ rows.length = j ∧ ∀ r ∈ rows, RowOk m r) ⟨none, none, [], rfl, hk1, rfl, fun r hr => (nomatch hr)⟩ (fun j x e t hj ⟨z4, z5, rows, ee, hk1, lr, hr⟩ => ?_) fun e t ⟨z4, z5, rows, ee, hk1, lr, hr⟩ => ?_
  · subst ee
    have eb : bindP (.nm 4) x [some (.ref n), some (.val (.lst xs)), some (.val (.int (m : Nat))), some (.ref st.length), z4, z5, none, none, none] = some [some (.ref n), some (.val (.lst xs)), some (.val (.int (m : Nat))), some (.ref st.length), some (.val x), z5, none, none, none] := rfl
    rw [eb]
    have lj := lt_of_some hj
    rw [List.length_map, List.length_range] at lj
    have lj : j < 4 := lj
    simp only [List.map_cons, List.map_nil, List.cons_append, List.nil_append, List.replicate, evSs, evS, evE.eq_1, evE.eq_2, evE.eq_3, evE.eq_4, evE.eq_5, evE.eq_6, evE.eq_7, evE.eq_8, evE.eq_9, evE.eq_10, evE.eq_11, evE.eq_12, evE.eq_13, evE.eq_14, evE.eq_15, evE.eq_16, evE.eq_17, evE.eq_18, evE.eq_19, evE.eq_20, evE.eq_24, evE.eq_25, evE.eq_26, evE.eq_27, evEs, ok_bnd, List.getElem?_cons_zero, List.getElem?_cons_succ, ok_ret, peek_val, asP_val, ok_some, Option.map_some, idx_lst, idx_tup, at_0, at_1, at_2, cmp_gt, cmp_ge, cmp_lt, cmp_le, tru_bl, bin_add, bin_sub, blt_int, blt_intb, peeks_nil, peeks_cons, List.set_cons_zero, List.set_cons_succ, lv_val, set_slot, vals_nil, vals_cons, ok_ok, cell_lst, cell_dct, Ex.fresh, if_true, List.length_cons, List.length_nil, Nat.reduceAdd, Nat.reduceLT, Nat.reduceSub, Nat.zero_add]
    refine sift_draw (xs := (List.range m).map fun i : Nat => P.int (i : Int)) (S := fun u => Nk st u n (rows.map intsP)) (g := fun p => p) (by simp [wipeE]) rfl ?_ (by rw [List.length_map, List.length_range]; omega) (fun x t hx h => ?_) (fun x t hx h => ?_) fun ps t hp h => ?_
    · rw [evI]
      simp only [List.map_cons, List.map_nil, List.cons_append, List.nil_append, List.replicate, evSs, evS, evE.eq_1, evE.eq_2, evE.eq_3, evE.eq_4, evE.eq_5, evE.eq_6, evE.eq_7, evE.eq_8, evE.eq_9, evE.eq_10, evE.eq_11, evE.eq_12, evE.eq_13, evE.eq_14, evE.eq_15, evE.eq_16, evE.eq_17, evE.eq_18, evE.eq_19, evE.eq_20, evE.eq_24, evE.eq_25, evE.eq_26, evE.eq_27, evEs, ok_bnd, List.getElem?_cons_zero, List.getElem?_cons_succ, ok_ret, peek_val, asP_val, ok_some, Option.map_some, idx_lst, idx_tup, at_0, at_1, at_2, cmp_gt, cmp_ge, cmp_lt, cmp_le, tru_bl, bin_add, bin_sub, blt_int, blt_intb, peeks_nil, peeks_cons, List.set_cons_zero, List.set_cons_succ, lv_val, set_slot, vals_nil, vals_cons, ok_ok, cell_lst, cell_dct, Ex.fresh, if_true, List.length_cons, List.length_nil, Nat.reduceAdd, Nat.reduceLT, Nat.reduceSub, Nat.zero_add]
      rw [if_pos ⟨by omega, by omega⟩]
      exact ⟨rfl, hk1⟩
    · rw [evTs]
      simp only [List.map_cons, List.map_nil, List.cons_append, List.nil_append, List.replicate, evSs, evS, evE.eq_1, evE.eq_2, evE.eq_3, evE.eq_4, evE.eq_5, evE.eq_6, evE.eq_7, evE.eq_8, evE.eq_9, evE.eq_10, evE.eq_11, evE.eq_12, evE.eq_13, evE.eq_14, evE.eq_15, evE.eq_16, evE.eq_17, evE.eq_18, evE.eq_19, evE.eq_20, evE.eq_24, evE.eq_25, evE.eq_26, evE.eq_27, evEs, ok_bnd, List.getElem?_cons_zero, List.getElem?_cons_succ, ok_ret, peek_val, asP_val, ok_some, Option.map_some, idx_lst, idx_tup, at_0, at_1, at_2, cmp_gt, cmp_ge, cmp_lt, cmp_le, tru_bl, bin_add, bin_sub, blt_int, blt_intb, peeks_nil, peeks_cons, List.set_cons_zero, List.set_cons_succ, lv_val, set_slot, vals_nil, vals_cons, ok_ok, cell_lst, cell_dct, Ex.fresh, if_true, List.length_cons, List.length_nil, Nat.reduceAdd, Nat.reduceLT, Nat.reduceSub, Nat.zero_add, wipeE]
      refine draw_nx (k := k) hd hu (by decide) (by decide) h.drw fun a u a0 a1 nx => ?_
      simp only [List.map_cons, List.map_nil, List.cons_append, List.nil_append, List.replicate, evSs, evS, evE.eq_1, evE.eq_2, evE.eq_3, evE.eq_4, evE.eq_5, evE.eq_6, evE.eq_7, evE.eq_8, evE.eq_9, evE.eq_10, evE.eq_11, evE.eq_12, evE.eq_13, evE.eq_14, evE.eq_15, evE.eq_16, evE.eq_17, evE.eq_18, evE.eq_19, evE.eq_20, evE.eq_24, evE.eq_25, evE.eq_26, evE.eq_27, evEs, ok_bnd, List.getElem?_cons_zero, List.getElem?_cons_succ, ok_ret, peek_val, asP_val, ok_some, Option.map_some, idx_lst, idx_tup, at_0, at_1, at_2, cmp_gt, cmp_ge, cmp_lt, cmp_le, tru_bl, bin_add, bin_sub, blt_int, blt_intb, peeks_nil, peeks_cons, List.set_cons_zero, List.set_cons_succ, lv_val, set_slot, vals_nil, vals_cons, ok_ok, cell_lst, cell_dct, Ex.fresh, if_true, List.length_cons, List.length_nil, Nat.reduceAdd, Nat.reduceLT, Nat.reduceSub, Nat.zero_add, evTs]
      by_cases c1 : 0 < a
      · simp only [List.map_cons, List.map_nil, List.cons_append, List.nil_append, List.replicate, evSs, evS, evE.eq_1, evE.eq_2, evE.eq_3, evE.eq_4, evE.eq_5, evE.eq_6, evE.eq_7, evE.eq_8, evE.eq_9, evE.eq_10, evE.eq_11, evE.eq_12, evE.eq_13, evE.eq_14, evE.eq_15, evE.eq_16, evE.eq_17, evE.eq_18, evE.eq_19, evE.eq_20, evE.eq_24, evE.eq_25, evE.eq_26, evE.eq_27, evEs, ok_bnd, List.getElem?_cons_zero, List.getElem?_cons_succ, ok_ret, peek_val, asP_val, ok_some, Option.map_some, idx_lst, idx_tup, at_0, at_1, at_2, cmp_gt, cmp_ge, cmp_lt, cmp_le, tru_bl, bin_add, bin_sub, blt_int, blt_intb, peeks_nil, peeks_cons, List.set_cons_zero, List.set_cons_succ, lv_val, set_slot, vals_nil, vals_cons, ok_ok, cell_lst, cell_dct, Ex.fresh, if_true, List.length_cons, List.length_nil, Nat.reduceAdd, Nat.reduceLT, Nat.reduceSub, Nat.zero_add, decide_eq_true c1]
        exact h.draw ln nx
      · simp only [List.map_cons, List.map_nil, List.cons_append, List.nil_append, List.replicate, evSs, evS, evE.eq_1, evE.eq_2, evE.eq_3, evE.eq_4, evE.eq_5, evE.eq_6, evE.eq_7, evE.eq_8, evE.eq_9, evE.eq_10, evE.eq_11, evE.eq_12, evE.eq_13, evE.eq_14, evE.eq_15, evE.eq_16, evE.eq_17, evE.eq_18, evE.eq_19, evE.eq_20, evE.eq_24, evE.eq_25, evE.eq_26, evE.eq_27, evEs, ok_bnd, List.getElem?_cons_zero, List.getElem?_cons_succ, ok_ret, peek_val, asP_val, ok_some, Option.map_some, idx_lst, idx_tup, at_0, at_1, at_2, cmp_gt, cmp_ge, cmp_lt, cmp_le, tru_bl, bin_add, bin_sub, blt_int, blt_intb, peeks_nil, peeks_cons, List.set_cons_zero, List.set_cons_succ, lv_val, set_slot, vals_nil, vals_cons, ok_ok, cell_lst, cell_dct, Ex.fresh, if_true, List.length_cons, List.length_nil, Nat.reduceAdd, Nat.reduceLT, Nat.reduceSub, Nat.zero_add, decide_eq_false c1, Bool.false_eq_true, if_false]
        exact h.draw ln nx
    · simp only [List.map_cons, List.map_nil, List.cons_append, List.nil_append, List.replicate, evSs, evS, evE.eq_1, evE.eq_2, evE.eq_3, evE.eq_4, evE.eq_5, evE.eq_6, evE.eq_7, evE.eq_8, evE.eq_9, evE.eq_10, evE.eq_11, evE.eq_12, evE.eq_13, evE.eq_14, evE.eq_15, evE.eq_16, evE.eq_17, evE.eq_18, evE.eq_19, evE.eq_20, evE.eq_24, evE.eq_25, evE.eq_26, evE.eq_27, evEs, ok_bnd, List.getElem?_cons_zero, List.getElem?_cons_succ, ok_ret, peek_val, asP_val, ok_some, Option.map_some, idx_lst, idx_tup, at_0, at_1, at_2, cmp_gt, cmp_ge, cmp_lt, cmp_le, tru_bl, bin_add, bin_sub, blt_int, blt_intb, peeks_nil, peeks_cons, List.set_cons_zero, List.set_cons_succ, lv_val, set_slot, vals_nil, vals_cons, ok_ok, cell_lst, cell_dct, Ex.fresh, if_true, List.length_cons, List.length_nil, Nat.reduceAdd, Nat.reduceLT, Nat.reduceSub, Nat.zero_add, wipeE]
      exact ⟨trivial, trivial⟩
    · rw [List.map_id'] at hp
      obtain ⟨r, er, pw, hin, lr2⟩ := sub_ints hp
      subst er
      have fl : P.flats (r.map P.int) = true := flats_all fun y hy => by
        obtain ⟨i, _, rfl⟩ := List.mem_map.mp hy
        rfl
      simp only [List.map_cons, List.map_nil, List.cons_append, List.nil_append, List.replicate, evSs, evS, evE.eq_1, evE.eq_2, evE.eq_3, evE.eq_4, evE.eq_5, evE.eq_6, evE.eq_7, evE.eq_8, evE.eq_9, evE.eq_10, evE.eq_11, evE.eq_12, evE.eq_13, evE.eq_14, evE.eq_15, evE.eq_16, evE.eq_17, evE.eq_18, evE.eq_19, evE.eq_20, evE.eq_24, evE.eq_25, evE.eq_26, evE.eq_27, evEs, ok_bnd, List.getElem?_cons_zero, List.getElem?_cons_succ, ok_ret, peek_val, asP_val, ok_some, Option.map_some, idx_lst, idx_tup, at_0, at_1, at_2, cmp_gt, cmp_ge, cmp_lt, cmp_le, tru_bl, bin_add, bin_sub, blt_int, blt_intb, peeks_nil, peeks_cons, List.set_cons_zero, List.set_cons_succ, lv_val, set_slot, vals_nil, vals_cons, ok_ok, cell_lst, cell_dct, Ex.fresh, if_true, List.length_cons, List.length_nil, Nat.reduceAdd, Nat.reduceLT, Nat.reduceSub, Nat.zero_add, peek_lst h.top, of_app, ne_nils fl]
      have push : ∀ (v5 : Sl) (r : List Int) (t : Sto), Nk st t n (rows.map intsP) → RowOk m r → Ok (mthM .append (.ref st.length) [.val (intsP r)] t) fun a u => ∃ (z4' z5' : Option Sl) (rows' : List (List Int)), ([some (.ref n), some (.val (.lst xs)), some (.val (.int (m : Nat))), some (.ref st.length), some (.val x), some v5, none, none, none] : Env) = [some (.ref n), some (.val (.lst xs)), some (.val (.int (m : Nat))), some (.ref st.length), z4', z5', none, none, none] ∧ Nk st u n (rows'.map intsP) ∧ rows'.length = j + 1 ∧ ∀ r ∈ rows', RowOk m r := fun v5 r t h hro => by
        rw [app_cell h.top (by rw [List.length_map]; omega)]
        refine ⟨_, _, rows ++ [r], rfl, ?_, by rw [List.length_append, lr]; rfl, fun y hy => ?_⟩
        · rw [List.map_append]
          exact h.set _ ln
        · rcases List.mem_append.mp hy with hy | hy
          · exact hr y hy
          · rw [List.mem_singleton.mp hy]
            exact hro
      cases r with
      | nil =>
        simp only [List.map_cons, List.map_nil, List.cons_append, List.nil_append, List.replicate, evSs, evS, evE.eq_1, evE.eq_2, evE.eq_3, evE.eq_4, evE.eq_5, evE.eq_6, evE.eq_7, evE.eq_8, evE.eq_9, evE.eq_10, evE.eq_11, evE.eq_12, evE.eq_13, evE.eq_14, evE.eq_15, evE.eq_16, evE.eq_17, evE.eq_18, evE.eq_19, evE.eq_20, evE.eq_24, evE.eq_25, evE.eq_26, evE.eq_27, evEs, ok_bnd, List.getElem?_cons_zero, List.getElem?_cons_succ, ok_ret, peek_val, asP_val, ok_some, Option.map_some, idx_lst, idx_tup, at_0, at_1, at_2, cmp_gt, cmp_ge, cmp_lt, cmp_le, tru_bl, bin_add, bin_sub, blt_int, blt_intb, peeks_nil, peeks_cons, List.set_cons_zero, List.set_cons_succ, lv_val, set_slot, vals_nil, vals_cons, ok_ok, cell_lst, cell_dct, Ex.fresh, if_true, List.length_cons, List.length_nil, Nat.reduceAdd, Nat.reduceLT, Nat.reduceSub, Nat.zero_add, List.isEmpty_nil, Bool.not_true, Bool.false_eq_true, if_false]
        refine draw_nx (k := k) hd hu (by omega) (by omega) h.drw fun a u a0 a1 nx => ?_
        exact push _ [a] u (h.draw ln nx) ⟨List.cons_ne_nil _ _, List.pairwise_singleton _ _, fun i hi => by
          rw [List.mem_singleton.mp hi]
          exact ⟨a0, a1⟩, by rw [List.length_singleton]; omega⟩
      | cons i r =>
        simp only [List.map_cons, List.map_nil, List.cons_append, List.nil_append, List.replicate, evSs, evS, evE.eq_1, evE.eq_2, evE.eq_3, evE.eq_4, evE.eq_5, evE.eq_6, evE.eq_7, evE.eq_8, evE.eq_9, evE.eq_10, evE.eq_11, evE.eq_12, evE.eq_13, evE.eq_14, evE.eq_15, evE.eq_16, evE.eq_17, evE.eq_18, evE.eq_19, evE.eq_20, evE.eq_24, evE.eq_25, evE.eq_26, evE.eq_27, evEs, ok_bnd, List.getElem?_cons_zero, List.getElem?_cons_succ, ok_ret, peek_val, asP_val, ok_some, Option.map_some, idx_lst, idx_tup, at_0, at_1, at_2, cmp_gt, cmp_ge, cmp_lt, cmp_le, tru_bl, bin_add, bin_sub, blt_int, blt_intb, peeks_nil, peeks_cons, List.set_cons_zero, List.set_cons_succ, lv_val, set_slot, vals_nil, vals_cons, ok_ok, cell_lst, cell_dct, Ex.fresh, if_true, List.length_cons, List.length_nil, Nat.reduceAdd, Nat.reduceLT, Nat.reduceSub, Nat.zero_add, List.isEmpty_cons, Bool.not_false, blt_tupl]
        exact push _ (i :: r) t h ⟨List.cons_ne_nil _ _, pw, hin, lr2⟩
  · subst ee
    have l4 : rows.length = 4 := by
      rw [lr, List.length_map, List.length_range]
      rfl
    have hk2 := Nk.start (xs := []) hk1.drw
    have ln2 : n < t.length := by rw [hk1.len]; omega
    have es : bltP .sorted [.lst xs] = some (.lst (sortL xs)) := if_pos (hk.cansort (by omega))
    simp only [List.map_cons, List.map_nil, List.cons_append, List.nil_append, List.replicate, evSs, evS, evE.eq_1, evE.eq_2, evE.eq_3, evE.eq_4, evE.eq_5, evE.eq_6, evE.eq_7, evE.eq_8, evE.eq_9, evE.eq_10, evE.eq_11, evE.eq_12, evE.eq_13, evE.eq_14, evE.eq_15, evE.eq_16, evE.eq_17, evE.eq_18, evE.eq_19, evE.eq_20, evE.eq_24, evE.eq_25, evE.eq_26, evE.eq_27, evEs, ok_bnd, List.getElem?_cons_zero, List.getElem?_cons_succ, ok_ret, peek_val, asP_val, ok_some, Option.map_some, idx_lst, idx_tup, at_0, at_1, at_2, cmp_gt, cmp_ge, cmp_lt, cmp_le, tru_bl, bin_add, bin_sub, blt_int, blt_intb, peeks_nil, peeks_cons, List.set_cons_zero, List.set_cons_succ, lv_val, set_slot, vals_nil, vals_cons, ok_ok, cell_lst, cell_dct, Ex.fresh, if_true, List.length_cons, List.length_nil, Nat.reduceAdd, Nat.reduceLT, Nat.reduceSub, Nat.zero_add, es, itm_lst]
    refine loop_ok (fun j env v => ∃ z4 z8 ks, env = [some (.ref n), some (.val (.lst xs)), some (.val (.int (m : Nat))), some (.ref st.length), z4, z5, none, some (.ref t.length), z8] ∧ Nk t v n (List.zipWith (triP rows) ((sortL xs).take j) ks) ∧ ks.length = j ∧ ∀ k ∈ ks, k < 4) ⟨z4, none, [], rfl, hk2, rfl, fun k hk => (nomatch hk)⟩ (fun j x e v hj ⟨y4, y8, ks, ee, hv, lk, hks⟩ => ?_) fun e v ⟨y4, y8, ks, ee, hv, lk, hks⟩ => ?_
    · subst ee
      have lj := lt_of_some hj
      rw [sort_len] at lj
      have eb : bindP (.nm 8) x [some (.ref n), some (.val (.lst xs)), some (.val (.int (m : Nat))), some (.ref st.length), y4, z5, none, some (.ref t.length), y8] = some [some (.ref n), some (.val (.lst xs)), some (.val (.int (m : Nat))), some (.ref st.length), y4, z5, none, some (.ref t.length), some (.val x)] := rfl
      rw [eb]
      simp only [List.map_cons, List.map_nil, List.cons_append, List.nil_append, List.replicate, evSs, evS, evE.eq_1, evE.eq_2, evE.eq_3, evE.eq_4, evE.eq_5, evE.eq_6, evE.eq_7, evE.eq_8, evE.eq_9, evE.eq_10, evE.eq_11, evE.eq_12, evE.eq_13, evE.eq_14, evE.eq_15, evE.eq_16, evE.eq_17, evE.eq_18, evE.eq_19, evE.eq_20, evE.eq_24, evE.eq_25, evE.eq_26, evE.eq_27, evEs, ok_bnd, List.getElem?_cons_zero, List.getElem?_cons_succ, ok_ret, peek_val, asP_val, ok_some, Option.map_some, idx_lst, idx_tup, at_0, at_1, at_2, cmp_gt, cmp_ge, cmp_lt, cmp_le, tru_bl, bin_add, bin_sub, blt_int, blt_intb, peeks_nil, peeks_cons, List.set_cons_zero, List.set_cons_succ, lv_val, set_slot, vals_nil, vals_cons, ok_ok, cell_lst, cell_dct, Ex.fresh, if_true, List.length_cons, List.length_nil, Nat.reduceAdd, Nat.reduceLT, Nat.reduceSub, Nat.zero_add]
      refine draw_nx (k := k) hd hu (by decide) (by decide) hv.drw fun a v2 a0 a1 nx => ?_
      have hv := hv.draw ln2 nx
      obtain ⟨i, rfl⟩ : ∃ i : Nat, a = (i : Nat) := ⟨a.toNat, by omega⟩
      have li : i < rows.length := by omega
      have li2 : i < (rows.map intsP).length := by rw [List.length_map]; exact li
      have top1 : v2[st.length]? = some (.lst (rows.map intsP)) := by
        rw [hv.els st.length (by omega) (by rw [hk1.len]; omega)]
        exact hk1.top
      simp only [List.map_cons, List.map_nil, List.cons_append, List.nil_append, List.replicate, evSs, evS, evE.eq_1, evE.eq_2, evE.eq_3, evE.eq_4, evE.eq_5, evE.eq_6, evE.eq_7, evE.eq_8, evE.eq_9, evE.eq_10, evE.eq_11, evE.eq_12, evE.eq_13, evE.eq_14, evE.eq_15, evE.eq_16, evE.eq_17, evE.eq_18, evE.eq_19, evE.eq_20, evE.eq_24, evE.eq_25, evE.eq_26, evE.eq_27, evEs, ok_bnd, List.getElem?_cons_zero, List.getElem?_cons_succ, ok_ret, peek_val, asP_val, ok_some, Option.map_some, idx_lst, idx_tup, at_0, at_1, at_2, cmp_gt, cmp_ge, cmp_lt, cmp_le, tru_bl, bin_add, bin_sub, blt_int, blt_intb, peeks_nil, peeks_cons, List.set_cons_zero, List.set_cons_succ, lv_val, set_slot, vals_nil, vals_cons, ok_ok, cell_lst, cell_dct, Ex.fresh, if_true, List.length_cons, List.length_nil, Nat.reduceAdd, Nat.reduceLT, Nat.reduceSub, Nat.zero_add, peek_lst hv.top, of_app, peek_lst top1, at_nat li2]
      rw [app_cell hv.top (by rw [List.length_zipWith, List.length_take]; omega)]
      refine ⟨_, _, ks ++ [i], rfl, ?_, by rw [List.length_append, lk]; rfl, fun y hy => ?_⟩
      · have eg : (rows.map intsP)[i] = intsP (rows.getD i []) := by
          rw [List.getElem_map, List.getD_eq_getElem?_getD, List.getElem?_eq_getElem li]
          rfl
        have ez : List.zipWith (triP rows) ((sortL xs).take (j + 1)) (ks ++ [i]) = List.zipWith (triP rows) ((sortL xs).take j) ks ++ [.tup [x, .int (i : Nat), (rows.map intsP)[i]]] := by
          rw [take_snoc hj, List.zipWith_append (by rw [List.length_take, sort_len, lk]; omega), eg]
          rfl
        rw [ez]
        exact hv.set _ ln2
      · rcases List.mem_append.mp hy with hy | hy
        · exact hks y hy
        · rw [List.mem_singleton.mp hy]
          omega
    · subst ee
      rw [List.take_length] at hv
      have nx1 := hv.nx ln2
      have nx2 := (hk1.draw ln nx1).nx ln
      rw [List.take_take, Nat.min_eq_left (by rw [hk1.len]; omega)] at nx2
      simp only [List.map_cons, List.map_nil, List.cons_append, List.nil_append, List.replicate, evSs, evS, evE.eq_1, evE.eq_2, evE.eq_3, evE.eq_4, evE.eq_5, evE.eq_6, evE.eq_7, evE.eq_8, evE.eq_9, evE.eq_10, evE.eq_11, evE.eq_12, evE.eq_13, evE.eq_14, evE.eq_15, evE.eq_16, evE.eq_17, evE.eq_18, evE.eq_19, evE.eq_20, evE.eq_24, evE.eq_25, evE.eq_26, evE.eq_27, evEs, ok_bnd, List.getElem?_cons_zero, List.getElem?_cons_succ, ok_ret, peek_val, asP_val, ok_some, Option.map_some, idx_lst, idx_tup, at_0, at_1, at_2, cmp_gt, cmp_ge, cmp_lt, cmp_le, tru_bl, bin_add, bin_sub, blt_int, blt_intb, peeks_nil, peeks_cons, List.set_cons_zero, List.set_cons_succ, lv_val, set_slot, vals_nil, vals_cons, ok_ok, cell_lst, cell_dct, Ex.fresh, if_true, List.length_cons, List.length_nil, Nat.reduceAdd, Nat.reduceLT, Nat.reduceSub, Nat.zero_add, peek_lst hv.top, blt_tupl]
      rw [sort_len] at lk
      exact q _ _ ⟨rows, l4, hr, ks, lk, hks, rfl⟩ nx2
end
end Fy

/-! Pl27: small helps for a law's turn. -/
namespace Fy
open PySem (Str)
theorem Ks.base {u : Sto} {n m b : Nat} {L : List P} (h : Ks u n m L) (hb : b ≤ m) : b ≤ u.length := by
  rw [h.len]
  omega
theorem th_one {c d : Nat} {x : P} (hx : Th c d x) (hc : 1 ≤ c) : Th c (d + 1) (.tup [x]) := .tup _ _ hc fun z hz => by
  rw [List.mem_singleton.mp hz]
  exact hx
theorem th_two {c d : Nat} {x y : P} (hx : Th c d x) (hy : Th c d y) (hc : 2 ≤ c) : Th c (d + 1) (.tup [x, y]) := .tup _ _ hc fun z hz => by
  simp only [List.mem_cons, List.not_mem_nil, or_false] at hz
  rcases hz with rfl | rfl
  · exact hx
  · exact hy
theorem th_thr {c d : Nat} {x y w : P} (hx : Th c d x) (hy : Th c d y) (hw : Th c d w) (hc : 3 ≤ c) : Th c (d + 1) (.tup [x, y, w]) := .tup _ _ hc fun z hz => by
  simp only [List.mem_cons, List.not_mem_nil, or_false] at hz
  rcases hz with rfl | rfl | rfl
  · exact hx
  · exact hy
  · exact hw
theorem th_app {c d : Nat} {L M : List P} (hL : ∀ x ∈ L, Th c d x) (hM : ∀ x ∈ M, Th c d x) : ∀ x ∈ L ++ M, Th c d x := fun x hx => (List.mem_append.mp hx).elim (hL x) (hM x)
theorem rev_tup {xs : List P} : revP (.tup xs) = some (.tup xs.reverse) := rfl
theorem rng_eq {C : Ev} {a : Ex} {env : Env} {st : Sto} {W : List P → Sto → Prop} (h : Ok (evE C a env st) fun v t => ∃ i : Int, v = .val (.int i) ∧ i ≤ 1000000 ∧ -1000000 ≤ i ∧ W ((List.range i.toNat).map fun i : Nat => P.int (i : Int)) t) : Ok (evI C (.rng1 a) env st) W := by
  rw [evI, ok_bnd]
  refine h.imp fun v t ⟨i, e, h1, h2, h3⟩ => ?_
  subst e
  show Ok ((if -1000000 ≤ i ∧ i ≤ 1000000 then ret ((List.range i.toNat).map fun (i : Nat) => P.int (i : Int)) else stuck) t) W
  rw [if_pos ⟨h2, h1⟩]
  exact h3
theorem cut_kin {xs : List P} {lo hi : Option Int} (h : Kin xs) : Kin (cutL xs lo hi) := by
  rcases h with h | h
  · exact .inl fun x hx => h x (cutL_in hx)
  · exact .inr fun x hx => h x (cutL_in hx)
/-- the triples of a drawn world -/
theorem WorldOf.triples {xs : List P} {m : Nat} {p : P} (h : WorldOf xs m p) (hx : ∀ x ∈ xs, Th 16 0 x) (hm : m ≤ 16) (hl : xs.length ≤ 16) : ∃ L, p = .tup L ∧ L.length ≤ 16 ∧ ∀ t ∈ L, ∃ a k z, t = .tup [a, .int (k : Nat), z] ∧ Th 16 0 a ∧ k < 4 ∧ Th 16 1 z := by
  obtain ⟨rows, l4, hr, ks, lk, hk, rfl⟩ := h
  refine ⟨_, rfl, by rw [List.length_zipWith, sort_len]; omega, fun t ht => ?_⟩
  obtain ⟨j, hj⟩ := List.getElem?_of_mem ht
  rw [List.getElem?_zipWith] at hj
  cases h1 : (sortL xs)[j]? with
  | none =>
    rw [h1] at hj
    cases hj
  | some a =>
    cases h2 : ks[j]? with
    | none =>
      rw [h1, h2] at hj
      cases hj
    | some k =>
      rw [h1, h2] at hj
      have hj : triP rows a k = t := Option.some.inj hj
      subst hj
      have ha : a ∈ xs := (List.mergeSort_perm _ _).mem_iff.mp (List.mem_of_getElem? h1)
      have hk4 := hk k (List.mem_of_getElem? h2)
      refine ⟨a, k, intsP (rows.getD k []), rfl, hx a ha, hk4, ?_⟩
      have lr : k < rows.length := by omega
      have er : rows.getD k [] = rows[k] := by
        rw [List.getD_eq_getElem?_getD, List.getElem?_eq_getElem lr]
        rfl
      obtain ⟨_, pw, hin, len⟩ := hr rows[k] (List.getElem_mem lr)
      rw [er]
      refine .tup _ _ (by rw [List.length_map]; omega) fun y hy => ?_
      obtain ⟨i, hi, rfl⟩ := List.mem_map.mp hy
      have := hin i hi
      exact .int _ _ (by omega)
end Fy

/-! the defs of the law and of what it asks, as terms (printed by gen.py) -/
namespace K01
open PySem (Str)
open Fy
def vals : List P := [(.str "abcdefghijklmnopqrstuvwxyz"), (.int 1000000)]
/-- is_integer(value) : 0 value -/
def b0 : Sts := (.cons (.ret (.and (.isi (.var 0) [.int] false) (.cons (.not (.isi (.var 0) [.bool] false)) .nil))) .nil)
/-- is_name(value) : 0 value, 1 sign -/
def b1 : Sts := (.cons (.ret (.and (.isi (.var 0) [.str] false) (.cons (.cmp2 .le .le (.cst (.int 1)) (.blt .len (.cons (.var 0) .nil)) (.cst (.int 8))) (.cons (.blt .all (.cons (.lcm (.cmp .mem (.var 1) (.glo 0)) [1] (.cons (.nm 1) (.val (.var 0)) .nil .nil)) .nil)) .nil)))) .nil)
/-- ascends(values) : 0 values, 1 one, 2 other -/
def b2 : Sts := (.cons (.ret (.blt .all (.cons (.lcm (.cmp .lt (.var 1) (.var 2)) [1, 2] (.cons (.tp [(.nm 1), (.nm 2)]) (.zip (.var 0) (.slc (.var 0) (.yes (.cst (.int 1))) .no)) .nil .nil)) .nil))) .nil)
/-- are_cells(value) : 0 value, 1 cell -/
def b3 : Sts := (.cons (.ite (.or (.not (.isi (.var 0) [.tup] false)) (.cons (.not (.cmp2 .le .le (.cst (.int 1)) (.blt .len (.cons (.var 0) .nil)) (.cst (.int 16)))) .nil)) (.cons (.ret (.cst (.bl false))) .nil) .nil) (.cons (.ret (.and (.blt .all (.cons (.lcm (.and (.cal 0 (.cons (.var 1) .nil)) (.cons (.cmp2 .le .le (.cst (.int 0)) (.var 1) (.glo 1)) .nil)) [1] (.cons (.nm 1) (.val (.var 0)) .nil .nil)) .nil)) (.cons (.cal 2 (.cons (.var 0) .nil)) .nil))) .nil))
/-- is_marking(value) : 0 value, 1 pair -/
def b4 : Sts := (.cons (.ite (.or (.not (.isi (.var 0) [.tup] false)) (.cons (.cmp .gt (.blt .len (.cons (.var 0) .nil)) (.cst (.int 8))) .nil)) (.cons (.ret (.cst (.bl false))) .nil) .nil) (.cons (.for_ (.nm 1) (.val (.var 0)) (.cons (.ite (.or (.not (.isi (.var 1) [.tup] false)) (.cons (.cmp .ne (.blt .len (.cons (.var 1) .nil)) (.cst (.int 2))) (.cons (.not (.cal 1 (.cons (.idx (.var 1) (.cst (.int 0))) .nil))) (.cons (.not (.cal 3 (.cons (.idx (.var 1) (.cst (.int 1))) .nil))) .nil)))) (.cons (.ret (.cst (.bl false))) .nil) .nil) .nil)) (.cons (.ret (.cal 2 (.cons (.lcm (.idx (.var 1) (.cst (.int 0))) [1] (.cons (.nm 1) (.val (.var 0)) .nil .nil)) .nil))) .nil)))
/-- is_triple(value) : 0 value -/
def b5 : Sts := (.cons (.ite (.or (.not (.isi (.var 0) [.tup] false)) (.cons (.cmp .ne (.blt .len (.cons (.var 0) .nil)) (.cst (.int 3))) (.cons (.not (.cal 1 (.cons (.idx (.var 0) (.cst (.int 0))) .nil))) .nil))) (.cons (.ret (.cst (.bl false))) .nil) .nil) (.cons (.ret (.and (.cal 0 (.cons (.idx (.var 0) (.cst (.int 1))) .nil)) (.cons (.cmp2 .le .le (.cst (.int 0)) (.idx (.var 0) (.cst (.int 1))) (.glo 1)) (.cons (.cal 3 (.cons (.idx (.var 0) (.cst (.int 2))) .nil)) .nil)))) .nil))
/-- is_world(value) : 0 value, 1 triple, 2 cells, 3 name, 4 key, 5 some -/
def b6 : Sts := (.cons (.ite (.or (.not (.isi (.var 0) [.tup] false)) (.cons (.cmp .gt (.blt .len (.cons (.var 0) .nil)) (.cst (.int 8))) (.cons (.not (.blt .all (.cons (.lcm (.cal 5 (.cons (.var 1) .nil)) [1] (.cons (.nm 1) (.val (.var 0)) .nil .nil)) .nil))) .nil))) (.cons (.ret (.cst (.bl false))) .nil) .nil) (.cons (.asg 2 (.dcm (.var 4) (.var 5) [3, 4, 5] (.cons (.tp [(.nm 3), (.nm 4), (.nm 5)]) (.val (.var 0)) .nil .nil))) (.cons (.ret (.and (.cal 2 (.cons (.lcm (.idx (.var 1) (.cst (.int 0))) [1] (.cons (.nm 1) (.val (.var 0)) .nil .nil)) .nil)) (.cons (.blt .all (.cons (.lcm (.cmp .eq (.idx (.var 2) (.var 4)) (.var 5)) [3, 4, 5] (.cons (.tp [(.nm 3), (.nm 4), (.nm 5)]) (.val (.var 0)) .nil .nil)) .nil)) .nil))) .nil)))
/-- _law_draws(_law_script, _law_k) : 0 _law_script, 1 _law_k, 2 _law_cell, 3 _law_blend -/
def b7 : Sts := (.cons (.asg 2 (.bin .mul (.cst (.int 15485863)) (.var 1))) (.cons (.ite (.cmp .lt (.var 1) (.blt .len (.cons (.var 0) .nil))) (.cons (.asg 2 (.bin .mod (.blt .int (.cons (.blt .abs (.cons (.idx (.var 0) (.var 1)) .nil)) .nil)) (.bin .mul (.bin .mul (.bin .mul (.bin .pow (.cst (.int 10)) (.cst (.int 60))) (.bin .pow (.cst (.int 10)) (.cst (.int 60)))) (.bin .pow (.cst (.int 10)) (.cst (.int 60)))) (.bin .pow (.cst (.int 10)) (.cst (.int 60)))))) .nil) (.cons (.ite (.cmp .gt (.blt .len (.cons (.var 0) .nil)) (.cst (.int 0))) (.cons (.asg 2 (.bin .add (.bin .mod (.blt .int (.cons (.blt .abs (.cons (.idx (.var 0) (.bin .mod (.var 1) (.blt .len (.cons (.var 0) .nil)))) .nil)) .nil)) (.bin .pow (.cst (.int 10)) (.cst (.int 15)))) (.bin .mul (.cst (.int 15485863)) (.var 1)))) .nil) .nil) .nil)) (.cons (.asg 3 (.bin .add (.cst (.int 1)) (.bin .mod (.blt .int (.cons (.bin .add (.bin .mul (.var 2) (.cst (.int 69621))) (.bin .mul (.cst (.int 86028121)) (.bin .add (.var 1) (.cst (.int 1))))) .nil)) (.cst (.int 2147483646))))) (.cons (.ret (.new (.lst (.cons (.bin .mul (.var 2) (.blt .int (.cons (.cmp .ge (.var 2) (.bin .pow (.cst (.int 10)) (.cst (.int 18)))) .nil))) (.cons (.var 3) .nil))))) .nil))))
/-- _law_draw(_law_draws_here, _law_many) : 0 _law_draws_here, 1 _law_many, 2 _law_found, 3 _law_wide, 4 _law_more -/
def b8 : Sts := (.cons (.ite (.cmp .gt (.idx (.var 0) (.cst (.int 0))) (.cst (.int 0))) (.cons (.asg 2 (.bin .mod (.blt .int (.cons (.idx (.var 0) (.cst (.int 0))) .nil)) (.var 1))) (.cons (.seti (.var 0) (.cst (.int 0)) (.bin .fdiv (.idx (.var 0) (.cst (.int 0))) (.var 1))) (.cons (.ret (.var 2)) .nil))) .nil) (.cons (.asgP (.tp [(.nm 2), (.nm 3)]) (.tup (.cons (.cst (.int 0)) (.cons (.cst (.int 1)) .nil)))) (.cons (.whl (.cmp .lt (.var 3) (.var 1)) (.cons (.seti (.var 0) (.cst (.int 1)) (.bin .mod (.blt .int (.cons (.bin .mul (.idx (.var 0) (.cst (.int 1))) (.cst (.int 69621))) .nil)) (.cst (.int 2147483647)))) (.cons (.asg 4 (.bin .fdiv (.bin .mod (.blt .int (.cons (.bin .mul (.idx (.var 0) (.cst (.int 1))) (.bin .add (.bin .fdiv (.idx (.var 0) (.cst (.int 1))) (.cst (.int 128))) (.cst (.int 3)))) .nil)) (.cst (.int 2147483629))) (.cst (.int 8)))) (.cons (.asg 2 (.bin .add (.bin .mul (.var 2) (.cst (.int 268435456))) (.var 4))) (.cons (.asg 3 (.bin .mul (.var 3) (.cst (.int 268435456)))) .nil))))) (.cons (.ret (.bin .mod (.blt .int (.cons (.var 2) .nil)) (.var 1))) .nil))))
/-- _law_of(_law_draws_here, _law_some) : 0 _law_draws_here, 1 _law_some -/
def b9 : Sts := (.cons (.ret (.idx (.var 1) (.cal 8 (.cons (.var 0) (.cons (.blt .len (.cons (.var 1) .nil)) .nil))))) .nil)
/-- _law_world(_law_draws_here, _law_names, _law_cells_so) : 0 _law_draws_here, 1 _law_names, 2 _law_cells_so, 3 _law_table, 4 _law_key, 5 _law_here, 6 _law_cell, 7 _law_found, 8 _law_name -/
def b10 : Sts := (.cons (.asg 3 (.new (.lst .nil))) (.cons (.for_ (.nm 4) (.rng1 (.cst (.int 4))) (.cons (.asg 5 (.lcm (.var 6) [6] (.cons (.nm 6) (.rng1 (.var 2)) (.cons (.cmp .gt (.cal 8 (.cons (.var 0) (.cons (.cst (.int 3)) .nil))) (.cst (.int 0))) .nil) .nil))) (.cons (.expr (.mth .append (.var 3) (.cons (.ife (.cmp .ne (.var 5) (.lst .nil)) (.blt .tup (.cons (.var 5) .nil)) (.tup (.cons (.cal 8 (.cons (.var 0) (.cons (.var 2) .nil))) .nil))) .nil))) .nil))) (.cons (.asg 7 (.new (.lst .nil))) (.cons (.for_ (.nm 8) (.val (.blt .sorted (.cons (.var 1) .nil))) (.cons (.asg 4 (.cal 8 (.cons (.var 0) (.cons (.cst (.int 4)) .nil)))) (.cons (.expr (.mth .append (.var 7) (.cons (.tup (.cons (.var 8) (.cons (.var 4) (.cons (.idx (.var 3) (.var 4)) .nil)))) .nil))) .nil))) (.cons (.ret (.blt .tup (.cons (.var 7) .nil))) .nil)))))
/-- _law_is_cells(_law_thing_here) : 0 _law_thing_here, 1 _law_cell -/
def b11 : Sts := (.cons (.ite (.or (.not (.isi (.var 0) [.tup] false)) (.cons (.not (.cmp2 .le .le (.cst (.int 1)) (.blt .len (.cons (.var 0) .nil)) (.cst (.int 16)))) .nil)) (.cons (.ret (.cst (.bl false))) .nil) .nil) (.cons (.ite (.cmp .ne (.lcm (.var 1) [1] (.cons (.nm 1) (.val (.var 0)) (.cons (.or (.not (.cal 12 (.cons (.var 1) .nil))) (.cons (.not (.cmp2 .le .le (.cst (.int 0)) (.var 1) (.cst (.int 1000000)))) .nil)) .nil) .nil)) (.lst .nil)) (.cons (.ret (.cst (.bl false))) .nil) .nil) (.cons (.ret (.cmp .eq (.blt .lst (.cons (.var 0) .nil)) (.sst (.var 0)))) .nil)))
/-- _law_is_whole(_law_thing_here) : 0 _law_thing_here -/
def b12 : Sts := (.cons (.ret (.and (.isi (.var 0) [.int] false) (.cons (.not (.isi (.var 0) [.bool] false)) .nil))) .nil)
/-- _law_is_name(_law_thing_here) : 0 _law_thing_here, 1 _law_sign -/
def b13 : Sts := (.cons (.ite (.or (.not (.isi (.var 0) [.str] false)) (.cons (.not (.cmp2 .le .le (.cst (.int 1)) (.blt .len (.cons (.var 0) .nil)) (.cst (.int 8)))) .nil)) (.cons (.ret (.cst (.bl false))) .nil) .nil) (.cons (.ret (.cmp .eq (.lcm (.var 1) [1] (.cons (.nm 1) (.val (.var 0)) (.cons (.cmp .nmem (.var 1) (.cst (.str "abcdefghijklmnopqrstuvwxyz"))) .nil) .nil)) (.lst .nil))) .nil))
/-- _law_is_world(_law_thing_here) : 0 _law_thing_here, 1 _law_names, 2 _law_table, 3 _law_triple -/
def b14 : Sts := (.cons (.ite (.or (.not (.isi (.var 0) [.tup] false)) (.cons (.cmp .gt (.blt .len (.cons (.var 0) .nil)) (.cst (.int 8))) .nil)) (.cons (.ret (.cst (.bl false))) .nil) .nil) (.cons (.par 1 2 (.new (.lst .nil)) (.new .emp)) (.cons (.for_ (.nm 3) (.val (.var 0)) (.cons (.ite (.or (.not (.isi (.var 3) [.tup] false)) (.cons (.cmp .ne (.blt .len (.cons (.var 3) .nil)) (.cst (.int 3))) (.cons (.not (.cal 13 (.cons (.idx (.var 3) (.cst (.int 0))) .nil))) .nil))) (.cons (.ret (.cst (.bl false))) .nil) .nil) (.cons (.ite (.or (.not (.cal 12 (.cons (.idx (.var 3) (.cst (.int 1))) .nil))) (.cons (.not (.cmp2 .le .le (.cst (.int 0)) (.idx (.var 3) (.cst (.int 1))) (.cst (.int 1000000)))) (.cons (.not (.cal 11 (.cons (.idx (.var 3) (.cst (.int 2))) .nil))) .nil))) (.cons (.ret (.cst (.bl false))) .nil) .nil) (.cons (.ite (.cmp .ne (.mth .get2 (.var 2) (.cons (.idx (.var 3) (.cst (.int 1))) (.cons (.idx (.var 3) (.cst (.int 2))) .nil))) (.idx (.var 3) (.cst (.int 2)))) (.cons (.ret (.cst (.bl false))) .nil) .nil) (.cons (.expr (.mth .append (.var 1) (.cons (.idx (.var 3) (.cst (.int 0))) .nil))) (.cons (.seti (.var 2) (.idx (.var 3) (.cst (.int 1))) (.idx (.var 3) (.cst (.int 2)))) .nil)))))) (.cons (.ret (.cmp .eq (.var 1) (.sst (.var 1)))) .nil))))
/-- _law_is_marking(_law_thing_here) : 0 _law_thing_here, 1 _law_names, 2 _law_pair -/
def b15 : Sts := (.cons (.ite (.or (.not (.isi (.var 0) [.tup] false)) (.cons (.cmp .gt (.blt .len (.cons (.var 0) .nil)) (.cst (.int 8))) .nil)) (.cons (.ret (.cst (.bl false))) .nil) .nil) (.cons (.asg 1 (.new (.lst .nil))) (.cons (.for_ (.nm 2) (.val (.var 0)) (.cons (.ite (.or (.not (.isi (.var 2) [.tup] false)) (.cons (.cmp .ne (.blt .len (.cons (.var 2) .nil)) (.cst (.int 2))) .nil)) (.cons (.ret (.cst (.bl false))) .nil) .nil) (.cons (.ite (.or (.not (.cal 13 (.cons (.idx (.var 2) (.cst (.int 0))) .nil))) (.cons (.not (.cal 11 (.cons (.idx (.var 2) (.cst (.int 1))) .nil))) .nil)) (.cons (.ret (.cst (.bl false))) .nil) .nil) (.cons (.expr (.mth .append (.var 1) (.cons (.idx (.var 2) (.cst (.int 0))) .nil))) .nil)))) (.cons (.ret (.cmp .eq (.var 1) (.sst (.var 1)))) .nil))))
/-- _law_thing(_law_draws_here, _law_deep) : 0 _law_draws_here, 1 _law_deep, 2 _law_way, 3 _law_some, 4 _law_parts, 5 _law_turn -/
def b16 : Sts := (.cons (.asg 2 (.cal 8 (.cons (.var 0) (.cons (.cst (.int 9)) .nil)))) (.cons (.ite (.or (.cmp .lt (.var 2) (.cst (.int 6))) (.cons (.cmp .eq (.var 1) (.cst (.int 0))) .nil)) (.cons (.asg 3 (.lst (.cons (.cst (.int 0)) (.cons (.cst (.int 1)) (.cons (.neg (.cst (.int 1))) (.cons (.cst (.bl true)) (.cons (.cst (.bl false)) (.cons (.cst .non) (.cons (.cst (.str "")) (.cons (.cst (.str "a")) (.cons (.cst (.str "p")) (.cons (.cst (.str "f")) (.cons (.cst (.str "ask")) (.cons (.cst (.str "say")) (.cons (.cst (.str "A")) (.cons (.bin .pow (.cst (.int 10)) (.cst (.int 6))) (.cons (.cst (.str "abcdefghi")) .nil))))))))))))))))) (.cons (.ret (.cal 9 (.cons (.var 0) (.cons (.bin .add (.var 3) (.lst (.cons (.bin .add (.bin .pow (.cst (.int 10)) (.cst (.int 6))) (.cst (.int 1))) (.cons (.bin .pow (.cst (.int 10)) (.cst (.int 39))) (.cons (.tup .nil) (.cons (.lst .nil) (.cons (.tup (.cons (.cst (.int 1)) .nil)) (.cons (.tup (.cons (.cst (.str "p")) .nil)) (.cons (.tup (.cons (.cst (.str "say")) (.cons (.cst (.str "a")) .nil))) .nil))))))))) .nil)))) .nil)) .nil) (.cons (.asg 4 (.lcm (.cal 16 (.cons (.var 0) (.cons (.bin .sub (.var 1) (.cst (.int 1))) .nil))) [5] (.cons (.nm 5) (.rng1 (.cal 8 (.cons (.var 0) (.cons (.cst (.int 4)) .nil)))) .nil .nil))) (.cons (.ret (.idx (.lst (.cons (.var 4) (.cons (.blt .tup (.cons (.var 4) .nil)) (.cons (.blt .tup (.cons (.var 4) .nil)) .nil)))) (.bin .sub (.var 2) (.cst (.int 6))))) .nil))))
/-- _law_other_leaf(_law_draws_here, _law_thing_here) : 0 _law_draws_here, 1 _law_thing_here, 2 _law_words, 3 _law_some -/
def b17 : Sts := (.cons (.ite (.and (.isi (.var 1) [.str] false) (.cons (.cmp .gt (.cal 8 (.cons (.var 0) (.cons (.cst (.int 3)) .nil))) (.cst (.int 0))) .nil)) (.cons (.asg 2 (.lst (.cons (.bin .add (.var 1) (.cst (.str "s"))) (.cons (.slc (.var 1) .no (.yes (.neg (.cst (.int 1))))) (.cons (.mth .upper (.var 1) .nil) (.cons (.bin .mul (.var 1) (.cst (.int 3))) (.cons (.cst (.str "ask")) (.cons (.cst (.str "look")) .nil)))))))) (.cons (.ret (.cal 9 (.cons (.var 0) (.cons (.bin .add (.var 2) (.lst (.cons (.cst (.str "say")) (.cons (.cst (.str "empty")) (.cons (.cst (.str "p")) (.cons (.cst (.str "zzz")) .nil)))))) .nil)))) .nil)) .nil) (.cons (.ite (.and (.isi (.var 1) [.int] false) (.cons (.cmp .gt (.cal 8 (.cons (.var 0) (.cons (.cst (.int 3)) .nil))) (.cst (.int 0))) .nil)) (.cons (.asg 3 (.lst (.cons (.bin .add (.var 1) (.cst (.int 1))) (.cons (.bin .sub (.var 1) (.cst (.int 1))) (.cons (.bin .sub (.cst (.int 0)) (.var 1)) (.cons (.cst (.bl true)) (.cons (.bin .add (.var 1) (.bin .pow (.cst (.int 10)) (.cst (.int 6)))) .nil))))))) (.cons (.ret (.cal 9 (.cons (.var 0) (.cons (.bin .add (.var 3) (.lst (.cons (.bin .pow (.cst (.int 10)) (.cst (.int 6))) (.cons (.blt .str (.cons (.var 1) .nil)) .nil)))) .nil)))) .nil)) .nil) (.cons (.ret (.cal 16 (.cons (.var 0) (.cons (.cst (.int 2)) .nil)))) .nil)))
/-- _law_otherwise(_law_draws_here, _law_thing_here, _law_deep) : 0 _law_draws_here, 1 _law_thing_here, 2 _law_deep, 3 _law_parts, 4 _law_place, 5 _law_way -/
def b18 : Sts := (.cons (.asg 3 (.new (.blt .lst (.cons (.var 1) .nil)))) (.cons (.ite (.cmp .eq (.var 3) (.lst .nil)) (.cons (.ret (.tup (.cons (.cal 16 (.cons (.var 0) (.cons (.cst (.int 1)) .nil))) .nil))) .nil) .nil) (.cons (.asg 4 (.cal 8 (.cons (.var 0) (.cons (.blt .len (.cons (.var 3) .nil)) .nil)))) (.cons (.ite (.and (.isi (.idx (.var 3) (.var 4)) [.tup, .lst] true) (.cons (.cmp .gt (.var 2) (.cst (.int 0))) (.cons (.cmp .gt (.cal 8 (.cons (.var 0) (.cons (.cst (.int 4)) .nil))) (.cst (.int 0))) .nil))) (.cons (.seti (.var 3) (.var 4) (.cal 18 (.cons (.var 0) (.cons (.idx (.var 3) (.var 4)) (.cons (.bin .sub (.var 2) (.cst (.int 1))) .nil))))) (.cons (.frz 3) (.cons (.ret (.ife (.isi (.var 1) [.lst] false) (.var 3) (.blt .tup (.cons (.var 3) .nil)))) .nil))) .nil) (.cons (.asg 5 (.cal 8 (.cons (.var 0) (.cons (.cst (.int 7)) .nil)))) (.cons (.ite (.cmp .eq (.var 5) (.cst (.int 0))) (.cons (.expr (.mth .pop1 (.var 3) (.cons (.var 4) .nil))) .nil) (.cons (.ite (.cmp .eq (.var 5) (.cst (.int 1))) (.cons (.expr (.mth .insert (.var 3) (.cons (.var 4) (.cons (.idx (.var 3) (.var 4)) .nil)))) .nil) (.cons (.ite (.cmp .eq (.var 5) (.cst (.int 2))) (.cons (.sets (.var 3) (.var 4) (.bin .add (.var 4) (.cst (.int 2))) (.rev (.slc (.var 3) (.yes (.var 4)) (.yes (.bin .add (.var 4) (.cst (.int 2))))))) .nil) (.cons (.ite (.cmp .lt (.var 5) (.cst (.int 6))) (.cons (.seti (.var 3) (.var 4) (.cal 17 (.cons (.var 0) (.cons (.idx (.var 3) (.var 4)) .nil)))) .nil) (.cons (.frz 3) (.cons (.ret (.ife (.isi (.var 1) [.lst] false) (.blt .tup (.cons (.var 3) .nil)) (.var 3))) .nil))) .nil)) .nil)) .nil)) (.cons (.frz 3) (.cons (.ret (.ife (.isi (.var 1) [.lst] false) (.var 3) (.blt .tup (.cons (.var 3) .nil)))) .nil))))))))
/-- _law_spoilt(_law_draws_here, _law_thing_here, _law_deep) : 0 _law_draws_here, 1 _law_thing_here, 2 _law_deep, 3 _law_once -/
def b19 : Sts := (.cons (.asg 3 (.cal 18 (.cons (.var 0) (.cons (.var 1) (.cons (.var 2) .nil))))) (.cons (.ite (.or (.cmp .mem (.var 3) (.tup (.cons (.tup .nil) (.cons (.lst .nil) .nil)))) (.cons (.cmp .eq (.cal 8 (.cons (.var 0) (.cons (.cst (.int 2)) .nil))) (.cst (.int 0))) .nil)) (.cons (.ret (.var 3)) .nil) .nil) (.cons (.ret (.cal 18 (.cons (.var 0) (.cons (.var 3) (.cons (.var 2) .nil))))) .nil)))
/-- _law_truly(_law_found, _law_due) : 0 _law_found, 1 _law_due -/
def b20 : Sts := (.cons (.ret (.and (.isi (.var 0) [.bool] false) (.cons (.cmp .eq (.var 0) (.var 1)) .nil))) .nil)
/-- law(_law_script) : 0 _law_script, 1 _law_k, 2 _law_draws_here, 3 _law_names, 4 _law_good, 5 _law_marks_so, 6 _law_name, 7 _law_key, 8 _law_cells, 9 _law_low, 10 _law_long, 11 _law_cell, 12 _law_edge, 13 _law_many, 14 _law_sign, 15 _law_things, 16 _law_thing_here -/
def b21 : Sts := (.cons (.for_ (.nm 1) (.rng1 (.blt .max2 (.cons (.cst (.int 1)) (.cons (.blt .min2 (.cons (.cst (.int 30)) (.cons (.blt .len (.cons (.var 0) .nil)) .nil))) .nil)))) (.cons (.asg 2 (.cal 7 (.cons (.var 0) (.cons (.var 1) .nil)))) (.cons (.asg 3 (.slc (.lst (.cons (.cst (.str "p")) (.cons (.cst (.str "q")) (.cons (.cst (.str "r")) (.cons (.cst (.str "abcdefgh")) (.cons (.cst (.str "b")) (.cons (.cst (.str "bb")) .nil))))))) .no (.yes (.cal 8 (.cons (.var 2) (.cons (.cst (.int 7)) .nil)))))) (.cons (.asg 4 (.cal 10 (.cons (.var 2) (.cons (.var 3) (.cons (.bin .add (.cst (.int 1)) (.cal 8 (.cons (.var 2) (.cons (.cst (.int 5)) .nil)))) .nil))))) (.cons (.asg 5 (.blt .tup (.cons (.lcm (.tup (.cons (.var 6) (.cons (.var 8) .nil))) [6, 7, 8] (.cons (.tp [(.nm 6), (.nm 7), (.nm 8)]) (.val (.var 4)) .nil .nil)) .nil))) (.cons (.asg 9 (.cal 8 (.cons (.var 2) (.cons (.cst (.int 900000)) .nil)))) (.cons (.asg 10 (.blt .tup (.cons (.lcm (.bin .add (.var 9) (.bin .mul (.cst (.int 5)) (.var 11))) [11] (.cons (.nm 11) (.rng1 (.bin .add (.cst (.int 15)) (.cal 8 (.cons (.var 2) (.cons (.cst (.int 3)) .nil))))) .nil .nil)) .nil))) (.cons (.asg 12 (.tup (.cons (.idx (.lst (.cons (.cst (.int 0)) (.cons (.bin .pow (.cst (.int 10)) (.cst (.int 6))) (.cons (.bin .add (.bin .pow (.cst (.int 10)) (.cst (.int 6))) (.cst (.int 1))) (.cons (.neg (.cst (.int 1))) .nil))))) (.cal 8 (.cons (.var 2) (.cons (.cst (.int 4)) .nil)))) .nil))) (.cons (.asg 13 (.blt .tup (.cons (.lcm (.tup (.cons (.var 14) (.cons (.var 12) .nil))) [14] (.cons (.nm 14) (.val (.slc (.cst (.str "abcdefghi")) .no (.yes (.bin .add (.cst (.int 7)) (.cal 8 (.cons (.var 2) (.cons (.cst (.int 3)) .nil))))))) .nil .nil)) .nil))) (.cons (.asg 15 (.new (.lst (.cons (.var 4) (.cons (.var 5) (.cons (.cal 19 (.cons (.var 2) (.cons (.var 4) (.cons (.cst (.int 3)) .nil)))) (.cons (.cal 19 (.cons (.var 2) (.cons (.var 5) (.cons (.cst (.int 3)) .nil)))) (.cons (.blt .lst (.cons (.var 4) .nil)) (.cons (.rev (.var 4)) .nil))))))))) (.cons (.asg 15 (.new (.bin .add (.var 15) (.lst (.cons (.rev (.var 5)) (.cons (.tup .nil) (.cons (.tup (.cons (.tup (.cons (.cst (.str "p")) (.cons (.var 10) .nil))) .nil)) (.cons (.tup (.cons (.tup (.cons (.cst (.str "p")) (.cons (.cst (.int 1)) (.cons (.var 10) .nil)))) .nil)) (.cons (.tup (.cons (.tup (.cons (.cst (.str "p")) (.cons (.var 12) .nil))) .nil)) .nil))))))))) (.cons (.asg 15 (.new (.bin .add (.var 15) (.lst (.cons (.tup (.cons (.tup (.cons (.cst (.str "p")) (.cons (.idx (.var 12) (.cst (.int 0))) (.cons (.tup (.cons (.cst (.int 0)) .nil)) .nil)))) .nil)) (.cons (.var 13) (.cons (.tup (.cons (.tup (.cons (.cst (.str "p")) (.cons (.tup .nil) .nil))) .nil)) .nil))))))) (.cons (.asg 15 (.new (.bin .add (.var 15) (.lst (.cons (.tup (.cons (.tup (.cons (.cst (.str "p")) (.cons (.cst (.int 3)) (.cons (.tup (.cons (.cst (.int 1)) .nil)) .nil)))) (.cons (.tup (.cons (.cst (.str "q")) (.cons (.cst (.int 3)) (.cons (.tup (.cons (.cst (.int 1)) (.cons (.cst (.int 2)) .nil))) .nil)))) .nil))) (.cons (.cal 16 (.cons (.var 2) (.cons (.cst (.int 3)) .nil))) .nil)))))) (.cons (.expr (.mth .append (.var 15) (.cons (.blt .tup (.cons (.lcm (.tup (.cons (.var 6) (.cons (.cst (.int 7)) (.cons (.var 8) .nil)))) [6, 8] (.cons (.tp [(.nm 6), (.nm 8)]) (.val (.var 13)) .nil .nil)) .nil)) .nil))) (.cons (.frz 15) (.cons (.for_ (.nm 16) (.val (.var 15)) (.cons (.ite (.not (.cal 20 (.cons (.cal 4 (.cons (.var 16) .nil)) (.cons (.cal 15 (.cons (.var 16) .nil)) .nil)))) (.cons (.ret (.cst (.bl false))) .nil) .nil) (.cons (.ite (.not (.cal 20 (.cons (.cal 6 (.cons (.var 16) .nil)) (.cons (.cal 14 (.cons (.var 16) .nil)) .nil)))) (.cons (.ret (.cst (.bl false))) .nil) .nil) .nil))) .nil)))))))))))))))) (.cons (.ret (.and (.cmp .is (.cal 6 (.cons (.tup (.cons (.tup (.cons (.cst (.str "p")) (.cons (.cst (.int 5)) (.cons (.tup (.cons (.cst (.int 1)) (.cons (.cst (.int 2)) .nil))) .nil)))) (.cons (.tup (.cons (.cst (.str "q")) (.cons (.cst (.int 5)) (.cons (.tup (.cons (.cst (.int 1)) (.cons (.cst (.int 2)) .nil))) .nil)))) (.cons (.tup (.cons (.cst (.str "r")) (.cons (.cst (.int 6)) (.cons (.tup (.cons (.cst (.int 1)) (.cons (.cst (.int 2)) .nil))) .nil)))) .nil)))) .nil)) (.cst (.bl true))) (.cons (.cmp .is (.cal 4 (.cons (.tup .nil) .nil)) (.cst (.bl true))) .nil))) .nil))
def tab : Tab := ⟨[⟨1, 1, b0⟩, ⟨1, 2, b1⟩, ⟨1, 3, b2⟩, ⟨1, 2, b3⟩, ⟨1, 2, b4⟩, ⟨1, 1, b5⟩, ⟨1, 6, b6⟩, ⟨2, 4, b7⟩, ⟨2, 5, b8⟩, ⟨2, 2, b9⟩, ⟨3, 9, b10⟩, ⟨1, 2, b11⟩, ⟨1, 1, b12⟩, ⟨1, 2, b13⟩, ⟨1, 4, b14⟩, ⟨1, 3, b15⟩, ⟨2, 6, b16⟩, ⟨2, 4, b17⟩, ⟨3, 6, b18⟩, ⟨3, 4, b19⟩, ⟨2, 2, b20⟩, ⟨1, 17, b21⟩], vals, 1000⟩
end K01

/-! Q1a: k01: what is asked, thing by thing. -/
namespace K01
open PySem (Str)
open Fy
def w15 : Sts := .nil
def inn : Sts := (.cons (.ite (.not (.cal 20 (.cons (.cal 4 (.cons (.var 16) .nil)) (.cons (.cal 15 (.cons (.var 16) .nil)) .nil)))) (.cons (.ret (.cst (.bl false))) .nil) .nil) (.cons (.ite (.not (.cal 20 (.cons (.cal 6 (.cons (.var 16) .nil)) (.cons (.cal 14 (.cons (.var 16) .nil)) .nil)))) (.cons (.ret (.cst (.bl false))) .nil) .nil) .nil))
def w14 : Sts := .cons (.for_ (.nm 16) (.val (.var 15)) inn) w15
def w13 : Sts := .cons (.frz 15) w14
def w12 : Sts := .cons (.expr (.mth .append (.var 15) (.cons (.blt .tup (.cons (.lcm (.tup (.cons (.var 6) (.cons (.cst (.int 7)) (.cons (.var 8) .nil)))) [6, 8] (.cons (.tp [(.nm 6), (.nm 8)]) (.val (.var 13)) .nil .nil)) .nil)) .nil))) w13
def w11 : Sts := .cons (.asg 15 (.new (.bin .add (.var 15) (.lst (.cons (.tup (.cons (.tup (.cons (.cst (.str "p")) (.cons (.cst (.int 3)) (.cons (.tup (.cons (.cst (.int 1)) .nil)) .nil)))) (.cons (.tup (.cons (.cst (.str "q")) (.cons (.cst (.int 3)) (.cons (.tup (.cons (.cst (.int 1)) (.cons (.cst (.int 2)) .nil))) .nil)))) .nil))) (.cons (.cal 16 (.cons (.var 2) (.cons (.cst (.int 3)) .nil))) .nil)))))) w12
def w10 : Sts := .cons (.asg 15 (.new (.bin .add (.var 15) (.lst (.cons (.tup (.cons (.tup (.cons (.cst (.str "p")) (.cons (.idx (.var 12) (.cst (.int 0))) (.cons (.tup (.cons (.cst (.int 0)) .nil)) .nil)))) .nil)) (.cons (.var 13) (.cons (.tup (.cons (.tup (.cons (.cst (.str "p")) (.cons (.tup .nil) .nil))) .nil)) .nil))))))) w11
def w9 : Sts := .cons (.asg 15 (.new (.bin .add (.var 15) (.lst (.cons (.rev (.var 5)) (.cons (.tup .nil) (.cons (.tup (.cons (.tup (.cons (.cst (.str "p")) (.cons (.var 10) .nil))) .nil)) (.cons (.tup (.cons (.tup (.cons (.cst (.str "p")) (.cons (.cst (.int 1)) (.cons (.var 10) .nil)))) .nil)) (.cons (.tup (.cons (.tup (.cons (.cst (.str "p")) (.cons (.var 12) .nil))) .nil)) .nil))))))))) w10
def w8 : Sts := .cons (.asg 15 (.new (.lst (.cons (.var 4) (.cons (.var 5) (.cons (.cal 19 (.cons (.var 2) (.cons (.var 4) (.cons (.cst (.int 3)) .nil)))) (.cons (.cal 19 (.cons (.var 2) (.cons (.var 5) (.cons (.cst (.int 3)) .nil)))) (.cons (.blt .lst (.cons (.var 4) .nil)) (.cons (.rev (.var 4)) .nil))))))))) w9
def w7 : Sts := .cons (.asg 13 (.blt .tup (.cons (.lcm (.tup (.cons (.var 14) (.cons (.var 12) .nil))) [14] (.cons (.nm 14) (.val (.slc (.cst (.str "abcdefghi")) .no (.yes (.bin .add (.cst (.int 7)) (.cal 8 (.cons (.var 2) (.cons (.cst (.int 3)) .nil))))))) .nil .nil)) .nil))) w8
def w6 : Sts := .cons (.asg 12 (.tup (.cons (.idx (.lst (.cons (.cst (.int 0)) (.cons (.bin .pow (.cst (.int 10)) (.cst (.int 6))) (.cons (.bin .add (.bin .pow (.cst (.int 10)) (.cst (.int 6))) (.cst (.int 1))) (.cons (.neg (.cst (.int 1))) .nil))))) (.cal 8 (.cons (.var 2) (.cons (.cst (.int 4)) .nil)))) .nil))) w7
def w5 : Sts := .cons (.asg 10 (.blt .tup (.cons (.lcm (.bin .add (.var 9) (.bin .mul (.cst (.int 5)) (.var 11))) [11] (.cons (.nm 11) (.rng1 (.bin .add (.cst (.int 15)) (.cal 8 (.cons (.var 2) (.cons (.cst (.int 3)) .nil))))) .nil .nil)) .nil))) w6
def w4 : Sts := .cons (.asg 9 (.cal 8 (.cons (.var 2) (.cons (.cst (.int 900000)) .nil)))) w5
def w3 : Sts := .cons (.asg 5 (.blt .tup (.cons (.lcm (.tup (.cons (.var 6) (.cons (.var 8) .nil))) [6, 7, 8] (.cons (.tp [(.nm 6), (.nm 7), (.nm 8)]) (.val (.var 4)) .nil .nil)) .nil))) w4
def w2 : Sts := .cons (.asg 4 (.cal 10 (.cons (.var 2) (.cons (.var 3) (.cons (.bin .add (.cst (.int 1)) (.cal 8 (.cons (.var 2) (.cons (.cst (.int 5)) .nil)))) .nil))))) w3
def w1 : Sts := .cons (.asg 3 (.slc (.lst (.cons (.cst (.str "p")) (.cons (.cst (.str "q")) (.cons (.cst (.str "r")) (.cons (.cst (.str "abcdefgh")) (.cons (.cst (.str "b")) (.cons (.cst (.str "bb")) .nil))))))) .no (.yes (.cal 8 (.cons (.var 2) (.cons (.cst (.int 7)) .nil)))))) w2
def w0 : Sts := .cons (.asg 2 (.cal 7 (.cons (.var 0) (.cons (.var 1) .nil)))) w1
def fin20 : Sts := (.cons (.ret (.and (.cmp .is (.cal 6 (.cons (.tup (.cons (.tup (.cons (.cst (.str "p")) (.cons (.cst (.int 5)) (.cons (.tup (.cons (.cst (.int 1)) (.cons (.cst (.int 2)) .nil))) .nil)))) (.cons (.tup (.cons (.cst (.str "q")) (.cons (.cst (.int 5)) (.cons (.tup (.cons (.cst (.int 1)) (.cons (.cst (.int 2)) .nil))) .nil)))) (.cons (.tup (.cons (.cst (.str "r")) (.cons (.cst (.int 6)) (.cons (.tup (.cons (.cst (.int 1)) (.cons (.cst (.int 2)) .nil))) .nil)))) .nil)))) .nil)) (.cst (.bl true))) (.cons (.cmp .is (.cal 4 (.cons (.tup .nil) .nil)) (.cst (.bl true))) .nil))) .nil)
theorem b20_eq : b21 = .cons (.for_ (.nm 1) (.rng1 (.blt .max2 (.cons (.cst (.int 1)) (.cons (.blt .min2 (.cons (.cst (.int 30)) (.cons (.blt .len (.cons (.var 0) .nil)) .nil))) .nil)))) w0) fin20 := rfl

theorem t_draws : tab.fns[7]? = some ⟨2, 4, gDraws⟩ := rfl
theorem t_draw : tab.fns[8]? = some ⟨2, 5, gDraw⟩ := rfl
theorem t_of : tab.fns[9]? = some ⟨2, 2, gOf 8⟩ := rfl
theorem t_thing : tab.fns[16]? = some ⟨2, 6, gThing 16 8 9⟩ := rfl
theorem t_other : tab.fns[17]? = some ⟨2, 4, gOther 8 9 16⟩ := rfl
theorem t_else : tab.fns[18]? = some ⟨3, 6, gElse 18 8 17 16⟩ := rfl
theorem t_spoilt : tab.fns[19]? = some ⟨3, 4, gSpoilt 18 8⟩ := rfl
theorem t_truly : tab.fns[20]? = some ⟨2, 2, gTruly⟩ := rfl
theorem t_whole : tab.fns[0]? = some ⟨1, 1, gWhole⟩ := rfl
theorem t_name : tab.fns[1]? = some ⟨1, 2, gName⟩ := rfl
theorem t_asc : tab.fns[2]? = some ⟨1, 3, gAsc⟩ := rfl
theorem t_cells : tab.fns[3]? = some ⟨1, 2, gCells 0 2⟩ := rfl
theorem t_marking : tab.fns[4]? = some ⟨1, 2, gMarking 1 3 2⟩ := rfl
theorem t_triple : tab.fns[5]? = some ⟨1, 1, gTriple 1 0 3⟩ := rfl
theorem t_world : tab.fns[6]? = some ⟨1, 6, gWorld 5 2⟩ := rfl
theorem t_lworld : tab.fns[10]? = some ⟨3, 9, gLawWorld 8⟩ := rfl
theorem t_icells : tab.fns[11]? = some ⟨1, 2, gLCells 12⟩ := rfl
theorem t_iwhole : tab.fns[12]? = some ⟨1, 1, gWhole⟩ := rfl
theorem t_iname : tab.fns[13]? = some ⟨1, 2, gLName⟩ := rfl
theorem t_iworld : tab.fns[14]? = some ⟨1, 4, gLWorld 13 12 11⟩ := rfl
theorem t_imarking : tab.fns[15]? = some ⟨1, 3, gLMarking 13 11⟩ := rfl
/-- each thing is asked -/
theorem w14_ok {k b : Nat} {u : Sto} {e0 e1 e2 e3 e4 e5 e6 e7 e8 e9 e10 e11 e12 e13 e14 z : Option Sl} {L : List P} {c d : Nat} (hc : c ≤ 100000) (h : ∀ x ∈ L, Th c d x) (hz : ∀ n, isRef n z = false) : Ok (evSs ⟨run tab (k + 20), tab.glo, tab.fuel, b⟩ w14 [e0, e1, e2, e3, e4, e5, e6, e7, e8, e9, e10, e11, e12, e13, e14, some (.val (.lst L)), z] u)
    (fun r t => r.1 = .nx ∧ t = u ∧ ∃ z', r.2 = [e0, e1, e2, e3, e4, e5, e6, e7, e8, e9, e10, e11, e12, e13, e14, some (.val (.lst L)), z'] ∧ ∀ n, isRef n z' = false) := by
  unfold w14 w15
  simp only [List.map_cons, List.map_nil, List.cons_append, List.nil_append, List.replicate, evSs, evS, evE.eq_1, evE.eq_2, evE.eq_3, evE.eq_4, evE.eq_5, evE.eq_6, evE.eq_7, evE.eq_8, evE.eq_9, evE.eq_10, evE.eq_11, evE.eq_12, evE.eq_13, evE.eq_14, evE.eq_15, evE.eq_16, evE.eq_17, evE.eq_18, evE.eq_19, evE.eq_20, evE.eq_24, evE.eq_25, evE.eq_26, evE.eq_27, evEs, ok_bnd, List.getElem?_cons_zero, List.getElem?_cons_succ, ok_ret, peek_val, asP_val, ok_some, Option.map_some, idx_lst, idx_tup, at_0, at_1, at_2, cmp_gt, cmp_ge, cmp_lt, cmp_le, tru_bl, bin_add, bin_sub, blt_int, blt_intb, peeks_nil, peeks_cons, List.set_cons_zero, List.set_cons_succ, lv_val, set_slot, vals_nil, vals_cons, ok_ok, cell_lst, cell_dct, Ex.fresh, if_true, List.length_cons, List.length_nil, Nat.reduceAdd, Nat.reduceLT, Nat.reduceSub, Nat.zero_add, evI, itm_lst]
  refine loop_ok (fun j env t => t = u ∧ ∃ z', env = [e0, e1, e2, e3, e4, e5, e6, e7, e8, e9, e10, e11, e12, e13, e14, some (.val (.lst L)), z'] ∧ ∀ n, isRef n z' = false) ⟨rfl, z, rfl, hz⟩ (fun j x env t hj ⟨h1, z', h2, h3⟩ => ?_) fun env t ⟨h1, z', h2, h3⟩ => ?_
  · subst h1
    subst h2
    have hx := h x (List.mem_of_getElem? hj)
    have eb : bindP (.nm 16) x [e0, e1, e2, e3, e4, e5, e6, e7, e8, e9, e10, e11, e12, e13, e14, some (.val (.lst L)), z'] = some [e0, e1, e2, e3, e4, e5, e6, e7, e8, e9, e10, e11, e12, e13, e14, some (.val (.lst L)), some (.val x)] := rfl
    rw [eb]
    show Ok (evSs _ inn _ t) _
    unfold inn
    simp only [List.map_cons, List.map_nil, List.cons_append, List.nil_append, List.replicate, evSs, evS, evE.eq_1, evE.eq_2, evE.eq_3, evE.eq_4, evE.eq_5, evE.eq_6, evE.eq_7, evE.eq_8, evE.eq_9, evE.eq_10, evE.eq_11, evE.eq_12, evE.eq_13, evE.eq_14, evE.eq_15, evE.eq_16, evE.eq_17, evE.eq_18, evE.eq_19, evE.eq_20, evE.eq_24, evE.eq_25, evE.eq_26, evE.eq_27, evEs, ok_bnd, List.getElem?_cons_zero, List.getElem?_cons_succ, ok_ret, peek_val, asP_val, ok_some, Option.map_some, idx_lst, idx_tup, at_0, at_1, at_2, cmp_gt, cmp_ge, cmp_lt, cmp_le, tru_bl, bin_add, bin_sub, blt_int, blt_intb, peeks_nil, peeks_cons, List.set_cons_zero, List.set_cons_succ, lv_val, set_slot, vals_nil, vals_cons, ok_ok, cell_lst, cell_dct, Ex.fresh, if_true, List.length_cons, List.length_nil, Nat.reduceAdd, Nat.reduceLT, Nat.reduceSub, Nat.zero_add]
    refine marking_ok (k := k + 17) t_marking t_name t_cells t_whole t_asc rfl rfl hx hc ?_
    refine lmarking_ok (k := k + 17) t_imarking t_iname t_icells t_iwhole hx hc ?_
    refine truly_ok (k := k + 19) t_truly _ ?_
    simp only [List.map_cons, List.map_nil, List.cons_append, List.nil_append, List.replicate, evSs, evS, evE.eq_1, evE.eq_2, evE.eq_3, evE.eq_4, evE.eq_5, evE.eq_6, evE.eq_7, evE.eq_8, evE.eq_9, evE.eq_10, evE.eq_11, evE.eq_12, evE.eq_13, evE.eq_14, evE.eq_15, evE.eq_16, evE.eq_17, evE.eq_18, evE.eq_19, evE.eq_20, evE.eq_24, evE.eq_25, evE.eq_26, evE.eq_27, evEs, ok_bnd, List.getElem?_cons_zero, List.getElem?_cons_succ, ok_ret, peek_val, asP_val, ok_some, Option.map_some, idx_lst, idx_tup, at_0, at_1, at_2, cmp_gt, cmp_ge, cmp_lt, cmp_le, tru_bl, bin_add, bin_sub, blt_int, blt_intb, peeks_nil, peeks_cons, List.set_cons_zero, List.set_cons_succ, lv_val, set_slot, vals_nil, vals_cons, ok_ok, cell_lst, cell_dct, Ex.fresh, if_true, List.length_cons, List.length_nil, Nat.reduceAdd, Nat.reduceLT, Nat.reduceSub, Nat.zero_add, Bool.not_true, Bool.false_eq_true, if_false]
    refine world_ok (k := k + 16) t_world t_triple t_name t_cells t_whole t_asc rfl rfl hx hc ?_
    refine lworld_ok (k := k + 17) t_iworld t_iname t_icells t_iwhole hx hc ?_
    refine truly_ok (k := k + 19) t_truly _ ?_
    simp only [List.map_cons, List.map_nil, List.cons_append, List.nil_append, List.replicate, evSs, evS, evE.eq_1, evE.eq_2, evE.eq_3, evE.eq_4, evE.eq_5, evE.eq_6, evE.eq_7, evE.eq_8, evE.eq_9, evE.eq_10, evE.eq_11, evE.eq_12, evE.eq_13, evE.eq_14, evE.eq_15, evE.eq_16, evE.eq_17, evE.eq_18, evE.eq_19, evE.eq_20, evE.eq_24, evE.eq_25, evE.eq_26, evE.eq_27, evEs, ok_bnd, List.getElem?_cons_zero, List.getElem?_cons_succ, ok_ret, peek_val, asP_val, ok_some, Option.map_some, idx_lst, idx_tup, at_0, at_1, at_2, cmp_gt, cmp_ge, cmp_lt, cmp_le, tru_bl, bin_add, bin_sub, blt_int, blt_intb, peeks_nil, peeks_cons, List.set_cons_zero, List.set_cons_succ, lv_val, set_slot, vals_nil, vals_cons, ok_ok, cell_lst, cell_dct, Ex.fresh, if_true, List.length_cons, List.length_nil, Nat.reduceAdd, Nat.reduceLT, Nat.reduceSub, Nat.zero_add, Bool.not_true, Bool.false_eq_true, if_false]
    exact ⟨trivial, _, rfl, fun n => rfl⟩
  · subst h1
    subst h2
    exact ⟨rfl, rfl, z', rfl, h3⟩
end K01

/-! Q1b: k01: a turn. -/
namespace K01
open PySem (Str)
open Fy
def nm6 : List P := [.str "p", .str "q", .str "r", .str "abcdefgh", .str "b", .str "bb"]
theorem nm6_th : ∀ x ∈ nm6, Th 16 0 x := ths_of (by decide +kernel)
theorem nm6_kin : Kin nm6 := .inr fun x hx => by
  unfold nm6 at hx
  simp only [List.not_mem_nil, or_false, List.mem_cons] at hx
  rcases hx with rfl | rfl | rfl | rfl | rfl | rfl <;> exact ⟨_, rfl⟩
theorem abc_size : (Str.ofString "abcdefghi").cps.size = 9 := by decide +kernel
theorem abc_th : ∀ x ∈ signs (Str.ofString "abcdefghi"), Th 16 0 x := ths_of (by decide +kernel)
theorem w0_ok {k j b : Nat} {ns : List Int} {u : Sto} {z : Option Sl} {e2 e3 e4 e5 e9 e10 e12 e13 e15 : Option Sl} (hj : j < 64) (hl : ns.length ≤ 63) (hu : AllL u) (hb : b ≤ u.length) (hz : ∀ n, isRef n z = false) :
    Ok (evSs ⟨run tab (k + 20), tab.glo, tab.fuel, b⟩ w0 [some (.val (.scr (ns.map .int))), some (.val (.int (j : Nat))), e2, e3, e4, e5, none, none, none, e9, e10, none, e12, e13, none, e15, z] u)
    (fun r t => r.1 = .nx ∧ AllL t ∧ b ≤ t.length ∧ ∃ e2 e3 e4 e5 e9 e10 e12 e13 e15 z, r.2 = [some (.val (.scr (ns.map .int))), some (.val (.int (j : Nat))), e2, e3, e4, e5, none, none, none, e9, e10, none, e12, e13, none, e15, z] ∧ ∀ n, isRef n z = false) := by
  unfold w0
  simp only [List.map_cons, List.map_nil, List.cons_append, List.nil_append, List.replicate, evSs, evS, evE.eq_1, evE.eq_2, evE.eq_3, evE.eq_4, evE.eq_5, evE.eq_6, evE.eq_7, evE.eq_8, evE.eq_9, evE.eq_10, evE.eq_11, evE.eq_12, evE.eq_13, evE.eq_14, evE.eq_15, evE.eq_16, evE.eq_17, evE.eq_18, evE.eq_19, evE.eq_20, evE.eq_24, evE.eq_25, evE.eq_26, evE.eq_27, evEs, ok_bnd, List.getElem?_cons_zero, List.getElem?_cons_succ, ok_ret, peek_val, asP_val, ok_some, Option.map_some, idx_lst, idx_tup, at_0, at_1, at_2, cmp_gt, cmp_ge, cmp_lt, cmp_le, tru_bl, bin_add, bin_sub, blt_int, blt_intb, peeks_nil, peeks_cons, List.set_cons_zero, List.set_cons_succ, lv_val, set_slot, vals_nil, vals_cons, ok_ok, cell_lst, cell_dct, Ex.fresh, if_true, List.length_cons, List.length_nil, Nat.reduceAdd, Nat.reduceLT, Nat.reduceSub, Nat.zero_add]
  refine draws_ok (k := k + 19) t_draws hj hl fun x y x0 x1 y0 y1 => ?_
  have hd := Drw.new (t := u) x0 x1 y0 y1
  have hu1 := hu.push [.int x, .int y]
  have hb1 : b ≤ (u ++ [Cell.lst [.int x, .int y]]).length := by rw [List.length_append]; omega
  generalize u.length = n at hd ⊢
  generalize u ++ [Cell.lst [.int x, .int y]] = u1 at *
  unfold w1
  simp only [List.map_cons, List.map_nil, List.cons_append, List.nil_append, List.replicate, evSs, evS, evE.eq_1, evE.eq_2, evE.eq_3, evE.eq_4, evE.eq_5, evE.eq_6, evE.eq_7, evE.eq_8, evE.eq_9, evE.eq_10, evE.eq_11, evE.eq_12, evE.eq_13, evE.eq_14, evE.eq_15, evE.eq_16, evE.eq_17, evE.eq_18, evE.eq_19, evE.eq_20, evE.eq_24, evE.eq_25, evE.eq_26, evE.eq_27, evEs, ok_bnd, List.getElem?_cons_zero, List.getElem?_cons_succ, ok_ret, peek_val, asP_val, ok_some, Option.map_some, idx_lst, idx_tup, at_0, at_1, at_2, cmp_gt, cmp_ge, cmp_lt, cmp_le, tru_bl, bin_add, bin_sub, blt_int, blt_intb, peeks_nil, peeks_cons, List.set_cons_zero, List.set_cons_succ, lv_val, set_slot, vals_nil, vals_cons, ok_ok, cell_lst, cell_dct, Ex.fresh, if_true, List.length_cons, List.length_nil, Nat.reduceAdd, Nat.reduceLT, Nat.reduceSub, Nat.zero_add, evO]
  refine draw_nx (k := k + 19) t_draw rfl (by decide) (by decide) hd fun a u2 a0 a1 n2 => ?_
  have hd := n2.drw
  have hu2 := hu1.nx n2
  have hb2 : b ≤ u2.length := by rw [n2.len]; exact hb1
  simp only [List.map_cons, List.map_nil, List.cons_append, List.nil_append, List.replicate, evSs, evS, evE.eq_1, evE.eq_2, evE.eq_3, evE.eq_4, evE.eq_5, evE.eq_6, evE.eq_7, evE.eq_8, evE.eq_9, evE.eq_10, evE.eq_11, evE.eq_12, evE.eq_13, evE.eq_14, evE.eq_15, evE.eq_16, evE.eq_17, evE.eq_18, evE.eq_19, evE.eq_20, evE.eq_24, evE.eq_25, evE.eq_26, evE.eq_27, evEs, ok_bnd, List.getElem?_cons_zero, List.getElem?_cons_succ, ok_ret, peek_val, asP_val, ok_some, Option.map_some, idx_lst, idx_tup, at_0, at_1, at_2, cmp_gt, cmp_ge, cmp_lt, cmp_le, tru_bl, bin_add, bin_sub, blt_int, blt_intb, peeks_nil, peeks_cons, List.set_cons_zero, List.set_cons_succ, lv_val, set_slot, vals_nil, vals_cons, ok_ok, cell_lst, cell_dct, Ex.fresh, if_true, List.length_cons, List.length_nil, Nat.reduceAdd, Nat.reduceLT, Nat.reduceSub, Nat.zero_add, ixOf, slc_lst]
  show Ok (evSs _ w2 [_, _, _, some (.val (.lst (cutL nm6 none (some a)))), e4, e5, none, none, none, e9, e10, none, e12, e13, none, e15, z] u2) _
  have hnm : ∀ x ∈ cutL nm6 none (some a), Th 16 0 x := fun x hx => nm6_th x (cutL_in hx)
  have hkin : Kin (cutL nm6 none (some a)) := cut_kin nm6_kin
  have hlen : (cutL nm6 none (some a)).length ≤ 6 := cutL_le
  generalize cutL nm6 none (some a) = nms at hnm hkin hlen ⊢
  clear n2 hu1 hb1 a0 a1
  unfold w2
  simp only [List.map_cons, List.map_nil, List.cons_append, List.nil_append, List.replicate, evSs, evS, evE.eq_1, evE.eq_2, evE.eq_3, evE.eq_4, evE.eq_5, evE.eq_6, evE.eq_7, evE.eq_8, evE.eq_9, evE.eq_10, evE.eq_11, evE.eq_12, evE.eq_13, evE.eq_14, evE.eq_15, evE.eq_16, evE.eq_17, evE.eq_18, evE.eq_19, evE.eq_20, evE.eq_24, evE.eq_25, evE.eq_26, evE.eq_27, evEs, ok_bnd, List.getElem?_cons_zero, List.getElem?_cons_succ, ok_ret, peek_val, asP_val, ok_some, Option.map_some, idx_lst, idx_tup, at_0, at_1, at_2, cmp_gt, cmp_ge, cmp_lt, cmp_le, tru_bl, bin_add, bin_sub, blt_int, blt_intb, peeks_nil, peeks_cons, List.set_cons_zero, List.set_cons_succ, lv_val, set_slot, vals_nil, vals_cons, ok_ok, cell_lst, cell_dct, Ex.fresh, if_true, List.length_cons, List.length_nil, Nat.reduceAdd, Nat.reduceLT, Nat.reduceSub, Nat.zero_add]
  refine draw_nx (k := k + 19) t_draw rfl (by decide) (by decide) hd fun a u3 a0 a1 n3 => ?_
  have hd := n3.drw
  have hu3 := hu2.nx n3
  have hb3 : b ≤ u3.length := by rw [n3.len]; exact hb2
  obtain ⟨m, rfl⟩ : ∃ m : Nat, a = (m : Nat) := ⟨a.toNat, by omega⟩
  have e1 : (1 : Int) + (m : Nat) = ((1 + m : Nat) : Int) := by omega
  simp only [List.map_cons, List.map_nil, List.cons_append, List.nil_append, List.replicate, evSs, evS, evE.eq_1, evE.eq_2, evE.eq_3, evE.eq_4, evE.eq_5, evE.eq_6, evE.eq_7, evE.eq_8, evE.eq_9, evE.eq_10, evE.eq_11, evE.eq_12, evE.eq_13, evE.eq_14, evE.eq_15, evE.eq_16, evE.eq_17, evE.eq_18, evE.eq_19, evE.eq_20, evE.eq_24, evE.eq_25, evE.eq_26, evE.eq_27, evEs, ok_bnd, List.getElem?_cons_zero, List.getElem?_cons_succ, ok_ret, peek_val, asP_val, ok_some, Option.map_some, idx_lst, idx_tup, at_0, at_1, at_2, cmp_gt, cmp_ge, cmp_lt, cmp_le, tru_bl, bin_add, bin_sub, blt_int, blt_intb, peeks_nil, peeks_cons, List.set_cons_zero, List.set_cons_succ, lv_val, set_slot, vals_nil, vals_cons, ok_ok, cell_lst, cell_dct, Ex.fresh, if_true, List.length_cons, List.length_nil, Nat.reduceAdd, Nat.reduceLT, Nat.reduceSub, Nat.zero_add, e1]
  refine lawworld_ok (k := k + 18) (m := 1 + m) t_lworld t_draw rfl (by omega) (by omega) hkin (by omega) hd fun p4 u4 h4 n4 => ?_
  have hd := n4.drw
  have hu4 := hu3.nx n4
  have hb4 : b ≤ u4.length := by rw [n4.len]; exact hb3
  obtain ⟨L4, rfl, l4, t4⟩ := h4.triples hnm (by omega) (by omega)
  clear n3 n4 hu3 hb3 hu2 hb2 a0 a1 h4
  have th4 : ∀ x ∈ L4, Th 16 2 x := fun x hx => by
    obtain ⟨a, k, z, rfl, h1, h2, h3⟩ := t4 x hx
    exact th_thr (h1.mono (Nat.le_refl _) (by decide)) (.int _ _ (by omega)) h3 (by decide)
  unfold w3
  simp only [List.map_cons, List.map_nil, List.cons_append, List.nil_append, List.replicate, evSs, evS, evE.eq_1, evE.eq_2, evE.eq_3, evE.eq_4, evE.eq_5, evE.eq_6, evE.eq_7, evE.eq_8, evE.eq_9, evE.eq_10, evE.eq_11, evE.eq_12, evE.eq_13, evE.eq_14, evE.eq_15, evE.eq_16, evE.eq_17, evE.eq_18, evE.eq_19, evE.eq_20, evE.eq_24, evE.eq_25, evE.eq_26, evE.eq_27, evEs, ok_bnd, List.getElem?_cons_zero, List.getElem?_cons_succ, ok_ret, peek_val, asP_val, ok_some, Option.map_some, idx_lst, idx_tup, at_0, at_1, at_2, cmp_gt, cmp_ge, cmp_lt, cmp_le, tru_bl, bin_add, bin_sub, blt_int, blt_intb, peeks_nil, peeks_cons, List.set_cons_zero, List.set_cons_succ, lv_val, set_slot, vals_nil, vals_cons, ok_ok, cell_lst, cell_dct, Ex.fresh, if_true, List.length_cons, List.length_nil, Nat.reduceAdd, Nat.reduceLT, Nat.reduceSub, Nat.zero_add]
  refine map_pat (g := fun x => .tup [fst0 x, at2 x]) (xs := L4) rfl ⟨rfl, rfl⟩ (by omega) (fun x hx => ?_) ?_
  · obtain ⟨a, k, z, rfl, h1, h2, h3⟩ := t4 x hx
    refine ⟨_, rfl, ?_⟩
    show Ok (evE _ _ [_, _, _, _, _, _, some (.val a), some (.val (.int (k : Nat))), some (.val z), _, _, _, _, _, _, _, _] _) _
    simp only [List.map_cons, List.map_nil, List.cons_append, List.nil_append, List.replicate, evSs, evS, evE.eq_1, evE.eq_2, evE.eq_3, evE.eq_4, evE.eq_5, evE.eq_6, evE.eq_7, evE.eq_8, evE.eq_9, evE.eq_10, evE.eq_11, evE.eq_12, evE.eq_13, evE.eq_14, evE.eq_15, evE.eq_16, evE.eq_17, evE.eq_18, evE.eq_19, evE.eq_20, evE.eq_24, evE.eq_25, evE.eq_26, evE.eq_27, evEs, ok_bnd, List.getElem?_cons_zero, List.getElem?_cons_succ, ok_ret, peek_val, asP_val, ok_some, Option.map_some, idx_lst, idx_tup, at_0, at_1, at_2, cmp_gt, cmp_ge, cmp_lt, cmp_le, tru_bl, bin_add, bin_sub, blt_int, blt_intb, peeks_nil, peeks_cons, List.set_cons_zero, List.set_cons_succ, lv_val, set_slot, vals_nil, vals_cons, ok_ok, cell_lst, cell_dct, Ex.fresh, if_true, List.length_cons, List.length_nil, Nat.reduceAdd, Nat.reduceLT, Nat.reduceSub, Nat.zero_add]
    exact ⟨rfl, trivial⟩
  simp only [List.map_cons, List.map_nil, List.cons_append, List.nil_append, List.replicate, evSs, evS, evE.eq_1, evE.eq_2, evE.eq_3, evE.eq_4, evE.eq_5, evE.eq_6, evE.eq_7, evE.eq_8, evE.eq_9, evE.eq_10, evE.eq_11, evE.eq_12, evE.eq_13, evE.eq_14, evE.eq_15, evE.eq_16, evE.eq_17, evE.eq_18, evE.eq_19, evE.eq_20, evE.eq_24, evE.eq_25, evE.eq_26, evE.eq_27, evEs, ok_bnd, List.getElem?_cons_zero, List.getElem?_cons_succ, ok_ret, peek_val, asP_val, ok_some, Option.map_some, idx_lst, idx_tup, at_0, at_1, at_2, cmp_gt, cmp_ge, cmp_lt, cmp_le, tru_bl, bin_add, bin_sub, blt_int, blt_intb, peeks_nil, peeks_cons, List.set_cons_zero, List.set_cons_succ, lv_val, set_slot, vals_nil, vals_cons, ok_ok, cell_lst, cell_dct, Ex.fresh, if_true, List.length_cons, List.length_nil, Nat.reduceAdd, Nat.reduceLT, Nat.reduceSub, Nat.zero_add, blt_tupl]
  have th5 : ∀ x ∈ L4.map fun x => P.tup [fst0 x, at2 x], Th 16 2 x := fun x hx => by
    (obtain ⟨y, hy, rfl⟩ := List.mem_map.mp hx)
    obtain ⟨a, k, z, rfl, h1, h2, h3⟩ := t4 y hy
    exact th_two (h1.mono (Nat.le_refl _) (by decide)) h3 (by decide)
  have l5 : (L4.map fun x => P.tup [fst0 x, at2 x]).length ≤ 16 := by rw [List.length_map]; exact l4
  generalize (L4.map fun x => P.tup [fst0 x, at2 x]) = L5 at th5 l5 ⊢
  unfold w4
  simp only [List.map_cons, List.map_nil, List.cons_append, List.nil_append, List.replicate, evSs, evS, evE.eq_1, evE.eq_2, evE.eq_3, evE.eq_4, evE.eq_5, evE.eq_6, evE.eq_7, evE.eq_8, evE.eq_9, evE.eq_10, evE.eq_11, evE.eq_12, evE.eq_13, evE.eq_14, evE.eq_15, evE.eq_16, evE.eq_17, evE.eq_18, evE.eq_19, evE.eq_20, evE.eq_24, evE.eq_25, evE.eq_26, evE.eq_27, evEs, ok_bnd, List.getElem?_cons_zero, List.getElem?_cons_succ, ok_ret, peek_val, asP_val, ok_some, Option.map_some, idx_lst, idx_tup, at_0, at_1, at_2, cmp_gt, cmp_ge, cmp_lt, cmp_le, tru_bl, bin_add, bin_sub, blt_int, blt_intb, peeks_nil, peeks_cons, List.set_cons_zero, List.set_cons_succ, lv_val, set_slot, vals_nil, vals_cons, ok_ok, cell_lst, cell_dct, Ex.fresh, if_true, List.length_cons, List.length_nil, Nat.reduceAdd, Nat.reduceLT, Nat.reduceSub, Nat.zero_add]
  refine draw_nx (k := k + 19) t_draw rfl (by decide) (by decide) hd fun low u5 a0 a1 n5 => ?_
  have hd := n5.drw
  have hu5 := hu4.nx n5
  have hb5 : b ≤ u5.length := by rw [n5.len]; exact hb4
  clear n5 hu4 hb4
  unfold w5
  simp only [List.map_cons, List.map_nil, List.cons_append, List.nil_append, List.replicate, evSs, evS, evE.eq_1, evE.eq_2, evE.eq_3, evE.eq_4, evE.eq_5, evE.eq_6, evE.eq_7, evE.eq_8, evE.eq_9, evE.eq_10, evE.eq_11, evE.eq_12, evE.eq_13, evE.eq_14, evE.eq_15, evE.eq_16, evE.eq_17, evE.eq_18, evE.eq_19, evE.eq_20, evE.eq_24, evE.eq_25, evE.eq_26, evE.eq_27, evEs, ok_bnd, List.getElem?_cons_zero, List.getElem?_cons_succ, ok_ret, peek_val, asP_val, ok_some, Option.map_some, idx_lst, idx_tup, at_0, at_1, at_2, cmp_gt, cmp_ge, cmp_lt, cmp_le, tru_bl, bin_add, bin_sub, blt_int, blt_intb, peeks_nil, peeks_cons, List.set_cons_zero, List.set_cons_succ, lv_val, set_slot, vals_nil, vals_cons, ok_ok, cell_lst, cell_dct, Ex.fresh, if_true, List.length_cons, List.length_nil, Nat.reduceAdd, Nat.reduceLT, Nat.reduceSub, Nat.zero_add]
  refine gather_ok (m := 17) (S := fun t => Nx u5 t n) (V := fun x => ∃ i : Nat, x = .int (i : Nat) ∧ i ≤ 17) (E := Th 16 0) (by simp [wipeE]) rfl (by decide) ?_ (fun x t ⟨i, hx, hi⟩ h => ?_) fun ps u6 hl6 hp6 n6 => ?_
  · refine rng_eq ?_
    simp only [List.map_cons, List.map_nil, List.cons_append, List.nil_append, List.replicate, evSs, evS, evE.eq_1, evE.eq_2, evE.eq_3, evE.eq_4, evE.eq_5, evE.eq_6, evE.eq_7, evE.eq_8, evE.eq_9, evE.eq_10, evE.eq_11, evE.eq_12, evE.eq_13, evE.eq_14, evE.eq_15, evE.eq_16, evE.eq_17, evE.eq_18, evE.eq_19, evE.eq_20, evE.eq_24, evE.eq_25, evE.eq_26, evE.eq_27, evEs, ok_bnd, List.getElem?_cons_zero, List.getElem?_cons_succ, ok_ret, peek_val, asP_val, ok_some, Option.map_some, idx_lst, idx_tup, at_0, at_1, at_2, cmp_gt, cmp_ge, cmp_lt, cmp_le, tru_bl, bin_add, bin_sub, blt_int, blt_intb, peeks_nil, peeks_cons, List.set_cons_zero, List.set_cons_succ, lv_val, set_slot, vals_nil, vals_cons, ok_ok, cell_lst, cell_dct, Ex.fresh, if_true, List.length_cons, List.length_nil, Nat.reduceAdd, Nat.reduceLT, Nat.reduceSub, Nat.zero_add]
    refine draw_nx (k := k + 19) t_draw rfl (by decide) (by decide) hd fun a u6 a0 a1 n6 => ?_
    simp only [List.map_cons, List.map_nil, List.cons_append, List.nil_append, List.replicate, evSs, evS, evE.eq_1, evE.eq_2, evE.eq_3, evE.eq_4, evE.eq_5, evE.eq_6, evE.eq_7, evE.eq_8, evE.eq_9, evE.eq_10, evE.eq_11, evE.eq_12, evE.eq_13, evE.eq_14, evE.eq_15, evE.eq_16, evE.eq_17, evE.eq_18, evE.eq_19, evE.eq_20, evE.eq_24, evE.eq_25, evE.eq_26, evE.eq_27, evEs, ok_bnd, List.getElem?_cons_zero, List.getElem?_cons_succ, ok_ret, peek_val, asP_val, ok_some, Option.map_some, idx_lst, idx_tup, at_0, at_1, at_2, cmp_gt, cmp_ge, cmp_lt, cmp_le, tru_bl, bin_add, bin_sub, blt_int, blt_intb, peeks_nil, peeks_cons, List.set_cons_zero, List.set_cons_succ, lv_val, set_slot, vals_nil, vals_cons, ok_ok, cell_lst, cell_dct, Ex.fresh, if_true, List.length_cons, List.length_nil, Nat.reduceAdd, Nat.reduceLT, Nat.reduceSub, Nat.zero_add]
    refine ⟨15 + a, rfl, by omega, by omega, by rw [List.length_map, List.length_range]; omega, fun x hx => ?_, n6⟩
    obtain ⟨i, hi, rfl⟩ := List.mem_map.mp hx
    have := List.mem_range.mp hi
    exact ⟨i, rfl, by omega⟩
  · subst hx
    have lg := log_lt (i := ((i : Nat) : Int)) (k := 8) (by omega) (by omega) (by decide)
    have l5 : (5 : Int).natAbs.log2 = 2 := by decide +kernel
    simp only [List.map_cons, List.map_nil, List.cons_append, List.nil_append, List.replicate, evSs, evS, evE.eq_1, evE.eq_2, evE.eq_3, evE.eq_4, evE.eq_5, evE.eq_6, evE.eq_7, evE.eq_8, evE.eq_9, evE.eq_10, evE.eq_11, evE.eq_12, evE.eq_13, evE.eq_14, evE.eq_15, evE.eq_16, evE.eq_17, evE.eq_18, evE.eq_19, evE.eq_20, evE.eq_24, evE.eq_25, evE.eq_26, evE.eq_27, evEs, ok_bnd, List.getElem?_cons_zero, List.getElem?_cons_succ, ok_ret, peek_val, asP_val, ok_some, Option.map_some, idx_lst, idx_tup, at_0, at_1, at_2, cmp_gt, cmp_ge, cmp_lt, cmp_le, tru_bl, bin_add, bin_sub, blt_int, blt_intb, peeks_nil, peeks_cons, List.set_cons_zero, List.set_cons_succ, lv_val, set_slot, vals_nil, vals_cons, ok_ok, cell_lst, cell_dct, Ex.fresh, if_true, List.length_cons, List.length_nil, Nat.reduceAdd, Nat.reduceLT, Nat.reduceSub, Nat.zero_add, wipeE, bin_mul (i := 5) (j := ((i : Nat) : Int)) (by omega)]
    exact ⟨_, rfl, .int _ _ (by omega), h⟩
  simp only [List.map_cons, List.map_nil, List.cons_append, List.nil_append, List.replicate, evSs, evS, evE.eq_1, evE.eq_2, evE.eq_3, evE.eq_4, evE.eq_5, evE.eq_6, evE.eq_7, evE.eq_8, evE.eq_9, evE.eq_10, evE.eq_11, evE.eq_12, evE.eq_13, evE.eq_14, evE.eq_15, evE.eq_16, evE.eq_17, evE.eq_18, evE.eq_19, evE.eq_20, evE.eq_24, evE.eq_25, evE.eq_26, evE.eq_27, evEs, ok_bnd, List.getElem?_cons_zero, List.getElem?_cons_succ, ok_ret, peek_val, asP_val, ok_some, Option.map_some, idx_lst, idx_tup, at_0, at_1, at_2, cmp_gt, cmp_ge, cmp_lt, cmp_le, tru_bl, bin_add, bin_sub, blt_int, blt_intb, peeks_nil, peeks_cons, List.set_cons_zero, List.set_cons_succ, lv_val, set_slot, vals_nil, vals_cons, ok_ok, cell_lst, cell_dct, Ex.fresh, if_true, List.length_cons, List.length_nil, Nat.reduceAdd, Nat.reduceLT, Nat.reduceSub, Nat.zero_add, blt_tupl]
  have h10 : Th 400 1 (.tup ps) := .tup _ _ (by omega) fun x hx => (hp6 x hx).mono (by decide) (Nat.le_refl _)
  generalize P.tup ps = p10 at h10 ⊢
  have hd := n6.drw
  have hu6 := hu5.nx n6
  have hb6 : b ≤ u6.length := by rw [n6.len]; exact hb5
  clear n6 hu5 hb5 hp6 hl6
  unfold w6
  have e6 : (10 : Int) ^ (6 : Int).toNat = 1000000 := by decide +kernel
  simp only [List.map_cons, List.map_nil, List.cons_append, List.nil_append, List.replicate, evSs, evS, evE.eq_1, evE.eq_2, evE.eq_3, evE.eq_4, evE.eq_5, evE.eq_6, evE.eq_7, evE.eq_8, evE.eq_9, evE.eq_10, evE.eq_11, evE.eq_12, evE.eq_13, evE.eq_14, evE.eq_15, evE.eq_16, evE.eq_17, evE.eq_18, evE.eq_19, evE.eq_20, evE.eq_24, evE.eq_25, evE.eq_26, evE.eq_27, evEs, ok_bnd, List.getElem?_cons_zero, List.getElem?_cons_succ, ok_ret, peek_val, asP_val, ok_some, Option.map_some, idx_lst, idx_tup, at_0, at_1, at_2, cmp_gt, cmp_ge, cmp_lt, cmp_le, tru_bl, bin_add, bin_sub, blt_int, blt_intb, peeks_nil, peeks_cons, List.set_cons_zero, List.set_cons_succ, lv_val, set_slot, vals_nil, vals_cons, ok_ok, cell_lst, cell_dct, Ex.fresh, if_true, List.length_cons, List.length_nil, Nat.reduceAdd, Nat.reduceLT, Nat.reduceSub, Nat.zero_add, pow_10 (e := 6) (by decide) (by decide), e6]
  refine draw_nx (k := k + 19) t_draw rfl (by decide) (by decide) hd fun a u7 a0 a1 n7 => ?_
  have hd := n7.drw
  have hu7 := hu6.nx n7
  have hb7 : b ≤ u7.length := by rw [n7.len]; exact hb6
  obtain ⟨v, hv, ev⟩ := at_int (xs := [.int 0, .int 1000000, .int (1000000 + 1), .int (-1)]) a0 a1
  have hv : Th 400 0 v := ths_of (by decide +kernel) v hv
  simp only [List.map_cons, List.map_nil, List.cons_append, List.nil_append, List.replicate, evSs, evS, evE.eq_1, evE.eq_2, evE.eq_3, evE.eq_4, evE.eq_5, evE.eq_6, evE.eq_7, evE.eq_8, evE.eq_9, evE.eq_10, evE.eq_11, evE.eq_12, evE.eq_13, evE.eq_14, evE.eq_15, evE.eq_16, evE.eq_17, evE.eq_18, evE.eq_19, evE.eq_20, evE.eq_24, evE.eq_25, evE.eq_26, evE.eq_27, evEs, ok_bnd, List.getElem?_cons_zero, List.getElem?_cons_succ, ok_ret, peek_val, asP_val, ok_some, Option.map_some, idx_lst, idx_tup, at_0, at_1, at_2, cmp_gt, cmp_ge, cmp_lt, cmp_le, tru_bl, bin_add, bin_sub, blt_int, blt_intb, peeks_nil, peeks_cons, List.set_cons_zero, List.set_cons_succ, lv_val, set_slot, vals_nil, vals_cons, ok_ok, cell_lst, cell_dct, Ex.fresh, if_true, List.length_cons, List.length_nil, Nat.reduceAdd, Nat.reduceLT, Nat.reduceSub, Nat.zero_add, ev]
  clear n7 hu6 hb6 a0 a1 ev
  have h12 : Th 400 1 (.tup [v]) := th_one hv (by decide)
  unfold w7
  simp only [List.map_cons, List.map_nil, List.cons_append, List.nil_append, List.replicate, evSs, evS, evE.eq_1, evE.eq_2, evE.eq_3, evE.eq_4, evE.eq_5, evE.eq_6, evE.eq_7, evE.eq_8, evE.eq_9, evE.eq_10, evE.eq_11, evE.eq_12, evE.eq_13, evE.eq_14, evE.eq_15, evE.eq_16, evE.eq_17, evE.eq_18, evE.eq_19, evE.eq_20, evE.eq_24, evE.eq_25, evE.eq_26, evE.eq_27, evEs, ok_bnd, List.getElem?_cons_zero, List.getElem?_cons_succ, ok_ret, peek_val, asP_val, ok_some, Option.map_some, idx_lst, idx_tup, at_0, at_1, at_2, cmp_gt, cmp_ge, cmp_lt, cmp_le, tru_bl, bin_add, bin_sub, blt_int, blt_intb, peeks_nil, peeks_cons, List.set_cons_zero, List.set_cons_succ, lv_val, set_slot, vals_nil, vals_cons, ok_ok, cell_lst, cell_dct, Ex.fresh, if_true, List.length_cons, List.length_nil, Nat.reduceAdd, Nat.reduceLT, Nat.reduceSub, Nat.zero_add]
  refine gather_ok (m := 9) (S := fun t => Nx u7 t n) (V := Th 16 0) (E := fun p => ∃ a, p = .tup [a, .tup [v]] ∧ Th 400 0 a) (by simp [wipeE]) rfl (by decide) ?_ (fun x t hx h => ?_) fun ps8 u8 hl8 hp8 n8 => ?_
  · rw [evI]
    simp only [List.map_cons, List.map_nil, List.cons_append, List.nil_append, List.replicate, evSs, evS, evE.eq_1, evE.eq_2, evE.eq_3, evE.eq_4, evE.eq_5, evE.eq_6, evE.eq_7, evE.eq_8, evE.eq_9, evE.eq_10, evE.eq_11, evE.eq_12, evE.eq_13, evE.eq_14, evE.eq_15, evE.eq_16, evE.eq_17, evE.eq_18, evE.eq_19, evE.eq_20, evE.eq_24, evE.eq_25, evE.eq_26, evE.eq_27, evEs, ok_bnd, List.getElem?_cons_zero, List.getElem?_cons_succ, ok_ret, peek_val, asP_val, ok_some, Option.map_some, idx_lst, idx_tup, at_0, at_1, at_2, cmp_gt, cmp_ge, cmp_lt, cmp_le, tru_bl, bin_add, bin_sub, blt_int, blt_intb, peeks_nil, peeks_cons, List.set_cons_zero, List.set_cons_succ, lv_val, set_slot, vals_nil, vals_cons, ok_ok, cell_lst, cell_dct, Ex.fresh, if_true, List.length_cons, List.length_nil, Nat.reduceAdd, Nat.reduceLT, Nat.reduceSub, Nat.zero_add, evO]
    refine draw_nx (k := k + 19) t_draw rfl (by decide) (by decide) hd fun a u8 a0 a1 n8 => ?_
    simp only [List.map_cons, List.map_nil, List.cons_append, List.nil_append, List.replicate, evSs, evS, evE.eq_1, evE.eq_2, evE.eq_3, evE.eq_4, evE.eq_5, evE.eq_6, evE.eq_7, evE.eq_8, evE.eq_9, evE.eq_10, evE.eq_11, evE.eq_12, evE.eq_13, evE.eq_14, evE.eq_15, evE.eq_16, evE.eq_17, evE.eq_18, evE.eq_19, evE.eq_20, evE.eq_24, evE.eq_25, evE.eq_26, evE.eq_27, evEs, ok_bnd, List.getElem?_cons_zero, List.getElem?_cons_succ, ok_ret, peek_val, asP_val, ok_some, Option.map_some, idx_lst, idx_tup, at_0, at_1, at_2, cmp_gt, cmp_ge, cmp_lt, cmp_le, tru_bl, bin_add, bin_sub, blt_int, blt_intb, peeks_nil, peeks_cons, List.set_cons_zero, List.set_cons_succ, lv_val, set_slot, vals_nil, vals_cons, ok_ok, cell_lst, cell_dct, Ex.fresh, if_true, List.length_cons, List.length_nil, Nat.reduceAdd, Nat.reduceLT, Nat.reduceSub, Nat.zero_add, ixOf, slc_str (x := Str.ofString "abcdefghi") (by rw [abc_size]; decide)]
    show Ok (lift (some (signs ⟨(cutL (Str.ofString "abcdefghi").cps.toList none (some (7 + a))).toArray⟩)) u8) _
    refine ⟨?_, fun x hx => ?_, n8⟩
    · rw [signs_len, List.size_toArray]
      refine Nat.le_trans cutL_le ?_
      rw [Array.length_toList, abc_size]
      exact Nat.le_refl _
    · refine abc_th x ?_
      obtain ⟨c, hc, rfl⟩ := List.mem_map.mp hx
      exact List.mem_map.mpr ⟨c, cutL_in (by simpa using hc), rfl⟩
  · simp only [List.map_cons, List.map_nil, List.cons_append, List.nil_append, List.replicate, evSs, evS, evE.eq_1, evE.eq_2, evE.eq_3, evE.eq_4, evE.eq_5, evE.eq_6, evE.eq_7, evE.eq_8, evE.eq_9, evE.eq_10, evE.eq_11, evE.eq_12, evE.eq_13, evE.eq_14, evE.eq_15, evE.eq_16, evE.eq_17, evE.eq_18, evE.eq_19, evE.eq_20, evE.eq_24, evE.eq_25, evE.eq_26, evE.eq_27, evEs, ok_bnd, List.getElem?_cons_zero, List.getElem?_cons_succ, ok_ret, peek_val, asP_val, ok_some, Option.map_some, idx_lst, idx_tup, at_0, at_1, at_2, cmp_gt, cmp_ge, cmp_lt, cmp_le, tru_bl, bin_add, bin_sub, blt_int, blt_intb, peeks_nil, peeks_cons, List.set_cons_zero, List.set_cons_succ, lv_val, set_slot, vals_nil, vals_cons, ok_ok, cell_lst, cell_dct, Ex.fresh, if_true, List.length_cons, List.length_nil, Nat.reduceAdd, Nat.reduceLT, Nat.reduceSub, Nat.zero_add, wipeE]
    exact ⟨_, rfl, ⟨x, rfl, hx.mono (by decide) (Nat.le_refl _)⟩, h⟩
  simp only [List.map_cons, List.map_nil, List.cons_append, List.nil_append, List.replicate, evSs, evS, evE.eq_1, evE.eq_2, evE.eq_3, evE.eq_4, evE.eq_5, evE.eq_6, evE.eq_7, evE.eq_8, evE.eq_9, evE.eq_10, evE.eq_11, evE.eq_12, evE.eq_13, evE.eq_14, evE.eq_15, evE.eq_16, evE.eq_17, evE.eq_18, evE.eq_19, evE.eq_20, evE.eq_24, evE.eq_25, evE.eq_26, evE.eq_27, evEs, ok_bnd, List.getElem?_cons_zero, List.getElem?_cons_succ, ok_ret, peek_val, asP_val, ok_some, Option.map_some, idx_lst, idx_tup, at_0, at_1, at_2, cmp_gt, cmp_ge, cmp_lt, cmp_le, tru_bl, bin_add, bin_sub, blt_int, blt_intb, peeks_nil, peeks_cons, List.set_cons_zero, List.set_cons_succ, lv_val, set_slot, vals_nil, vals_cons, ok_ok, cell_lst, cell_dct, Ex.fresh, if_true, List.length_cons, List.length_nil, Nat.reduceAdd, Nat.reduceLT, Nat.reduceSub, Nat.zero_add, blt_tupl]
  have hd := n8.drw
  have hu8 := hu7.nx n8
  have hb8 : b ≤ u8.length := by rw [n8.len]; exact hb7
  have h13 : Th 400 3 (.tup ps8) := .tup _ _ (by omega) fun x hx => by
    obtain ⟨a, rfl, ha⟩ := hp8 x hx
    exact th_two (ha.mono (Nat.le_refl _) (Nat.zero_le _)) h12 (by decide)
  clear n8 hu7 hb7
  unfold w8
  have g4 : Th 16 3 (.tup L4) := .tup _ _ l4 th4
  have g5 : Th 16 3 (.tup L5) := .tup _ _ l5 th5
  simp only [List.map_cons, List.map_nil, List.cons_append, List.nil_append, List.replicate, evSs, evS, evE.eq_1, evE.eq_2, evE.eq_3, evE.eq_4, evE.eq_5, evE.eq_6, evE.eq_7, evE.eq_8, evE.eq_9, evE.eq_10, evE.eq_11, evE.eq_12, evE.eq_13, evE.eq_14, evE.eq_15, evE.eq_16, evE.eq_17, evE.eq_18, evE.eq_19, evE.eq_20, evE.eq_24, evE.eq_25, evE.eq_26, evE.eq_27, evEs, ok_bnd, List.getElem?_cons_zero, List.getElem?_cons_succ, ok_ret, peek_val, asP_val, ok_some, Option.map_some, idx_lst, idx_tup, at_0, at_1, at_2, cmp_gt, cmp_ge, cmp_lt, cmp_le, tru_bl, bin_add, bin_sub, blt_int, blt_intb, peeks_nil, peeks_cons, List.set_cons_zero, List.set_cons_succ, lv_val, set_slot, vals_nil, vals_cons, ok_ok, cell_lst, cell_dct, Ex.fresh, if_true, List.length_cons, List.length_nil, Nat.reduceAdd, Nat.reduceLT, Nat.reduceSub, Nat.zero_add]
  refine spoilt_ok (m := 3) (k := k + 8) t_spoilt t_else t_other t_thing t_draw t_of rfl (c := 16) (by decide) (by decide) hd hu8.cl g4 (by decide) rfl fun s4 u9 hs4 n9 => ?_
  have hd := n9.drw
  have hu9 := hu8.nx n9
  have hb9 : b ≤ u9.length := by rw [n9.len]; exact hb8
  refine spoilt_ok (m := 3) (k := k + 8) t_spoilt t_else t_other t_thing t_draw t_of rfl (c := 16) (by decide) (by decide) hd hu9.cl g5 (by decide) rfl fun s5 u10 hs5 n10 => ?_
  have hk := Ks.start n10.drw (hu9.nx n10) [.tup L4, .tup L5, s4, s5, .lst L4, .tup L4.reverse]
  have hb10 : b ≤ u10.length := by rw [n10.len]; exact hb9
  clear n9 n10 hu8 hu9 hb8 hb9
  simp only [List.map_cons, List.map_nil, List.cons_append, List.nil_append, List.replicate, evSs, evS, evE.eq_1, evE.eq_2, evE.eq_3, evE.eq_4, evE.eq_5, evE.eq_6, evE.eq_7, evE.eq_8, evE.eq_9, evE.eq_10, evE.eq_11, evE.eq_12, evE.eq_13, evE.eq_14, evE.eq_15, evE.eq_16, evE.eq_17, evE.eq_18, evE.eq_19, evE.eq_20, evE.eq_24, evE.eq_25, evE.eq_26, evE.eq_27, evEs, ok_bnd, List.getElem?_cons_zero, List.getElem?_cons_succ, ok_ret, peek_val, asP_val, ok_some, Option.map_some, idx_lst, idx_tup, at_0, at_1, at_2, cmp_gt, cmp_ge, cmp_lt, cmp_le, tru_bl, bin_add, bin_sub, blt_int, blt_intb, peeks_nil, peeks_cons, List.set_cons_zero, List.set_cons_succ, lv_val, set_slot, vals_nil, vals_cons, ok_ok, cell_lst, cell_dct, Ex.fresh, if_true, List.length_cons, List.length_nil, Nat.reduceAdd, Nat.reduceLT, Nat.reduceSub, Nat.zero_add, blt_lstt, rev_tup]
  have hL : ∀ x ∈ ([.tup L4, .tup L5, s4, s5, .lst L4, .tup L4.reverse] : List P), Th 400 12 x := fun x hx => by
    simp only [List.not_mem_nil, or_false, List.mem_cons] at hx
    rcases hx with rfl | rfl | rfl | rfl | rfl | rfl
    · exact g4.mono (by decide) (by decide)
    · exact g5.mono (by decide) (by decide)
    · exact hs4.mono (by decide) (by decide)
    · exact hs5.mono (by decide) (by decide)
    · exact (Th.lst 2 L4 l4 th4).mono (by decide) (by decide)
    · exact (Th.tup 2 L4.reverse (by rw [List.length_reverse]; exact l4) fun x hx => th4 x (List.mem_reverse.mp hx)).mono (by decide) (by decide)
  have lL : ([.tup L4, .tup L5, s4, s5, .lst L4, .tup L4.reverse] : List P).length ≤ 6 := by simp only [List.length_cons, List.length_nil]; omega
  generalize u10.length = m1 at hk hb10 ⊢
  generalize ([.tup L4, .tup L5, s4, s5, .lst L4, .tup L4.reverse] : List P) = M1 at hk hL lL ⊢
  generalize u10 ++ [Cell.lst M1] = v1 at hk ⊢
  clear hs4 hs5
  have tp : ∀ d, Th 400 d (.str "p") := fun d => (th_of (c := 16) (d := 0) (by decide +kernel)).mono (by decide) (Nat.zero_le _)
  unfold w9
  simp only [List.map_cons, List.map_nil, List.cons_append, List.nil_append, List.replicate, evSs, evS, evE.eq_1, evE.eq_2, evE.eq_3, evE.eq_4, evE.eq_5, evE.eq_6, evE.eq_7, evE.eq_8, evE.eq_9, evE.eq_10, evE.eq_11, evE.eq_12, evE.eq_13, evE.eq_14, evE.eq_15, evE.eq_16, evE.eq_17, evE.eq_18, evE.eq_19, evE.eq_20, evE.eq_24, evE.eq_25, evE.eq_26, evE.eq_27, evEs, ok_bnd, List.getElem?_cons_zero, List.getElem?_cons_succ, ok_ret, peek_val, asP_val, ok_some, Option.map_some, idx_lst, idx_tup, at_0, at_1, at_2, cmp_gt, cmp_ge, cmp_lt, cmp_le, tru_bl, bin_add, bin_sub, blt_int, blt_intb, peeks_nil, peeks_cons, List.set_cons_zero, List.set_cons_succ, lv_val, set_slot, vals_nil, vals_cons, ok_ok, cell_lst, cell_dct, Ex.fresh, if_true, List.length_cons, List.length_nil, Nat.reduceAdd, Nat.reduceLT, Nat.reduceSub, Nat.zero_add, peek_lst hk.top, rev_tup]
  rw [bin_lst (by simp only [List.length_cons, List.length_nil]; omega)]
  simp only [List.map_cons, List.map_nil, List.cons_append, List.nil_append, List.replicate, evSs, evS, evE.eq_1, evE.eq_2, evE.eq_3, evE.eq_4, evE.eq_5, evE.eq_6, evE.eq_7, evE.eq_8, evE.eq_9, evE.eq_10, evE.eq_11, evE.eq_12, evE.eq_13, evE.eq_14, evE.eq_15, evE.eq_16, evE.eq_17, evE.eq_18, evE.eq_19, evE.eq_20, evE.eq_24, evE.eq_25, evE.eq_26, evE.eq_27, evEs, ok_bnd, List.getElem?_cons_zero, List.getElem?_cons_succ, ok_ret, peek_val, asP_val, ok_some, Option.map_some, idx_lst, idx_tup, at_0, at_1, at_2, cmp_gt, cmp_ge, cmp_lt, cmp_le, tru_bl, bin_add, bin_sub, blt_int, blt_intb, peeks_nil, peeks_cons, List.set_cons_zero, List.set_cons_succ, lv_val, set_slot, vals_nil, vals_cons, ok_ok, cell_lst, cell_dct, Ex.fresh, if_true, List.length_cons, List.length_nil, Nat.reduceAdd, Nat.reduceLT, Nat.reduceSub, Nat.zero_add]
  have hb11 := hk.base hb10
  have hk := hk.push (M1 ++ ([.tup L5.reverse, .tup [], .tup [.tup [.str "p", p10]], .tup [.tup [.str "p", .int 1, p10]], .tup [.tup [.str "p", .tup [v]]]] : List P))
  have hL : ∀ x ∈ M1 ++ ([.tup L5.reverse, .tup [], .tup [.tup [.str "p", p10]], .tup [.tup [.str "p", .int 1, p10]], .tup [.tup [.str "p", .tup [v]]]] : List P), Th 400 12 x := th_app hL fun x hx => by
    simp only [List.not_mem_nil, or_false, List.mem_cons] at hx
    rcases hx with rfl | rfl | rfl | rfl | rfl
    · exact (Th.tup 2 L5.reverse (by rw [List.length_reverse]; exact l5) fun x hx => th5 x (List.mem_reverse.mp hx)).mono (by decide) (by decide)
    · exact th_of (by decide +kernel)
    · exact (th_one (th_two (tp 1) h10 (by decide)) (by decide)).mono (by decide) (by decide)
    · exact (th_one (th_thr (tp 1) (.int _ _ (by decide +kernel)) h10 (by decide)) (by decide)).mono (by decide) (by decide)
    · exact (th_one (th_two (tp 1) h12 (by decide)) (by decide)).mono (by decide) (by decide)
  have lL : (M1 ++ ([.tup L5.reverse, .tup [], .tup [.tup [.str "p", p10]], .tup [.tup [.str "p", .int 1, p10]], .tup [.tup [.str "p", .tup [v]]]] : List P)).length ≤ 11 := by rw [List.length_append]; simp only [List.length_cons, List.length_nil]; omega
  generalize v1.length = m2 at hk hb11 ⊢
  generalize M1 ++ ([.tup L5.reverse, .tup [], .tup [.tup [.str "p", p10]], .tup [.tup [.str "p", .int 1, p10]], .tup [.tup [.str "p", .tup [v]]]] : List P) = M2 at hk hL lL ⊢
  generalize v1 ++ [Cell.lst M2] = v2 at hk ⊢
  unfold w10
  simp only [List.map_cons, List.map_nil, List.cons_append, List.nil_append, List.replicate, evSs, evS, evE.eq_1, evE.eq_2, evE.eq_3, evE.eq_4, evE.eq_5, evE.eq_6, evE.eq_7, evE.eq_8, evE.eq_9, evE.eq_10, evE.eq_11, evE.eq_12, evE.eq_13, evE.eq_14, evE.eq_15, evE.eq_16, evE.eq_17, evE.eq_18, evE.eq_19, evE.eq_20, evE.eq_24, evE.eq_25, evE.eq_26, evE.eq_27, evEs, ok_bnd, List.getElem?_cons_zero, List.getElem?_cons_succ, ok_ret, peek_val, asP_val, ok_some, Option.map_some, idx_lst, idx_tup, at_0, at_1, at_2, cmp_gt, cmp_ge, cmp_lt, cmp_le, tru_bl, bin_add, bin_sub, blt_int, blt_intb, peeks_nil, peeks_cons, List.set_cons_zero, List.set_cons_succ, lv_val, set_slot, vals_nil, vals_cons, ok_ok, cell_lst, cell_dct, Ex.fresh, if_true, List.length_cons, List.length_nil, Nat.reduceAdd, Nat.reduceLT, Nat.reduceSub, Nat.zero_add, peek_lst hk.top]
  rw [bin_lst (by simp only [List.length_cons, List.length_nil]; omega)]
  simp only [List.map_cons, List.map_nil, List.cons_append, List.nil_append, List.replicate, evSs, evS, evE.eq_1, evE.eq_2, evE.eq_3, evE.eq_4, evE.eq_5, evE.eq_6, evE.eq_7, evE.eq_8, evE.eq_9, evE.eq_10, evE.eq_11, evE.eq_12, evE.eq_13, evE.eq_14, evE.eq_15, evE.eq_16, evE.eq_17, evE.eq_18, evE.eq_19, evE.eq_20, evE.eq_24, evE.eq_25, evE.eq_26, evE.eq_27, evEs, ok_bnd, List.getElem?_cons_zero, List.getElem?_cons_succ, ok_ret, peek_val, asP_val, ok_some, Option.map_some, idx_lst, idx_tup, at_0, at_1, at_2, cmp_gt, cmp_ge, cmp_lt, cmp_le, tru_bl, bin_add, bin_sub, blt_int, blt_intb, peeks_nil, peeks_cons, List.set_cons_zero, List.set_cons_succ, lv_val, set_slot, vals_nil, vals_cons, ok_ok, cell_lst, cell_dct, Ex.fresh, if_true, List.length_cons, List.length_nil, Nat.reduceAdd, Nat.reduceLT, Nat.reduceSub, Nat.zero_add]
  have hb12 := hk.base hb11
  have hk := hk.push (M2 ++ ([.tup [.tup [.str "p", v, .tup [.int 0]]], .tup ps8, .tup [.tup [.str "p", .tup []]]] : List P))
  have hL : ∀ x ∈ M2 ++ ([.tup [.tup [.str "p", v, .tup [.int 0]]], .tup ps8, .tup [.tup [.str "p", .tup []]]] : List P), Th 400 12 x := th_app hL fun x hx => by
    simp only [List.not_mem_nil, or_false, List.mem_cons] at hx
    rcases hx with rfl | rfl | rfl
    · exact (th_one (th_thr (tp 1) (hv.mono (Nat.le_refl _) (Nat.zero_le _)) (th_of (by decide +kernel)) (by decide)) (by decide)).mono (by decide) (by decide)
    · exact h13.mono (by decide) (by decide)
    · exact th_of (by decide +kernel)
  have lL : (M2 ++ ([.tup [.tup [.str "p", v, .tup [.int 0]]], .tup ps8, .tup [.tup [.str "p", .tup []]]] : List P)).length ≤ 14 := by rw [List.length_append]; simp only [List.length_cons, List.length_nil]; omega
  generalize v2.length = m3 at hk hb12 ⊢
  generalize M2 ++ ([.tup [.tup [.str "p", v, .tup [.int 0]]], .tup ps8, .tup [.tup [.str "p", .tup []]]] : List P) = M3 at hk hL lL ⊢
  generalize v2 ++ [Cell.lst M3] = v3 at hk ⊢
  unfold w11
  simp only [List.map_cons, List.map_nil, List.cons_append, List.nil_append, List.replicate, evSs, evS, evE.eq_1, evE.eq_2, evE.eq_3, evE.eq_4, evE.eq_5, evE.eq_6, evE.eq_7, evE.eq_8, evE.eq_9, evE.eq_10, evE.eq_11, evE.eq_12, evE.eq_13, evE.eq_14, evE.eq_15, evE.eq_16, evE.eq_17, evE.eq_18, evE.eq_19, evE.eq_20, evE.eq_24, evE.eq_25, evE.eq_26, evE.eq_27, evEs, ok_bnd, List.getElem?_cons_zero, List.getElem?_cons_succ, ok_ret, peek_val, asP_val, ok_some, Option.map_some, idx_lst, idx_tup, at_0, at_1, at_2, cmp_gt, cmp_ge, cmp_lt, cmp_le, tru_bl, bin_add, bin_sub, blt_int, blt_intb, peeks_nil, peeks_cons, List.set_cons_zero, List.set_cons_succ, lv_val, set_slot, vals_nil, vals_cons, ok_ok, cell_lst, cell_dct, Ex.fresh, if_true, List.length_cons, List.length_nil, Nat.reduceAdd, Nat.reduceLT, Nat.reduceSub, Nat.zero_add]
  refine thing_ok (m := 3) (k := k + 14) t_thing t_draw t_of rfl _ _ hk.drw fun pt u11 ht n11 => ?_
  have hk := hk.draw n11
  clear n11
  simp only [List.map_cons, List.map_nil, List.cons_append, List.nil_append, List.replicate, evSs, evS, evE.eq_1, evE.eq_2, evE.eq_3, evE.eq_4, evE.eq_5, evE.eq_6, evE.eq_7, evE.eq_8, evE.eq_9, evE.eq_10, evE.eq_11, evE.eq_12, evE.eq_13, evE.eq_14, evE.eq_15, evE.eq_16, evE.eq_17, evE.eq_18, evE.eq_19, evE.eq_20, evE.eq_24, evE.eq_25, evE.eq_26, evE.eq_27, evEs, ok_bnd, List.getElem?_cons_zero, List.getElem?_cons_succ, ok_ret, peek_val, asP_val, ok_some, Option.map_some, idx_lst, idx_tup, at_0, at_1, at_2, cmp_gt, cmp_ge, cmp_lt, cmp_le, tru_bl, bin_add, bin_sub, blt_int, blt_intb, peeks_nil, peeks_cons, List.set_cons_zero, List.set_cons_succ, lv_val, set_slot, vals_nil, vals_cons, ok_ok, cell_lst, cell_dct, Ex.fresh, if_true, List.length_cons, List.length_nil, Nat.reduceAdd, Nat.reduceLT, Nat.reduceSub, Nat.zero_add, peek_lst hk.top]
  rw [bin_lst (by simp only [List.length_cons, List.length_nil]; omega)]
  simp only [List.map_cons, List.map_nil, List.cons_append, List.nil_append, List.replicate, evSs, evS, evE.eq_1, evE.eq_2, evE.eq_3, evE.eq_4, evE.eq_5, evE.eq_6, evE.eq_7, evE.eq_8, evE.eq_9, evE.eq_10, evE.eq_11, evE.eq_12, evE.eq_13, evE.eq_14, evE.eq_15, evE.eq_16, evE.eq_17, evE.eq_18, evE.eq_19, evE.eq_20, evE.eq_24, evE.eq_25, evE.eq_26, evE.eq_27, evEs, ok_bnd, List.getElem?_cons_zero, List.getElem?_cons_succ, ok_ret, peek_val, asP_val, ok_some, Option.map_some, idx_lst, idx_tup, at_0, at_1, at_2, cmp_gt, cmp_ge, cmp_lt, cmp_le, tru_bl, bin_add, bin_sub, blt_int, blt_intb, peeks_nil, peeks_cons, List.set_cons_zero, List.set_cons_succ, lv_val, set_slot, vals_nil, vals_cons, ok_ok, cell_lst, cell_dct, Ex.fresh, if_true, List.length_cons, List.length_nil, Nat.reduceAdd, Nat.reduceLT, Nat.reduceSub, Nat.zero_add]
  have hb13 := hk.base hb12
  have hk := hk.push (M3 ++ ([.tup [.tup [.str "p", .int 3, .tup [.int 1]], .tup [.str "q", .int 3, .tup [.int 1, .int 2]]], pt] : List P))
  have hL : ∀ x ∈ M3 ++ ([.tup [.tup [.str "p", .int 3, .tup [.int 1]], .tup [.str "q", .int 3, .tup [.int 1, .int 2]]], pt] : List P), Th 400 12 x := th_app hL fun x hx => by
    simp only [List.not_mem_nil, or_false, List.mem_cons] at hx
    rcases hx with rfl | rfl
    · exact th_of (by decide +kernel)
    · exact ht.mono (by decide) (by decide)
  have lL : (M3 ++ ([.tup [.tup [.str "p", .int 3, .tup [.int 1]], .tup [.str "q", .int 3, .tup [.int 1, .int 2]]], pt] : List P)).length ≤ 16 := by rw [List.length_append]; simp only [List.length_cons, List.length_nil]; omega
  generalize u11.length = m4 at hk hb13 ⊢
  generalize M3 ++ ([.tup [.tup [.str "p", .int 3, .tup [.int 1]], .tup [.str "q", .int 3, .tup [.int 1, .int 2]]], pt] : List P) = M4 at hk hL lL ⊢
  generalize u11 ++ [Cell.lst M4] = v4 at hk ⊢
  unfold w12
  simp only [List.map_cons, List.map_nil, List.cons_append, List.nil_append, List.replicate, evSs, evS, evE.eq_1, evE.eq_2, evE.eq_3, evE.eq_4, evE.eq_5, evE.eq_6, evE.eq_7, evE.eq_8, evE.eq_9, evE.eq_10, evE.eq_11, evE.eq_12, evE.eq_13, evE.eq_14, evE.eq_15, evE.eq_16, evE.eq_17, evE.eq_18, evE.eq_19, evE.eq_20, evE.eq_24, evE.eq_25, evE.eq_26, evE.eq_27, evEs, ok_bnd, List.getElem?_cons_zero, List.getElem?_cons_succ, ok_ret, peek_val, asP_val, ok_some, Option.map_some, idx_lst, idx_tup, at_0, at_1, at_2, cmp_gt, cmp_ge, cmp_lt, cmp_le, tru_bl, bin_add, bin_sub, blt_int, blt_intb, peeks_nil, peeks_cons, List.set_cons_zero, List.set_cons_succ, lv_val, set_slot, vals_nil, vals_cons, ok_ok, cell_lst, cell_dct, Ex.fresh, if_true, List.length_cons, List.length_nil, Nat.reduceAdd, Nat.reduceLT, Nat.reduceSub, Nat.zero_add, peek_lst hk.top, of_app]
  refine map_pat (g := fun x => .tup [fst0 x, .int 7, at1 x]) (xs := ps8) rfl ⟨rfl, rfl⟩ (by omega) (fun x hx => ?_) ?_
  · obtain ⟨a, rfl, ha⟩ := hp8 x hx
    refine ⟨_, rfl, ?_⟩
    show Ok (evE _ _ [_, _, _, _, _, _, some (.val a), _, some (.val (.tup [v])), _, _, _, _, _, _, _, _] _) _
    simp only [List.map_cons, List.map_nil, List.cons_append, List.nil_append, List.replicate, evSs, evS, evE.eq_1, evE.eq_2, evE.eq_3, evE.eq_4, evE.eq_5, evE.eq_6, evE.eq_7, evE.eq_8, evE.eq_9, evE.eq_10, evE.eq_11, evE.eq_12, evE.eq_13, evE.eq_14, evE.eq_15, evE.eq_16, evE.eq_17, evE.eq_18, evE.eq_19, evE.eq_20, evE.eq_24, evE.eq_25, evE.eq_26, evE.eq_27, evEs, ok_bnd, List.getElem?_cons_zero, List.getElem?_cons_succ, ok_ret, peek_val, asP_val, ok_some, Option.map_some, idx_lst, idx_tup, at_0, at_1, at_2, cmp_gt, cmp_ge, cmp_lt, cmp_le, tru_bl, bin_add, bin_sub, blt_int, blt_intb, peeks_nil, peeks_cons, List.set_cons_zero, List.set_cons_succ, lv_val, set_slot, vals_nil, vals_cons, ok_ok, cell_lst, cell_dct, Ex.fresh, if_true, List.length_cons, List.length_nil, Nat.reduceAdd, Nat.reduceLT, Nat.reduceSub, Nat.zero_add]
    exact ⟨rfl, trivial⟩
  have h14 : Th 400 12 (.tup (ps8.map fun x => .tup [fst0 x, .int 7, at1 x])) := (Th.tup (c := 400) 2 _ (by rw [List.length_map]; omega) fun x hx => by
    (obtain ⟨y, hy, rfl⟩ := List.mem_map.mp hx)
    obtain ⟨a, rfl, ha⟩ := hp8 y hy
    exact th_thr (ha.mono (Nat.le_refl _) (by decide)) (.int _ _ (by decide +kernel)) h12 (by decide)).mono (Nat.le_refl _) (by decide)
  simp only [List.map_cons, List.map_nil, List.cons_append, List.nil_append, List.replicate, evSs, evS, evE.eq_1, evE.eq_2, evE.eq_3, evE.eq_4, evE.eq_5, evE.eq_6, evE.eq_7, evE.eq_8, evE.eq_9, evE.eq_10, evE.eq_11, evE.eq_12, evE.eq_13, evE.eq_14, evE.eq_15, evE.eq_16, evE.eq_17, evE.eq_18, evE.eq_19, evE.eq_20, evE.eq_24, evE.eq_25, evE.eq_26, evE.eq_27, evEs, ok_bnd, List.getElem?_cons_zero, List.getElem?_cons_succ, ok_ret, peek_val, asP_val, ok_some, Option.map_some, idx_lst, idx_tup, at_0, at_1, at_2, cmp_gt, cmp_ge, cmp_lt, cmp_le, tru_bl, bin_add, bin_sub, blt_int, blt_intb, peeks_nil, peeks_cons, List.set_cons_zero, List.set_cons_succ, lv_val, set_slot, vals_nil, vals_cons, ok_ok, cell_lst, cell_dct, Ex.fresh, if_true, List.length_cons, List.length_nil, Nat.reduceAdd, Nat.reduceLT, Nat.reduceSub, Nat.zero_add, blt_tupl]
  generalize P.tup (ps8.map fun x => .tup [fst0 x, .int 7, at1 x]) = p14 at h14 ⊢
  rw [app_cell hk.top (by omega)]
  have hk := hk.set (M4 ++ [p14])
  have hL : ∀ x ∈ M4 ++ [p14], Th 400 12 x := th_app hL fun x hx => by
    rw [List.mem_singleton.mp hx]
    exact h14
  generalize M4 ++ [p14] = M5 at hk hL ⊢
  generalize v4.set m4 (Cell.lst M5) = v5 at hk ⊢
  unfold w13
  have o : ([some (.val (.scr (ns.map .int))), some (.val (.int (j : Nat))), some (.ref n), some (.val (.lst nms)), some (.val (.tup L4)), some (.val (.tup L5)), none, none, none, some (.val (.int low)), some (.val p10), none, some (.val (.tup [v])), some (.val (.tup ps8)), none, none, z] : Env).any (isRef m4) = false := by
    have : isRef m4 (some (Sl.ref n)) = false := by
      show (n == m4) = false
      rw [beq_eq_false_iff_ne]
      have := hk.lt
      omega
    simp only [List.any_cons, List.any_nil, this, hz m4]
    rfl
  simp only [List.map_cons, List.map_nil, List.cons_append, List.nil_append, List.replicate, evSs, evS, evE.eq_1, evE.eq_2, evE.eq_3, evE.eq_4, evE.eq_5, evE.eq_6, evE.eq_7, evE.eq_8, evE.eq_9, evE.eq_10, evE.eq_11, evE.eq_12, evE.eq_13, evE.eq_14, evE.eq_15, evE.eq_16, evE.eq_17, evE.eq_18, evE.eq_19, evE.eq_20, evE.eq_24, evE.eq_25, evE.eq_26, evE.eq_27, evEs, ok_bnd, List.getElem?_cons_zero, List.getElem?_cons_succ, ok_ret, peek_val, asP_val, ok_some, Option.map_some, idx_lst, idx_tup, at_0, at_1, at_2, cmp_gt, cmp_ge, cmp_lt, cmp_le, tru_bl, bin_add, bin_sub, blt_int, blt_intb, peeks_nil, peeks_cons, List.set_cons_zero, List.set_cons_succ, lv_val, set_slot, vals_nil, vals_cons, ok_ok, cell_lst, cell_dct, Ex.fresh, if_true, List.length_cons, List.length_nil, Nat.reduceAdd, Nat.reduceLT, Nat.reduceSub, Nat.zero_add]
  rw [frz_last (i := 15) (env := [some (.val (.scr (ns.map .int))), some (.val (.int (j : Nat))), some (.ref n), some (.val (.lst nms)), some (.val (.tup L4)), some (.val (.tup L5)), none, none, none, some (.val (.int low)), some (.val p10), none, some (.val (.tup [v])), some (.val (.tup ps8)), none, some (.ref m4), z]) hk hb13 rfl o]
  simp only [List.map_cons, List.map_nil, List.cons_append, List.nil_append, List.replicate, evSs, evS, evE.eq_1, evE.eq_2, evE.eq_3, evE.eq_4, evE.eq_5, evE.eq_6, evE.eq_7, evE.eq_8, evE.eq_9, evE.eq_10, evE.eq_11, evE.eq_12, evE.eq_13, evE.eq_14, evE.eq_15, evE.eq_16, evE.eq_17, evE.eq_18, evE.eq_19, evE.eq_20, evE.eq_24, evE.eq_25, evE.eq_26, evE.eq_27, evEs, ok_bnd, List.getElem?_cons_zero, List.getElem?_cons_succ, ok_ret, peek_val, asP_val, ok_some, Option.map_some, idx_lst, idx_tup, at_0, at_1, at_2, cmp_gt, cmp_ge, cmp_lt, cmp_le, tru_bl, bin_add, bin_sub, blt_int, blt_intb, peeks_nil, peeks_cons, List.set_cons_zero, List.set_cons_succ, lv_val, set_slot, vals_nil, vals_cons, ok_ok, cell_lst, cell_dct, Ex.fresh, if_true, List.length_cons, List.length_nil, Nat.reduceAdd, Nat.reduceLT, Nat.reduceSub, Nat.zero_add]
  refine (w14_ok (k := k) (c := 400) (d := 12) (by decide) hL hz).imp fun r t ⟨h1, h2, z', h3, h4⟩ => ?_
  subst h2
  refine ⟨h1, hk.all.take _, by rw [List.length_take, hk.len]; omega, _, _, _, _, _, _, _, _, _, z', h3, h4⟩
end K01

/-! Q1c: k01: the law. -/
namespace K01
open PySem (Str)
open Fy
theorem is_tt : cmpP .is (.bl true) (.bl true) = some true := rfl
set_option maxHeartbeats 2100000 in
theorem law_ok {k : Nat} {ns : List Int} (hl : ns.length ≤ 63) : Ok (run tab (k + 21) 21 [.val (.scr (ns.map .int))] []) fun v _ => v = .val (.bl true) := by
  refine ok_run (np := 1) (nn := 17) (b := b21) rfl rfl (by decide) ?_
  rw [b20_eq]
  have hlen : (ns.map P.int).length = ns.length := List.length_map ..
  have e1 : bltP .min2 [.int 30, .int (ns.length : Nat)] = some (.int (min 30 ns.length : Nat)) := by
    show some (P.int (if ((ns.length : Nat) : Int) < 30 then _ else _)) = _
    split <;> (congr 2; omega)
  have e2 : bltP .max2 [.int 1, .int (min 30 ns.length : Nat)] = some (.int (max 1 (min 30 ns.length) : Nat)) := by
    show some (P.int (if ((min 30 ns.length : Nat) : Int) > 1 then _ else _)) = _
    split <;> (congr 2; omega)
  generalize hN : max 1 (min 30 ns.length) = N at e2
  have hN : N ≤ 30 := by omega
  simp only [List.map_cons, List.map_nil, List.cons_append, List.nil_append, List.replicate, evSs, evS, evE.eq_1, evE.eq_2, evE.eq_3, evE.eq_4, evE.eq_5, evE.eq_6, evE.eq_7, evE.eq_8, evE.eq_9, evE.eq_10, evE.eq_11, evE.eq_12, evE.eq_13, evE.eq_14, evE.eq_15, evE.eq_16, evE.eq_17, evE.eq_18, evE.eq_19, evE.eq_20, evE.eq_24, evE.eq_25, evE.eq_26, evE.eq_27, evEs, ok_bnd, List.getElem?_cons_zero, List.getElem?_cons_succ, ok_ret, peek_val, asP_val, ok_some, Option.map_some, idx_lst, idx_tup, at_0, at_1, at_2, cmp_gt, cmp_ge, cmp_lt, cmp_le, tru_bl, bin_add, bin_sub, blt_int, blt_intb, peeks_nil, peeks_cons, List.set_cons_zero, List.set_cons_succ, lv_val, set_slot, vals_nil, vals_cons, ok_ok, cell_lst, cell_dct, Ex.fresh, if_true, List.length_cons, List.length_nil, Nat.reduceAdd, Nat.reduceLT, Nat.reduceSub, Nat.zero_add, evI, len_scr, hlen, e1, e2]
  rw [if_pos (by omega), ok_ret, Int.toNat_natCast]
  refine loop_ok (fun j env t => AllL t ∧ ∃ e1 e2 e3 e4 e5 e9 e10 e12 e13 e15 z, env = [some (.val (.scr (ns.map .int))), e1, e2, e3, e4, e5, none, none, none, e9, e10, none, e12, e13, none, e15, z] ∧ ∀ n, isRef n z = false) ⟨.nil, _, _, _, _, _, _, _, _, _, _, _, rfl, fun n => rfl⟩ (fun j x env t hj ⟨h1, e1, e2, e3, e4, e5, e9, e10, e12, e13, e15, z, h2, h3⟩ => ?_) fun env t ⟨h1, e1, e2, e3, e4, e5, e9, e10, e12, e13, e15, z, h2, h3⟩ => ?_
  · subst h2
    have lj := lt_of_some hj
    rw [List.length_map, List.length_range] at lj
    have hx : x = .int (j : Nat) := by
      rw [List.getElem?_map, List.getElem?_range lj] at hj
      exact (Option.some.inj hj).symm
    subst hx
    have eb : bindP (.nm 1) (.int (j : Nat)) [some (.val (.scr (ns.map .int))), e1, e2, e3, e4, e5, none, none, none, e9, e10, none, e12, e13, none, e15, z] = some [some (.val (.scr (ns.map .int))), some (.val (.int (j : Nat))), e2, e3, e4, e5, none, none, none, e9, e10, none, e12, e13, none, e15, z] := rfl
    rw [eb]
    refine (w0_ok (k := k) (j := j) (by omega) hl h1 (Nat.zero_le _) h3).imp fun r t ⟨h4, h5, _, f2, f3, f4, f5, f9, f10, f12, f13, f15, z', h6, h7⟩ => ?_
    rw [h4]
    exact ⟨h5, _, _, _, _, _, _, _, _, _, _, _, h6, h7⟩
  · subst h2
    unfold fin20
    have ee : Th 16 3 (.tup [.tup [.str "p", .int 5, .tup [.int 1, .int 2]], .tup [.str "q", .int 5, .tup [.int 1, .int 2]], .tup [.str "r", .int 6, .tup [.int 1, .int 2]]]) := th_of (by decide +kernel)
    have e3 : wdP (.tup [.tup [.str "p", .int 5, .tup [.int 1, .int 2]], .tup [.str "q", .int 5, .tup [.int 1, .int 2]], .tup [.str "r", .int 6, .tup [.int 1, .int 2]]]) = true := by decide +kernel
    have e4 : mkP (.tup []) = true := by decide +kernel
    simp only [List.map_cons, List.map_nil, List.cons_append, List.nil_append, List.replicate, evSs, evS, evE.eq_1, evE.eq_2, evE.eq_3, evE.eq_4, evE.eq_5, evE.eq_6, evE.eq_7, evE.eq_8, evE.eq_9, evE.eq_10, evE.eq_11, evE.eq_12, evE.eq_13, evE.eq_14, evE.eq_15, evE.eq_16, evE.eq_17, evE.eq_18, evE.eq_19, evE.eq_20, evE.eq_24, evE.eq_25, evE.eq_26, evE.eq_27, evEs, ok_bnd, List.getElem?_cons_zero, List.getElem?_cons_succ, ok_ret, peek_val, asP_val, ok_some, Option.map_some, idx_lst, idx_tup, at_0, at_1, at_2, cmp_gt, cmp_ge, cmp_lt, cmp_le, tru_bl, bin_add, bin_sub, blt_int, blt_intb, peeks_nil, peeks_cons, List.set_cons_zero, List.set_cons_succ, lv_val, set_slot, vals_nil, vals_cons, ok_ok, cell_lst, cell_dct, Ex.fresh, if_true, List.length_cons, List.length_nil, Nat.reduceAdd, Nat.reduceLT, Nat.reduceSub, Nat.zero_add]
    refine world_ok (k := k + 16) t_world t_triple t_name t_cells t_whole t_asc rfl rfl ee (by decide) ?_
    rw [e3]
    simp only [List.map_cons, List.map_nil, List.cons_append, List.nil_append, List.replicate, evSs, evS, evE.eq_1, evE.eq_2, evE.eq_3, evE.eq_4, evE.eq_5, evE.eq_6, evE.eq_7, evE.eq_8, evE.eq_9, evE.eq_10, evE.eq_11, evE.eq_12, evE.eq_13, evE.eq_14, evE.eq_15, evE.eq_16, evE.eq_17, evE.eq_18, evE.eq_19, evE.eq_20, evE.eq_24, evE.eq_25, evE.eq_26, evE.eq_27, evEs, ok_bnd, List.getElem?_cons_zero, List.getElem?_cons_succ, ok_ret, peek_val, asP_val, ok_some, Option.map_some, idx_lst, idx_tup, at_0, at_1, at_2, cmp_gt, cmp_ge, cmp_lt, cmp_le, tru_bl, bin_add, bin_sub, blt_int, blt_intb, peeks_nil, peeks_cons, List.set_cons_zero, List.set_cons_succ, lv_val, set_slot, vals_nil, vals_cons, ok_ok, cell_lst, cell_dct, Ex.fresh, if_true, List.length_cons, List.length_nil, Nat.reduceAdd, Nat.reduceLT, Nat.reduceSub, Nat.zero_add, is_tt, and_cons, and_nil]
    refine marking_ok (k := k + 17) t_marking t_name t_cells t_whole t_asc rfl rfl (cc := 16) (d := 1) (.tup _ _ (Nat.zero_le _) fun x hx => nomatch hx) (by decide) ?_
    rw [e4]
    simp only [List.map_cons, List.map_nil, List.cons_append, List.nil_append, List.replicate, evSs, evS, evE.eq_1, evE.eq_2, evE.eq_3, evE.eq_4, evE.eq_5, evE.eq_6, evE.eq_7, evE.eq_8, evE.eq_9, evE.eq_10, evE.eq_11, evE.eq_12, evE.eq_13, evE.eq_14, evE.eq_15, evE.eq_16, evE.eq_17, evE.eq_18, evE.eq_19, evE.eq_20, evE.eq_24, evE.eq_25, evE.eq_26, evE.eq_27, evEs, ok_bnd, List.getElem?_cons_zero, List.getElem?_cons_succ, ok_ret, peek_val, asP_val, ok_some, Option.map_some, idx_lst, idx_tup, at_0, at_1, at_2, cmp_gt, cmp_ge, cmp_lt, cmp_le, tru_bl, bin_add, bin_sub, blt_int, blt_intb, peeks_nil, peeks_cons, List.set_cons_zero, List.set_cons_succ, lv_val, set_slot, vals_nil, vals_cons, ok_ok, cell_lst, cell_dct, Ex.fresh, if_true, List.length_cons, List.length_nil, Nat.reduceAdd, Nat.reduceLT, Nat.reduceSub, Nat.zero_add, is_tt]
theorem law_run {k : Nat} (ns : List Int) (hl : ns.length ≤ 63) : ∃ st, run tab (k + 21) 21 [.val (.scr (ns.map P.int))] [] = .ok (.val (.bl true)) st := by
  obtain ⟨v, st, e, rfl⟩ := (law_ok (k := k) hl).out
  exact ⟨st, e⟩
end K01

namespace K01
open PySem
open PySem.Spec
open PyProof.Rows
open L2
open Fy
/-! ### the text: the defs by number -/
def tp (i : Nat) : Stmt := PySem.Challenge.pw_falseyes_k01_what_is_a_marking_and_a_wor.main.body.getD i (.Pass ⟨0, 0, 0, 0⟩)
def names : List Str := ["is_integer", "is_name", "ascends", "are_cells", "is_marking", "is_triple", "is_world", "_law_draws", "_law_draw", "_law_of", "_law_world", "_law_is_cells", "_law_is_whole", "_law_is_name", "_law_is_world", "_law_is_marking", "_law_thing", "_law_other_leaf", "_law_otherwise", "_law_spoilt", "_law_truly", "law"]
def cons : List Str := ["LETTERS", "GREATEST"]
def kits : List Str := ["abs", "all", "bool", "int", "isinstance", "len", "list", "max", "min", "range", "set", "sorted", "str", "tuple", "zip"]
/-- is_integer(value) : 0 value -/
def d0 : DefT := ⟨"is_integer", tp 3, ["value"], ["value"]⟩
/-- is_name(value) : 0 value, 1 sign -/
def d1 : DefT := ⟨"is_name", tp 4, ["value", "sign"], ["value"]⟩
/-- ascends(values) : 0 values, 1 one, 2 other -/
def d2 : DefT := ⟨"ascends", tp 5, ["values", "one", "other"], ["values"]⟩
/-- are_cells(value) : 0 value, 1 cell -/
def d3 : DefT := ⟨"are_cells", tp 6, ["value", "cell"], ["value"]⟩
/-- is_marking(value) : 0 value, 1 pair -/
def d4 : DefT := ⟨"is_marking", tp 7, ["value", "pair"], ["value"]⟩
/-- is_triple(value) : 0 value -/
def d5 : DefT := ⟨"is_triple", tp 8, ["value"], ["value"]⟩
/-- is_world(value) : 0 value, 1 triple, 2 cells, 3 name, 4 key, 5 some -/
def d6 : DefT := ⟨"is_world", tp 9, ["value", "triple", "cells", "name", "key", "some"], ["value"]⟩
/-- _law_draws(_law_script, _law_k) : 0 _law_script, 1 _law_k, 2 _law_cell, 3 _law_blend -/
def d7 : DefT := ⟨"_law_draws", tp 11, ["_law_script", "_law_k", "_law_cell", "_law_blend"], ["_law_script", "_law_k"]⟩
/-- _law_draw(_law_draws_here, _law_many) : 0 _law_draws_here, 1 _law_many, 2 _law_found, 3 _law_wide, 4 _law_more -/
def d8 : DefT := ⟨"_law_draw", tp 12, ["_law_draws_here", "_law_many", "_law_found", "_law_wide", "_law_more"], ["_law_draws_here", "_law_many"]⟩
/-- _law_of(_law_draws_here, _law_some) : 0 _law_draws_here, 1 _law_some -/
def d9 : DefT := ⟨"_law_of", tp 13, ["_law_draws_here", "_law_some"], ["_law_draws_here", "_law_some"]⟩
/-- _law_world(_law_draws_here, _law_names, _law_cells_so) : 0 _law_draws_here, 1 _law_names, 2 _law_cells_so, 3 _law_table, 4 _law_key, 5 _law_here, 6 _law_cell, 7 _law_found, 8 _law_name -/
def d10 : DefT := ⟨"_law_world", tp 14, ["_law_draws_here", "_law_names", "_law_cells_so", "_law_table", "_law_key", "_law_here", "_law_cell", "_law_found", "_law_name"], ["_law_draws_here", "_law_names", "_law_cells_so"]⟩
/-- _law_is_cells(_law_thing_here) : 0 _law_thing_here, 1 _law_cell -/
def d11 : DefT := ⟨"_law_is_cells", tp 15, ["_law_thing_here", "_law_cell"], ["_law_thing_here"]⟩
/-- _law_is_whole(_law_thing_here) : 0 _law_thing_here -/
def d12 : DefT := ⟨"_law_is_whole", tp 16, ["_law_thing_here"], ["_law_thing_here"]⟩
/-- _law_is_name(_law_thing_here) : 0 _law_thing_here, 1 _law_sign -/
def d13 : DefT := ⟨"_law_is_name", tp 17, ["_law_thing_here", "_law_sign"], ["_law_thing_here"]⟩
/-- _law_is_world(_law_thing_here) : 0 _law_thing_here, 1 _law_names, 2 _law_table, 3 _law_triple -/
def d14 : DefT := ⟨"_law_is_world", tp 18, ["_law_thing_here", "_law_names", "_law_table", "_law_triple"], ["_law_thing_here"]⟩
/-- _law_is_marking(_law_thing_here) : 0 _law_thing_here, 1 _law_names, 2 _law_pair -/
def d15 : DefT := ⟨"_law_is_marking", tp 19, ["_law_thing_here", "_law_names", "_law_pair"], ["_law_thing_here"]⟩
/-- _law_thing(_law_draws_here, _law_deep) : 0 _law_draws_here, 1 _law_deep, 2 _law_way, 3 _law_some, 4 _law_parts, 5 _law_turn -/
def d16 : DefT := ⟨"_law_thing", tp 20, ["_law_draws_here", "_law_deep", "_law_way", "_law_some", "_law_parts", "_law_turn"], ["_law_draws_here", "_law_deep"]⟩
/-- _law_other_leaf(_law_draws_here, _law_thing_here) : 0 _law_draws_here, 1 _law_thing_here, 2 _law_words, 3 _law_some -/
def d17 : DefT := ⟨"_law_other_leaf", tp 21, ["_law_draws_here", "_law_thing_here", "_law_words", "_law_some"], ["_law_draws_here", "_law_thing_here"]⟩
/-- _law_otherwise(_law_draws_here, _law_thing_here, _law_deep) : 0 _law_draws_here, 1 _law_thing_here, 2 _law_deep, 3 _law_parts, 4 _law_place, 5 _law_way -/
def d18 : DefT := ⟨"_law_otherwise", tp 22, ["_law_draws_here", "_law_thing_here", "_law_deep", "_law_parts", "_law_place", "_law_way"], ["_law_draws_here", "_law_thing_here", "_law_deep"]⟩
/-- _law_spoilt(_law_draws_here, _law_thing_here, _law_deep) : 0 _law_draws_here, 1 _law_thing_here, 2 _law_deep, 3 _law_once -/
def d19 : DefT := ⟨"_law_spoilt", tp 23, ["_law_draws_here", "_law_thing_here", "_law_deep", "_law_once"], ["_law_draws_here", "_law_thing_here", "_law_deep"]⟩
/-- _law_truly(_law_found, _law_due) : 0 _law_found, 1 _law_due -/
def d20 : DefT := ⟨"_law_truly", tp 24, ["_law_found", "_law_due"], ["_law_found", "_law_due"]⟩
/-- law(_law_script) : 0 _law_script, 1 _law_k, 2 _law_draws_here, 3 _law_names, 4 _law_good, 5 _law_marks_so, 6 _law_name, 7 _law_key, 8 _law_cells, 9 _law_low, 10 _law_long, 11 _law_cell, 12 _law_edge, 13 _law_many, 14 _law_sign, 15 _law_things, 16 _law_thing_here -/
def d21 : DefT := ⟨"law", tp 25, ["_law_script", "_law_k", "_law_draws_here", "_law_names", "_law_good", "_law_marks_so", "_law_name", "_law_key", "_law_cells", "_law_low", "_law_long", "_law_cell", "_law_edge", "_law_many", "_law_sign", "_law_things", "_law_thing_here"], ["_law_script"]⟩
def dts : List DefT := [d0, d1, d2, d3, d4, d5, d6, d7, d8, d9, d10, d11, d12, d13, d14, d15, d16, d17, d18, d19, d20, d21]
theorem s0 : DefS d0 := ⟨⟨rfl, rfl, rfl, by decide +kernel, rfl, by decide +kernel, by decide +kernel⟩, fun _ _ _ _ _ _ us hl => match us, hl with | [_], _ => rfl⟩
theorem s1 : DefS d1 := ⟨⟨rfl, rfl, rfl, by decide +kernel, rfl, by decide +kernel, by decide +kernel⟩, fun _ _ _ _ _ _ us hl => match us, hl with | [_], _ => rfl⟩
theorem s2 : DefS d2 := ⟨⟨rfl, rfl, rfl, by decide +kernel, rfl, by decide +kernel, by decide +kernel⟩, fun _ _ _ _ _ _ us hl => match us, hl with | [_], _ => rfl⟩
theorem s3 : DefS d3 := ⟨⟨rfl, rfl, rfl, by decide +kernel, rfl, by decide +kernel, by decide +kernel⟩, fun _ _ _ _ _ _ us hl => match us, hl with | [_], _ => rfl⟩
theorem s4 : DefS d4 := ⟨⟨rfl, rfl, rfl, by decide +kernel, rfl, by decide +kernel, by decide +kernel⟩, fun _ _ _ _ _ _ us hl => match us, hl with | [_], _ => rfl⟩
theorem s5 : DefS d5 := ⟨⟨rfl, rfl, rfl, by decide +kernel, rfl, by decide +kernel, by decide +kernel⟩, fun _ _ _ _ _ _ us hl => match us, hl with | [_], _ => rfl⟩
theorem s6 : DefS d6 := ⟨⟨rfl, rfl, rfl, by decide +kernel, rfl, by decide +kernel, by decide +kernel⟩, fun _ _ _ _ _ _ us hl => match us, hl with | [_], _ => rfl⟩
theorem s7 : DefS d7 := ⟨⟨rfl, rfl, rfl, by decide +kernel, rfl, by decide +kernel, by decide +kernel⟩, fun _ _ _ _ _ _ us hl => match us, hl with | [_, _], _ => rfl⟩
theorem s8 : DefS d8 := ⟨⟨rfl, rfl, rfl, by decide +kernel, rfl, by decide +kernel, by decide +kernel⟩, fun _ _ _ _ _ _ us hl => match us, hl with | [_, _], _ => rfl⟩
theorem s9 : DefS d9 := ⟨⟨rfl, rfl, rfl, by decide +kernel, rfl, by decide +kernel, by decide +kernel⟩, fun _ _ _ _ _ _ us hl => match us, hl with | [_, _], _ => rfl⟩
theorem s10 : DefS d10 := ⟨⟨rfl, rfl, rfl, by decide +kernel, rfl, by decide +kernel, by decide +kernel⟩, fun _ _ _ _ _ _ us hl => match us, hl with | [_, _, _], _ => rfl⟩
theorem s11 : DefS d11 := ⟨⟨rfl, rfl, rfl, by decide +kernel, rfl, by decide +kernel, by decide +kernel⟩, fun _ _ _ _ _ _ us hl => match us, hl with | [_], _ => rfl⟩
theorem s12 : DefS d12 := ⟨⟨rfl, rfl, rfl, by decide +kernel, rfl, by decide +kernel, by decide +kernel⟩, fun _ _ _ _ _ _ us hl => match us, hl with | [_], _ => rfl⟩
theorem s13 : DefS d13 := ⟨⟨rfl, rfl, rfl, by decide +kernel, rfl, by decide +kernel, by decide +kernel⟩, fun _ _ _ _ _ _ us hl => match us, hl with | [_], _ => rfl⟩
theorem s14 : DefS d14 := ⟨⟨rfl, rfl, rfl, by decide +kernel, rfl, by decide +kernel, by decide +kernel⟩, fun _ _ _ _ _ _ us hl => match us, hl with | [_], _ => rfl⟩
theorem s15 : DefS d15 := ⟨⟨rfl, rfl, rfl, by decide +kernel, rfl, by decide +kernel, by decide +kernel⟩, fun _ _ _ _ _ _ us hl => match us, hl with | [_], _ => rfl⟩
theorem s16 : DefS d16 := ⟨⟨rfl, rfl, rfl, by decide +kernel, rfl, by decide +kernel, by decide +kernel⟩, fun _ _ _ _ _ _ us hl => match us, hl with | [_, _], _ => rfl⟩
theorem s17 : DefS d17 := ⟨⟨rfl, rfl, rfl, by decide +kernel, rfl, by decide +kernel, by decide +kernel⟩, fun _ _ _ _ _ _ us hl => match us, hl with | [_, _], _ => rfl⟩
theorem s18 : DefS d18 := ⟨⟨rfl, rfl, rfl, by decide +kernel, rfl, by decide +kernel, by decide +kernel⟩, fun _ _ _ _ _ _ us hl => match us, hl with | [_, _, _], _ => rfl⟩
theorem s19 : DefS d19 := ⟨⟨rfl, rfl, rfl, by decide +kernel, rfl, by decide +kernel, by decide +kernel⟩, fun _ _ _ _ _ _ us hl => match us, hl with | [_, _, _], _ => rfl⟩
theorem s20 : DefS d20 := ⟨⟨rfl, rfl, rfl, by decide +kernel, rfl, by decide +kernel, by decide +kernel⟩, fun _ _ _ _ _ _ us hl => match us, hl with | [_, _], _ => rfl⟩
theorem s21 : DefS d21 := ⟨⟨rfl, rfl, rfl, by decide +kernel, rfl, by decide +kernel, by decide +kernel⟩, fun _ _ _ _ _ _ us hl => match us, hl with | [_], _ => rfl⟩
theorem sts : AllD dts := ⟨s0, s1, s2, s3, s4, s5, s6, s7, s8, s9, s10, s11, s12, s13, s14, s15, s16, s17, s18, s19, s20, s21, trivial⟩
theorem agr : agAll names cons kits dts tab.fns = true := by decide +kernel

end K01
open PySem
open PySem.W
open PyProof.Rows
set_option maxHeartbeats 0 in
theorem PySem.Challenge.cw_falseyes_k01_what_is_a_marking_and_a_wor_holds : PySem.Challenge.rw_falseyes_k01_what_is_a_marking_and_a_wor.Holds := by
  w_on
  o_law
  k_head
  (case hw => w_witness2)
  k_fill
  refine Fy.law_end (l := PySem.Challenge.rw_falseyes_k01_what_is_a_marking_and_a_wor) (T := K01.tab) (k := 30) (i := 21) (ds := K01.dts) (gls := K01.cons) (blts := K01.kits) (x := "_law_script") rfl rfl ⟨rfl, by decide, by decide⟩ (fun w h Y => PySem.W.kIn_of Y) (fun w => ?hf) K01.sts K01.agr rfl rfl rfl rfl rfl (fun ns h _ => K01.law_run (k := 9) ns h)
  case hf =>
    refine' ⟨_, (.cons (Fy.got (d := K01.d0) ?a0 ?l0 ?c0 ?k0) (.cons (Fy.got (d := K01.d1) ?a1 ?l1 ?c1 ?k1) (.cons (Fy.got (d := K01.d2) ?a2 ?l2 ?c2 ?k2) (.cons (Fy.got (d := K01.d3) ?a3 ?l3 ?c3 ?k3) (.cons (Fy.got (d := K01.d4) ?a4 ?l4 ?c4 ?k4) (.cons (Fy.got (d := K01.d5) ?a5 ?l5 ?c5 ?k5) (.cons (Fy.got (d := K01.d6) ?a6 ?l6 ?c6 ?k6) (.cons (Fy.got (d := K01.d7) ?a7 ?l7 ?c7 ?k7) (.cons (Fy.got (d := K01.d8) ?a8 ?l8 ?c8 ?k8) (.cons (Fy.got (d := K01.d9) ?a9 ?l9 ?c9 ?k9) (.cons (Fy.got (d := K01.d10) ?a10 ?l10 ?c10 ?k10) (.cons (Fy.got (d := K01.d11) ?a11 ?l11 ?c11 ?k11) (.cons (Fy.got (d := K01.d12) ?a12 ?l12 ?c12 ?k12) (.cons (Fy.got (d := K01.d13) ?a13 ?l13 ?c13 ?k13) (.cons (Fy.got (d := K01.d14) ?a14 ?l14 ?c14 ?k14) (.cons (Fy.got (d := K01.d15) ?a15 ?l15 ?c15 ?k15) (.cons (Fy.got (d := K01.d16) ?a16 ?l16 ?c16 ?k16) (.cons (Fy.got (d := K01.d17) ?a17 ?l17 ?c17 ?k17) (.cons (Fy.got (d := K01.d18) ?a18 ?l18 ?c18 ?k18) (.cons (Fy.got (d := K01.d19) ?a19 ?l19 ?c19 ?k19) (.cons (Fy.got (d := K01.d20) ?a20 ?l20 ?c20 ?k20) (.cons (Fy.got (d := K01.d21) ?a21 ?l21 ?c21 ?k21) .nil)))))))))))))))))))))), (.cons ?z0 (.cons ?z1 (.cons ?z2 (.cons ?z3 (.cons ?z4 (.cons ?z5 (.cons ?z6 (.cons ?z7 (.cons ?z8 (.cons ?z9 (.cons ?z10 (.cons ?z11 (.cons ?z12 (.cons ?z13 (.cons ?z14 .nil))))))))))))))), (.cons (.str ?vg0) (.cons (.int ?vg1) .nil))⟩
    (case a0 => k_is)
    (case l0 => k_is)
    (case c0 => k_is)
    (case k0 => k_is)
    (case a1 => k_is)
    (case l1 => k_is)
    (case c1 => k_is)
    (case k1 => k_is)
    (case a2 => k_is)
    (case l2 => k_is)
    (case c2 => k_is)
    (case k2 => k_is)
    (case a3 => k_is)
    (case l3 => k_is)
    (case c3 => k_is)
    (case k3 => k_is)
    (case a4 => k_is)
    (case l4 => k_is)
    (case c4 => k_is)
    (case k4 => k_is)
    (case a5 => k_is)
    (case l5 => k_is)
    (case c5 => k_is)
    (case k5 => k_is)
    (case a6 => k_is)
    (case l6 => k_is)
    (case c6 => k_is)
    (case k6 => k_is)
    (case a7 => k_is)
    (case l7 => k_is)
    (case c7 => k_is)
    (case k7 => k_is)
    (case a8 => k_is)
    (case l8 => k_is)
    (case c8 => k_is)
    (case k8 => k_is)
    (case a9 => k_is)
    (case l9 => k_is)
    (case c9 => k_is)
    (case k9 => k_is)
    (case a10 => k_is)
    (case l10 => k_is)
    (case c10 => k_is)
    (case k10 => k_is)
    (case a11 => k_is)
    (case l11 => k_is)
    (case c11 => k_is)
    (case k11 => k_is)
    (case a12 => k_is)
    (case l12 => k_is)
    (case c12 => k_is)
    (case k12 => k_is)
    (case a13 => k_is)
    (case l13 => k_is)
    (case c13 => k_is)
    (case k13 => k_is)
    (case a14 => k_is)
    (case l14 => k_is)
    (case c14 => k_is)
    (case k14 => k_is)
    (case a15 => k_is)
    (case l15 => k_is)
    (case c15 => k_is)
    (case k15 => k_is)
    (case a16 => k_is)
    (case l16 => k_is)
    (case c16 => k_is)
    (case k16 => k_is)
    (case a17 => k_is)
    (case l17 => k_is)
    (case c17 => k_is)
    (case k17 => k_is)
    (case a18 => k_is)
    (case l18 => k_is)
    (case c18 => k_is)
    (case k18 => k_is)
    (case a19 => k_is)
    (case l19 => k_is)
    (case c19 => k_is)
    (case k19 => k_is)
    (case a20 => k_is)
    (case l20 => k_is)
    (case c20 => k_is)
    (case k20 => k_is)
    (case a21 => k_is)
    (case l21 => k_is)
    (case c21 => k_is)
    (case k21 => k_is)
    (case z0 => k_is)
    (case z1 => k_is)
    (case z2 => k_is)
    (case z3 => k_is)
    (case z4 => k_is)
    (case z5 => k_is)
    (case z6 => k_is)
    (case z7 => k_is)
    (case z8 => k_is)
    (case z9 => k_is)
    (case z10 => k_is)
    (case z11 => k_is)
    (case z12 => k_is)
    (case z13 => k_is)
    (case z14 => k_is)
    (case vg0 => k_is)
    (case vg1 => k_is)


