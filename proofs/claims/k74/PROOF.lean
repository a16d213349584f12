import PyProof.Rows.All
import Wide.All
import OpenK.AllK
import Wide.FinOn
import HandS.ForMost
import HandS.ForExc
import HandS.Wide
import HandS.Gcd
import HandS.IsInst
import HandS.TupAny
import HandS.TupMul
import HandS.Deep
import HandS.Zip
import HandS.OwnEq
import HandS.TryMany
import HandS.TryOnly
import HandS.Style
import HandS.Flow
import HandS.RaiseMore
import HandS.Defaults
import HandS.ExcInit
import HandS.SuiteRaise
import HandS.TupSets
import HandS.More
import HandS.Iter
import HandS.Walk
import HandS.WordsDict
import HandS.DictComp
import HandS.SortInts
import HandS.Conv
import HandS.SlotsOwn
import HandS.Words
import HandS.Ends
import HandS.HeadHook2
import KE.KStateDown
import Lean
import HandS.Base
import HandS.Call
import HandS.WordsExc
import HandS.Head0
import HandS.Head1
import HandS.Head2
import HandS.Head3
import HandS.HeadEnd
import HandS.HeadHook1
import PySem.Challenge.RW_seldomsteps_k74_whole_bounds_of_what_is
set_option Elab.async false
set_option linter.all false
set_option maxRecDepth 100000
set_option maxHeartbeats 8000000
/-! R1: a small language of pure values (D), its terms (E, S), and what they come to. -/
namespace R
open PySem L2

/-- a value, without places -/
inductive D where
  | non | bl (b : Bool) | int (i : Int) | str (x : Str)
  | tup (xs : List D) | lst (xs : List D)
  | dK (kvs : List (Key × D)) | dT (kvs : List (List Key × D))
  | ins (c : Nat) (fs : List D) | obj (n : Nat) | scr (xs : List D)
instance : Inhabited D := ⟨.non⟩
/-- what an expression gives, what stands in a slot: a value that nobody changes any more; a list, a dict of one's own (none: nothing else holds it; some i: the slot i holds it, here it is read) -/
inductive O where
  | fz (d : D) | ol (b : Option Nat) (xs : List D) | od (b : Option Nat) (kvs : List (Key × D)) | ot (b : Option Nat) (kvs : List (List Key × D))
instance : Inhabited O := ⟨.fz .non⟩
def O.d : O → D
  | .fz d => d
  | .ol _ xs => .lst xs
  | .od _ kvs => .dK kvs
  | .ot _ kvs => .dT kvs
/-- given away -/
def O.frz : O → Option D
  | .fz d => some d
  | .ol none xs => some (.lst xs)
  | .od none kvs => some (.dK kvs)
  | .ot none kvs => some (.dT kvs)
  | _ => none
/-- the slots from which it is borrowed -/
def O.bor : O → List Nat
  | .ol (some i) _ => [i]
  | .od (some i) _ => [i]
  | .ot (some i) _ => [i]
  | _ => []
/-- the slot i is read -/
def O.read (i : Nat) : O → O
  | .ol _ xs => .ol (some i) xs
  | .od _ kvs => .od (some i) kvs
  | .ot _ kvs => .ot (some i) kvs
  | o => o
/-- what is reached by reference: a dict, a list -/
inductive Co where
  | dk (kvs : List (Key × D)) | dt (kvs : List (List Key × D)) | ls (xs : List D)
/-- lk: it is walked, so nobody changes it -/
structure Cell where
  lk : Bool
  co : Co
instance : Inhabited Cell := ⟨false, .dk []⟩
abbrev Cells := List Cell
abbrev Sl := List (Option O)
inductive Out (α : Type) where
  | ok (a : α) | exc (c : Nat) (fs : List D) (k : Cells) | bad
instance {α : Type} : Inhabited (Out α) := ⟨.bad⟩
@[inline] def Out.bind {α β : Type} (m : Out α) (f : α → Out β) : Out β := match m with
  | .ok a => f a
  | .exc c fs k => .exc c fs k
  | .bad => .bad
instance : Monad Out where
  pure := Out.ok
  bind := Out.bind
@[inline] def opt {α : Type} : Option α → Out α
  | some a => .ok a
  | none => .bad

inductive Bop where
  | add | sub | mul | fdiv | mod | pow
  deriving DecidableEq
inductive Cop where
  | eq | ne | lt | le | gt | ge | is | isnt | in_ | notin
  deriving DecidableEq
inductive Ty where
  | int | bool | str | tuple | list | cls (c : Nat)
  deriving DecidableEq
inductive Blt where
  | len | all | any | tuple | list | repr | abs | int | max | min | gcd | sum | sorted | dict | str
  deriving DecidableEq
inductive Tg where
  | v (i : Nat) | t (is : List Nat)
  deriving DecidableEq
/-- expressions, lists of them, walks -/
inductive E where
  | var (i : Nat) | cst (d : D) | gcn (g : Nat)
  | nil | cons (e es : E)
  | tup (es : E) | lst (es : E) | dic (ks vs : E)
  | bin (op : Bop) (a b : E) | neg (a : E) | not (a : E) | and (a b : E) | or (a b : E)
  | cmp (op : Cop) (a b : E) | chain (op op' : Cop) (a b c : E) | ite (c a b : E)
  | idx (a i : E) | slc (a lo hi : E) | rev (a : E)
  | fld (a : E) (m : List (Nat × Nat)) | exf (f : Nat)
  | isi (a : E) (tys : List Ty) (many : Bool)
  | call (f : Nat) (es : E) | blt1 (b : Blt) (a : E) | blt2 (b : Blt) (a a' : E) | get (d k x : E) | pop (d k x : E) | dnew | dcp (a : E) | lck (e c : E) | items (d : E) | join (s xs : E)
  | make (c : Nat) (es : E) | eqo (a b : E) | cell (ks : List Key) (es : E) | lrng (it : E)
  | comp (own : List Nat) (tg : Tg) (it ifs elt : E)
  | comp2 (own : List Nat) (tg : Tg) (it ifs : E) (tg2 : Tg) (it2 ifs2 elt : E)
  | walk (a : E) | rng1 (a : E) | rng2 (a b : E) | zip (a b : E) | enum (a : E)
/-- statements, blocks -/
inductive S where
  | nil | cons (s t : S)
  | set (i : Nat) (e : E) | sets (tg : Tg) (e : E) | par (is : List Nat) (es : E)
  | aug (i : Nat) (op : Bop) (e : E)
  | app (i : Nat) (e : E) | put (i : Nat) (k e : E) | puts (ts : List (Nat × Option E)) (e : E) | popTo (i j : Nat) (k : E) | appPop (i j : Nat) (k : E) | ext (i : Nat) (e : E) | dpop (i : Nat) (k : E)
  | drop (e : E) | ret (e : E) | retN | ite (c : E) (a b : S) | for_ (tg : Tg) (it : E) (b : S) | whl (c : E) (b : S)
  | raise (c : Nat) (es : E) | lock (e : E) (s : S) | try_ (b : S) (hs : S) | han (c : Nat) (o : Option Nat) (b rest : S)
  | brk | cnt | pass | frz (i : Nat) | ref (i : Nat) | deref (i : Nat) | stuck

/-! ### values -/
mutual
def D.py : D → Option PyData
  | .non => some .none
  | .bl b => some (.bool b)
  | .int i => some (.int i)
  | .str x => some (.str x)
  | .tup xs => (D.pys xs).map .tuple
  | .lst xs => (D.pys xs).map .list
  | _ => none
def D.pys : List D → Option (List PyData)
  | [] => some []
  | x :: xs => match D.py x, D.pys xs with
    | some a, some r => some (a :: r)
    | _, _ => none
end
def D.flat : D → Bool
  | .non | .bl _ | .int _ | .str _ => true
  | _ => false
/-- == -/
def eqD (x y : D) : Option Bool := match x.py, y.py with
  | some a, some b => if SeqAt.shaped a && SeqAt.shaped b then some (PyData.eqv a b) else none
  | _, _ => none
def truD : D → Option Bool
  | .non => some false
  | .bl b => some b
  | .int i => some (i != 0)
  | .str x => if x.length ≤ sizeLine then some ((x.length : Int) != 0) else none
  | .tup xs => some (!xs.isEmpty)
  | .lst xs => some (!xs.isEmpty)
  | .scr xs => some (!xs.isEmpty)
  | .dK kvs => some (!kvs.isEmpty)
  | _ => none
def keyOf : D → Option Key
  | .int i => some (.inl i)
  | .str x => some (.inr x)
  | _ => none
def keysOf : List D → Option (List Key)
  | [] => some []
  | x :: xs => match keyOf x, keysOf xs with
    | some a, some r => some (a :: r)
    | _, _ => none
def kD : Key → D
  | .inl i => .int i
  | .inr x => .str x
/-- dicts as lists of pairs -/
def lookP {κ : Type} [DecidableEq κ] (kvs : List (κ × D)) (k : κ) : Option D := (kvs.find? fun p => decide (p.1 = k)).map (·.2)
def putP {κ : Type} [DecidableEq κ] (kvs : List (κ × D)) (k : κ) (v : D) : List (κ × D) :=
  if (kvs.any fun p => decide (p.1 = k)) = true then kvs.map (fun p => if p.1 = k then (p.1, v) else p) else kvs ++ [(k, v)]
def dropP {κ : Type} [DecidableEq κ] (kvs : List (κ × D)) (k : κ) : List (κ × D) := kvs.filter fun p => decide (p.1 ≠ k)
def mulOk (i j : Int) : Bool := decide (i.natAbs.log2 + j.natAbs.log2 < 1000000)
def divOk (j : Int) : Bool := decide (j ≠ 0) && decide (j.natAbs.log2 < 9000)
def binD : Bop → D → D → Option O
  | .add, .int i, .int j => some (.fz (.int (i + j)))
  | .add, .str x, .str y => if x.length + y.length ≤ sizeLine then some (.fz (.str (x ++ y))) else none
  | .add, .lst xs, .lst ys => if xs.length + ys.length ≤ sizeLine then some (.ol none (xs ++ ys)) else none
  | .add, .tup xs, .tup ys => if xs.length + ys.length ≤ sizeLine then some (.fz (.tup (xs ++ ys))) else none
  | .sub, .int i, .int j => some (.fz (.int (i - j)))
  | .mul, .int i, .int j => if mulOk i j then some (.fz (.int (i * j))) else none
  | .mul, .lst xs, .int k => if decide (-(2 ^ 63) ≤ k) && decide (k < 2 ^ 63) && decide (xs.length * k.toNat ≤ sizeLine) then some (.ol none (List.replicate k.toNat xs).flatten) else none
  | .mul, .tup xs, .int k => if !xs.isEmpty && decide (1 ≤ k) && decide (k ≤ 1000) && decide (xs.length ≤ 1000) then some (.fz (.tup (List.replicate k.toNat xs).flatten)) else none
  | .fdiv, .int i, .int j => if divOk j then some (.fz (.int (i.fdiv j))) else none
  | .mod, .int i, .int j => if j = 0 then none else some (.fz (.int (i.fmod j)))
  | .pow, .int i, .int j => if decide (0 ≤ j) && decide (j ≤ 1000000) && decide (i.natAbs < 2 ^ 64) then some (.fz (.int (i ^ j.toNat))) else none
  | _, _, _ => none
def negD : D → Option D
  | .int i => some (.int (-i))
  | _ => none
def flatEq : D → D → Bool
  | .non, .non => true
  | .bl a, .bl b => a == b
  | .bl a, .int b => ((if a then 1 else 0) == b)
  | .int a, .bl b => (a == (if b then 1 else 0))
  | .int a, .int b => a == b
  | .str a, .str b => a == b
  | _, _ => false
def inD (x : D) : D → Option Bool
  | .lst xs => if x.flat && xs.all D.flat then some (xs.any fun y => flatEq y x) else match x.py, D.pys xs with
    | some a, some bs => if SeqAt.shaped a && SeqAt.shaped (.list bs) then some (bs.any fun z => PyData.eqv z a) else none
    | _, _ => none
  | .tup xs => if x.flat && xs.all D.flat then some (xs.any fun y => flatEq y x) else none
  | .str z => match x with
    | .str i => some (!(Builtin.Str.occurrences z i 0 z.length 1).isEmpty)
    | _ => none
  | .dK kvs => (keyOf x).map fun k => (lookP kvs k).isSome
  | _ => none
def isN : D → Bool
  | .non => true
  | _ => false
def ltD : D → D → Option Bool
  | .int i, .int j => some (decide (i < j))
  | .str x, .str y => some (decide (x.cps.toList < y.cps.toList))
  | _, _ => none
def cmpD : Cop → D → D → Option Bool
  | .eq, x, y => eqD x y
  | .ne, x, y => (eqD x y).map (!·)
  | .lt, x, y => ltD x y
  | .gt, .int i, .int j => some (decide (j < i))
  | .le, .int i, .int j => some (decide (i ≤ j))
  | .ge, .int i, .int j => some (decide (j ≤ i))
  | .is, x, .non => some (isN x)
  | .isnt, x, .non => some (!isN x)
  | .is, .bl a, .bl b => some (decide (a = b))
  | .isnt, .bl a, .bl b => some (!decide (a = b))
  | .in_, x, y => inD x y
  | .notin, x, y => (inD x y).map (!·)
  | _, _, _ => none
def idxD : D → D → Option D
  | .tup xs, .int i => atI xs i
  | .lst xs, .int i => atI xs i
  | .scr xs, .int i => atI xs i
  | .str x, .int i => if x.length ≤ sizeLine then (atI x.cps.toList i).map fun c => .str ⟨#[c]⟩ else none
  | .dK kvs, k => (keyOf k).bind (lookP kvs)
  | _, _ => none
/-- a cell that may be changed -/
def openAt (κ : Cells) (n : Nat) : Option (List (Key × D)) := match κ[n]? with
  | some ⟨false, .dk kvs⟩ => some kvs
  | _ => none
/-- a cell that is read -/
def readAt (κ : Cells) (n : Nat) : Option (List (Key × D)) := match κ[n]? with
  | some ⟨_, .dk kvs⟩ => some kvs
  | _ => none
/-- a cell that is walked -/
def lockedAt (κ : Cells) (n : Nat) : Option (List (Key × D)) := match κ[n]? with
  | some ⟨true, .dk kvs⟩ => some kvs
  | _ => none
/-- a dict, for a method of it -/
def cellN (κ : Cells) : D → Option Nat
  | .obj n => (readAt κ n).map fun _ => n
  | _ => none
/-- what is found, or else -/
def orElseD (r : Option D) (o : O) : Option D := match r with
  | some d => some d
  | none => (match o with
    | .fz d => some d
    | _ => none)
def lockC (κ : Cells) (n : Nat) (b : Bool) : Cells := match κ[n]? with
  | some c => κ.set n ⟨b, c.co⟩
  | none => κ
/-- a place, of a cell too -/
def idxC (κ : Cells) : D → D → Option D
  | .obj n, y => (readAt κ n).bind fun kvs => idxD (.dK kvs) y
  | x, y => idxD x y
def cutD {α : Type} (xs : List α) (lo hi : Option Int) : List α := (xs.drop (HT.sIx xs.length 0 lo)).take (HT.sIx xs.length xs.length hi - HT.sIx xs.length 0 lo)
def boundD : O → Option (Option Int)
  | .fz .non => some none
  | .fz (.int i) => some (some i)
  | _ => none
def slcD (lo hi : Option Int) : D → Option O
  | .tup xs => some (.fz (.tup (cutD xs lo hi)))
  | .lst xs => some (.ol none (cutD xs lo hi))
  | .scr xs => some (.ol none (cutD xs lo hi))
  | .str z => if z.length ≤ sizeLine then some (.fz (.str (cutS z lo hi))) else none
  | _ => none
def revD : D → Option O
  | .tup xs => some (.fz (.tup xs.reverse))
  | .lst xs => some (.ol none xs.reverse)
  | _ => none
def isTy : D → Ty → Bool
  | .bl _, .int => true
  | .bl _, .bool => true
  | .int _, .int => true
  | .str _, .str => true
  | .tup _, .tuple => true
  | .lst _, .list => true
  | .ins c _, .cls c' => decide (c = c')
  | _, _ => false
def hasTy : D → Bool
  | .non | .bl _ | .int _ | .str _ | .tup _ | .lst _ | .ins _ _ => true
  | _ => false
/-- what is walked -/
def itemsD : D → Option (List D)
  | .tup xs => some xs
  | .lst xs => some xs
  | .scr xs => some xs
  | .str z => some (z.cps.toList.map fun c => .str ⟨#[c]⟩)
  | .dK kvs => some (kvs.map fun p => kD p.1)
  | .dT kvs => some (kvs.map fun p => .tup (p.1.map kD))
  | _ => none
/-- a list, a tuple -/
def seqD : D → Option (List D)
  | .tup xs => some xs
  | .lst xs => some xs
  | .scr xs => some xs
  | _ => none
def asInts : List D → Option (List Int)
  | [] => some []
  | .int i :: r => (asInts r).map (i :: ·)
  | _ :: _ => none
def asBools : List D → Option (List Bool)
  | [] => some []
  | .bl i :: r => (asBools r).map (i :: ·)
  | _ :: _ => none
def asStrs : List D → Option (List Str)
  | [] => some []
  | .str i :: r => (asStrs r).map (i :: ·)
  | _ :: _ => none

/-! ### repr -/
def repD (d : D) : Option Str := match d.py with
  | some p => if p.showable && !p.hasDict && decide (p.depth ≤ 60) && decide (p.shown.length ≤ sizeLine) then some p.shown else none
  | none => none
/-- the built-ins of one argument -/
def blt1D : Blt → O → Option O
  | .len, o => match o.d with
    | .tup xs => some (.fz (.int xs.length))
    | .lst xs => some (.fz (.int xs.length))
    | .scr xs => some (.fz (.int xs.length))
    | .str x => if x.length ≤ sizeLine then some (.fz (.int x.length)) else none
    | .dK xs => some (.fz (.int xs.length))
    | _ => none
  | .all, o => match o.d with
    | .lst xs => (asBools xs).map fun bs => .fz (.bl (bs.all id))
    | _ => none
  | .any, o => match o.d with
    | .lst xs => (asBools xs).map fun bs => .fz (.bl (bs.any id))
    | _ => none
  | .tuple, o => match o.d with
    | .tup xs => some (.fz (.tup xs))
    | .lst xs => some (.fz (.tup xs))
    | _ => none
  | .list, o => match o.d with
    | .tup xs => some (.ol none xs)
    | .lst xs => some (.ol none xs)
    | .scr xs => some (.ol none xs)
    | _ => none
  | .repr, o => (repD o.d).map fun t => .fz (.str t)
  | .abs, o => match o.d with
    | .int i => some (.fz (.int (if i < 0 then -i else i)))
    | _ => none
  | .int, o => match o.d with
    | .int i => some (.fz (.int i))
    | .bl b => some (.fz (.int (if b then 1 else 0)))
    | _ => none
  | .str, o => match o.d with
    | .int i => if i.natAbs.log2 < 1920 then some (.fz (.str (toString i))) else none
    | _ => none
  | .min, o => match o.d with
    | .lst xs => (asInts xs).bind fun is => is.min?.map fun i => .fz (.int i)
    | _ => none
  | .max, o => match o.d with
    | .lst xs => (asInts xs).bind fun is => is.max?.map fun i => .fz (.int i)
    | _ => none
  | .sorted, o => match o.d with
    | .lst xs => (asInts xs).map fun is => .ol none ((is.mergeSort fun i j => decide (i ≤ j)).map .int)
    | _ => none
  | .sum, o => match o.d with
    | .lst xs => (asInts xs).map fun is => .fz (.int is.sum)
    | _ => none
  | _, _ => none
def blt2D : Blt → D → D → Option D
  | .max, .int i, .int j => some (.int (if j > i then j else i))
  | .min, .int i, .int j => some (.int (if j < i then j else i))
  | .gcd, .int i, .int j => some (.int ((Nat.gcd i.natAbs j.natAbs : Nat) : Int))
  | _, _, _ => none
/-- the same, of a cell too -/
def intKeys : List (Key × D) → Option (List Int)
  | [] => some []
  | (.inl i, _) :: r => (intKeys r).map (i :: ·)
  | _ :: _ => none
def strKeys : List (Key × D) → Option (List Str)
  | [] => some []
  | (.inr i, _) :: r => (strKeys r).map (i :: ·)
  | _ :: _ => none
def sortI (is : List Int) : List Int := is.mergeSort fun i j => decide (i ≤ j)
def bltKv (κ : Cells) (n : Nat) : Blt → Option O
  | .len => (openAt κ n).map fun kvs => .fz (.int kvs.length)
  | .list => (readAt κ n).map fun kvs => .ol none (kvs.map fun p => kD p.1)
  | .sorted => (readAt κ n).bind fun kvs => (intKeys kvs).bind fun is => if is.length < 64 then some (.ol none ((sortI is).map .int)) else none
  | .min => (openAt κ n).bind fun kvs => (intKeys kvs).bind fun is => is.min?.map fun i => .fz (.int i)
  | .max => (openAt κ n).bind fun kvs => (intKeys kvs).bind fun is => is.max?.map fun i => .fz (.int i)
  | _ => none
def blt1C (κ : Cells) (b : Blt) (o : O) : Option O := match o with
  | .fz (.obj n) => bltKv κ n b
  | o => blt1D b o
def inC (κ : Cells) (x : D) : D → Option Bool
  | .obj n => (readAt κ n).bind fun kvs => (keyOf x).map fun k => (lookP kvs k).isSome
  | d => inD x d
/-- the pairs of the one are those of the other -/
def eqKv : List (Key × D) → List (Key × D) → Option Bool
  | [], _ => some true
  | (k, v) :: r, b => match lookP b k with
    | none => some false
    | some y => (eqD v y).bind fun e => (eqKv r b).map (e && ·)
def eqC (κ : Cells) : D → D → Option Bool
  | .obj n, .obj m => (openAt κ n).bind fun a => (openAt κ m).bind fun b => if a.length = b.length then eqKv a b else some false
  | .non, .obj m => (openAt κ m).map fun _ => false
  | x, y => eqD x y
def cmpC (κ : Cells) : Cop → D → D → Option Bool
  | .in_, x, y => inC κ x y
  | .notin, x, y => (inC κ x y).map (!·)
  | .eq, x, y => eqC κ x y
  | .ne, x, y => (eqC κ x y).map (!·)
  | op, x, y => cmpD op x y
def rangeD (lo hi : Int) : Option (List D) :=
  if decide (-(2 ^ 62) ≤ lo) && decide (lo < 2 ^ 62) && decide (-(2 ^ 62) ≤ hi) && decide (hi < 2 ^ 62) then
    some ((List.range (hi - lo).toNat).map fun (k : Nat) => D.int (lo + (k : Int))) else none
def zipD : List D → List D → List D
  | x :: xs, y :: ys => .tup [x, y] :: zipD xs ys
  | _, _ => []
/-- pairs of a key and a thing -/
def pairsD : List D → Option (List (Key × D))
  | [] => some []
  | .tup [x, y] :: r => (keyOf x).bind fun k => (pairsD r).map ((k, y) :: ·)
  | _ :: _ => none
/-- dict(x): a copy of a cell; of pairs -/
def dcpD (κ : Cells) : D → Option (List (Key × D))
  | .obj n => readAt κ n
  | .lst ps => (pairsD ps).map fun kvs => kvs.foldl (fun acc kv => putP acc kv.1 kv.2) []
  | _ => none
def enumD (k : Nat) : List D → List D
  | [] => []
  | x :: xs => .tup [.int k, x] :: enumD (k + 1) xs
/-- nothing walks what the slot holds -/
def unlocked (σ : Sl) (i : Nat) : Bool := match σ[i]? with
  | some (some (.ol (some _) _)) => false
  | some (some (.od (some _) _)) => false
  | some (some (.ot (some _) _)) => false
  | some _ => true
  | none => false
def setAt (σ : Sl) (i : Nat) (o : Option O) : Option Sl := if unlocked σ i then some (σ.set i o) else none
def assign1 (is : List Nat) (ds : List D) (σ : Sl) : Option Sl := match is, ds with
  | [], [] => some σ
  | i :: is, d :: ds => (setAt σ i (some (.fz d))).bind (assign1 is ds)
  | _, _ => none
def assignT (t : Tg) (d : D) (σ : Sl) : Option Sl := match t with
  | .v i => setAt σ i (some (.fz d))
  | .t is => match d with
    | .tup ds => assign1 is ds σ
    | _ => none
def wipeS (σ : Sl) : List Nat → Sl
  | [] => σ
  | v :: vs => (wipeS σ vs).set v none
/-- a target's slots -/
def Tg.ix : Tg → List Nat
  | .v i => [i]
  | .t is => is
def noexc {α : Type} : Out α → Out α
  | .exc _ _ _ => .bad
  | o => o
/-- what may stand behind an own == -/
def eqoOk (c : Nat) : D → Bool
  | .ins c' _ => decide (c = c')
  | .tup _ => true
  | _ => false
/-- what is known ahead: the module's constants, the fields of the exception at hand, calls, the turns that a while may take -/
structure Cxt where
  gl : List D
  hx : List D
  calls : Nat → List D → Cells → Out (D × Cells)
  fuel : Nat
  sub : Nat → Nat → Bool
  eqf : Nat → Option Nat
/-- a list's loop that makes a list -/
def compLoop (step : D → Cells → Out (List D × Cells)) : List D → Cells → Out (List D × Cells)
  | [], κ => .ok ([], κ)
  | x :: xs, κ => (step x κ).bind fun y => (compLoop step xs y.2).bind fun z => .ok (y.1 ++ z.1, z.2)

mutual
def ev (Γ : Cxt) : E → Sl → Cells → Out (O × Cells)
  | .var i, σ, κ => match σ[i]? with
    | some (some o) => .ok (o.read i, κ)
    | _ => .bad
  | .cst d, _, κ => .ok (.fz d, κ)
  | .gcn g, _, κ => (opt Γ.gl[g]?).bind fun d => .ok (.fz d, κ)
  | .tup es, σ, κ => (evs Γ es σ κ).bind fun r => .ok (.fz (.tup r.1), r.2)
  | .lst es, σ, κ => (evs Γ es σ κ).bind fun r => .ok (.ol none r.1, r.2)
  | .bin op a b, σ, κ => (ev Γ a σ κ).bind fun x => (ev Γ b σ x.2).bind fun y => (opt (binD op x.1.d y.1.d)).bind fun o => .ok (o, y.2)
  | .neg a, σ, κ => (ev Γ a σ κ).bind fun x => (opt (negD x.1.d)).bind fun d => .ok (.fz d, x.2)
  | .not a, σ, κ => (ev Γ a σ κ).bind fun x => (opt (truD x.1.d)).bind fun b => .ok (.fz (.bl (!b)), x.2)
  | .and a b, σ, κ => (ev Γ a σ κ).bind fun x => (opt (truD x.1.d)).bind fun c => if c then ev Γ b σ x.2 else .ok x
  | .or a b, σ, κ => (ev Γ a σ κ).bind fun x => (opt (truD x.1.d)).bind fun c => if c then .ok x else ev Γ b σ x.2
  | .cmp op a b, σ, κ => (ev Γ a σ κ).bind fun x => (ev Γ b σ x.2).bind fun y => (opt (cmpC y.2 op x.1.d y.1.d)).bind fun c => .ok (.fz (.bl c), y.2)
  | .chain op op' a b c, σ, κ => (ev Γ a σ κ).bind fun x => (ev Γ b σ x.2).bind fun y => (opt (cmpD op x.1.d y.1.d)).bind fun t =>
      if t then (ev Γ c σ y.2).bind fun z => (opt (cmpD op' y.1.d z.1.d)).bind fun t' => .ok (.fz (.bl t'), z.2) else .ok (.fz (.bl false), y.2)
  | .ite c a b, σ, κ => (ev Γ c σ κ).bind fun x => (opt (truD x.1.d)).bind fun t => if t then ev Γ a σ x.2 else ev Γ b σ x.2
  | .idx a i, σ, κ => (ev Γ a σ κ).bind fun x => (ev Γ i σ x.2).bind fun y => (opt (idxC y.2 x.1.d y.1.d)).bind fun d => .ok (.fz d, y.2)
  | .slc a lo hi, σ, κ => (ev Γ a σ κ).bind fun x => (ev Γ lo σ x.2).bind fun l => (opt (boundD l.1)).bind fun lo' => (ev Γ hi σ l.2).bind fun h =>
      (opt (boundD h.1)).bind fun hi' => (opt (slcD lo' hi' x.1.d)).bind fun o => .ok (o, h.2)
  | .rev a, σ, κ => (ev Γ a σ κ).bind fun x => (opt (revD x.1.d)).bind fun o => .ok (o, x.2)
  | .fld a m, σ, κ => (ev Γ a σ κ).bind fun x => match x.1.d with
      | .ins c fs => (opt ((m.lookup c).bind fun j => fs[j]?)).bind fun d => .ok (.fz d, x.2)
      | _ => .bad
  | .exf f, _, κ => (opt Γ.hx[f]?).bind fun d => .ok (.fz d, κ)
  | .isi a tys _, σ, κ => (ev Γ a σ κ).bind fun x => if hasTy x.1.d then .ok (.fz (.bl (tys.any (isTy x.1.d))), x.2) else .bad
  | .call f es, σ, κ => (evs Γ es σ κ).bind fun r => (Γ.calls f r.1 r.2).bind fun x => .ok (.fz x.1, x.2)
  | .blt1 b a, σ, κ => (ev Γ a σ κ).bind fun x => (opt (blt1C x.2 b x.1)).bind fun o => .ok (o, x.2)
  | .blt2 b a a', σ, κ => (ev Γ a σ κ).bind fun x => (ev Γ a' σ x.2).bind fun y => (opt (blt2D b x.1.d y.1.d)).bind fun d => .ok (.fz d, y.2)
  | .make c es, σ, κ => (evs Γ es σ κ).bind fun r => .ok (.fz (.ins c r.1), r.2)
  | .eqo a b, σ, κ => (ev Γ a σ κ).bind fun x => (ev Γ b σ x.2).bind fun y => (opt x.1.frz).bind fun xd => (opt y.1.frz).bind fun yd => match xd with
      | .ins c _ => (opt (Γ.eqf c)).bind fun f => if eqoOk c yd then (noexc (Γ.calls f [xd, yd] y.2)).bind fun r => (match r.1 with
        | .bl t => .ok (.fz (.bl t), r.2)
        | _ => .bad) else .bad
      | _ => .bad
  | .cell ks es, σ, κ => (evs Γ es σ κ).bind fun r => if decide (ks.Nodup) && decide (ks.length = r.1.length) && decide (ks.length ≤ 15) then .ok (.fz (.obj r.2.length), r.2 ++ [⟨false, .dk ((ks.zip r.1).foldl (fun acc kv => putP acc kv.1 kv.2) [])⟩]) else .bad
  | .get d k x, σ, κ => (ev Γ d σ κ).bind fun dv => (opt (cellN dv.2 dv.1.d)).bind fun n => (ev Γ k σ dv.2).bind fun kv => (ev Γ x σ kv.2).bind fun xv => (opt (readAt xv.2 n)).bind fun kvs => (opt (keyOf kv.1.d)).bind fun kk =>
      (opt (orElseD (lookP kvs kk) xv.1)).bind fun r => .ok (.fz r, xv.2)
  | .pop d k x, σ, κ => (ev Γ d σ κ).bind fun dv => (opt (cellN dv.2 dv.1.d)).bind fun n => (ev Γ k σ dv.2).bind fun kv => (ev Γ x σ kv.2).bind fun xv => (opt (openAt xv.2 n)).bind fun kvs => (opt (keyOf kv.1.d)).bind fun kk =>
      (opt (orElseD (lookP kvs kk) xv.1)).bind fun r => .ok (.fz r, if (lookP kvs kk).isSome then xv.2.set n ⟨false, .dk (dropP kvs kk)⟩ else xv.2)
  | .dnew, _, κ => .ok (.fz (.obj κ.length), κ ++ [⟨false, .dk []⟩])
  | .dic k x, σ, κ => (ev Γ k σ κ).bind fun kv => (opt (keyOf kv.1.d)).bind fun kk => (ev Γ x σ kv.2).bind fun xv => (opt xv.1.frz).bind fun d => .ok (.fz (.obj xv.2.length), xv.2 ++ [⟨false, .dk [(kk, d)]⟩])
  | .dcp a, σ, κ => (ev Γ a σ κ).bind fun x => (opt (dcpD x.2 x.1.d)).bind fun kvs => .ok (.fz (.obj x.2.length), x.2 ++ [⟨false, .dk kvs⟩])
  | .lck e c, σ, κ => (noexc (ev Γ e σ κ)).bind fun x => match x.1 with
      | .fz (.obj n) => (match κ[n]? with
        | some ⟨false, .dk kvs⟩ => (noexc (ev Γ c σ (κ.set n ⟨true, .dk kvs⟩))).bind fun y => .ok (y.1, y.2.set n ⟨false, .dk kvs⟩)
        | _ => ev Γ c σ κ)
      | _ => ev Γ c σ κ
  | .lrng it, σ, κ => (evIt Γ it σ κ).bind fun r => if r.1.1.length ≤ sizeLine then .ok (.ol none r.1.1, r.2) else .bad
  | .comp own tg it ifs elt, σ, κ => (evIt Γ it σ κ).bind fun r =>
      (noexc (compLoop (fun x κ => (opt (assignT tg x (wipeS σ own))).bind fun σ' => (noexc (evIf Γ ifs σ' κ)).bind fun t =>
        if t.1 then (noexc (ev Γ elt σ' t.2)).bind fun y => (opt y.1.frz).bind fun d => .ok ([d], y.2) else .ok ([], t.2)) r.1.1 r.2)).bind fun r =>
      if r.1.length < sizeLine then .ok (.ol none r.1, r.2) else .bad
  | .comp2 own tg it ifs tg2 it2 ifs2 elt, σ, κ => (evIt Γ it σ κ).bind fun r =>
      (noexc (compLoop (fun x κ => (opt (assignT tg x (wipeS σ own))).bind fun σ1 => (noexc (evIf Γ ifs σ1 κ)).bind fun t =>
        if t.1 then (noexc (evIt Γ it2 σ1 t.2)).bind fun r2 => compLoop (fun y κ => (opt (assignT tg2 y (wipeS σ1 tg2.ix))).bind fun σ2 => (noexc (evIf Γ ifs2 σ2 κ)).bind fun t2 =>
          if t2.1 then (noexc (ev Γ elt σ2 t2.2)).bind fun z => (opt z.1.frz).bind fun d => .ok ([d], z.2) else .ok ([], t2.2)) r2.1.1 r2.2 else .ok ([], t.2)) r.1.1 r.2)).bind fun r =>
      if r.1.length < sizeLine then .ok (.ol none r.1, r.2) else .bad
  | _, _, _ => .bad
/-- a list of expressions, each given away -/
def evs (Γ : Cxt) : E → Sl → Cells → Out (List D × Cells)
  | .nil, _, κ => .ok ([], κ)
  | .cons e es, σ, κ => (ev Γ e σ κ).bind fun x => (opt x.1.frz).bind fun d => (evs Γ es σ x.2).bind fun r => if r.1.length < sizeLine then .ok (d :: r.1, r.2) else .bad
  | _, _, _ => .bad
/-- a comprehension's tests -/
def evIf (Γ : Cxt) : E → Sl → Cells → Out (Bool × Cells)
  | .nil, _, κ => .ok (true, κ)
  | .cons e .nil, σ, κ => (ev Γ e σ κ).bind fun x => (opt (truD x.1.d)).bind fun b => .ok (b, x.2)
  | _, _, _ => .bad
/-- what is walked; what is borrowed for it -/
def evIt (Γ : Cxt) : E → Sl → Cells → Out ((List D × List Nat) × Cells)
  | .rng1 a, σ, κ => (ev Γ a σ κ).bind fun x => match x.1.d with
      | .int j => (opt (rangeD 0 j)).bind fun xs => .ok ((xs, []), x.2)
      | _ => .bad
  | .rng2 a b, σ, κ => (ev Γ a σ κ).bind fun x => (ev Γ b σ x.2).bind fun y => match x.1.d, y.1.d with
      | .int i, .int j => (opt (rangeD i j)).bind fun xs => .ok ((xs, []), y.2)
      | _, _ => .bad
  | .zip a b, σ, κ => (ev Γ a σ κ).bind fun x => (ev Γ b σ x.2).bind fun y => (opt (seqD x.1.d)).bind fun xs => (opt (seqD y.1.d)).bind fun ys => .ok ((zipD xs ys, x.1.bor ++ y.1.bor), y.2)
  | .walk a, σ, κ => (ev Γ a σ κ).bind fun x => match x.1 with
      | .fz (.obj n) => (opt (lockedAt x.2 n)).bind fun kvs => .ok ((kvs.map fun p => kD p.1, []), x.2)
      | o => (opt (seqD o.d)).bind fun xs => .ok ((xs, o.bor), x.2)
  | _, _, _ => .bad
end

/-! ### statements -/
inductive Res where
  | nx (σ : Sl) (κ : Cells) | rt (d : D) (κ : Cells) | bk (σ : Sl) (κ : Cells) | ct (σ : Sl) (κ : Cells) | xc (c : Nat) (fs : List D) (σ : Sl) (κ : Cells) | bad
instance : Inhabited Res := ⟨.bad⟩
def exE {α : Type} (o : Out α) (σ : Sl) (f : α → Res) : Res := match o with
  | .ok a => f a
  | .exc c fs κ => .xc c fs σ κ
  | .bad => .bad
def exO {α : Type} (o : Option α) (f : α → Res) : Res := match o with
  | some a => f a
  | none => .bad
def forLoop (step : D → Sl → Cells → Res) : List D → Sl → Cells → Res
  | [], σ, κ => .nx σ κ
  | x :: xs, σ, κ => match step x σ κ with
    | .nx σ κ => forLoop step xs σ κ
    | .ct σ κ => forLoop step xs σ κ
    | .bk σ κ => .nx σ κ
    | r => r
def whileLoop (test : Sl → Cells → Out (Bool × Cells)) (body : Sl → Cells → Res) : Nat → Sl → Cells → Res
  | 0, _, _ => .bad
  | n + 1, σ, κ => exE (test σ κ) σ fun t => if t.1 then (match body σ t.2 with
    | .nx σ κ => whileLoop test body n σ κ
    | .ct σ κ => whileLoop test body n σ κ
    | .bk σ κ => .nx σ κ
    | r => r) else .nx σ t.2
/-- while a loop walks what slots hold, these are read alone -/
def lockAll (σ : Sl) : List Nat → Sl
  | [] => σ
  | i :: r => match σ[i]? with
    | some (some (.ol none xs)) => lockAll (σ.set i (some (.ol (some i) xs))) r
    | some (some (.od none xs)) => lockAll (σ.set i (some (.od (some i) xs))) r
    | some (some (.ot none xs)) => lockAll (σ.set i (some (.ot (some i) xs))) r
    | _ => lockAll σ r
def unlockAll (was σ : Sl) : List Nat → Sl
  | [] => σ
  | i :: r => match was[i]?, σ[i]? with
    | some (some (.ol none _)), some (some (.ol (some _) xs)) => unlockAll was (σ.set i (some (.ol none xs))) r
    | some (some (.od none _)), some (some (.od (some _) xs)) => unlockAll was (σ.set i (some (.od none xs))) r
    | some (some (.ot none _)), some (some (.ot (some _) xs)) => unlockAll was (σ.set i (some (.ot none xs))) r
    | _, _ => unlockAll was σ r
def unlockR (was : Sl) (is : List Nat) : Res → Res
  | .nx σ κ => .nx (unlockAll was σ is) κ
  | r => r
def storeO (σ : Sl) (i : Nat) (o : O) (f : Sl → Res) : Res := match o with
  | .fz d => exO (setAt σ i (some (.fz d))) f
  | .ol none xs => exO (setAt σ i (some (.ol none xs))) f
  | .od none xs => exO (setAt σ i (some (.od none xs))) f
  | .ot none xs => exO (setAt σ i (some (.ot none xs))) f
  | _ => .bad
def putO : O → D → D → Option O
  | .ol none xs, .int i, d => if decide (-(2 ^ 63) ≤ i) && decide (i < 2 ^ 63) then (ixN xs.length i).map fun j => .ol none (xs.set j d) else none
  | .od none kvs, k, d => (keyOf k).bind fun k => if kvs.length < sizeLine then some (.od none (putP kvs k d)) else none
  | _, _, _ => none
/-- a place of what a slot holds is written -/
def putAt (Γ : Cxt) (i : Nat) (k : E) (d : D) (σ : Sl) (κ : Cells) (f : Sl → Cells → Res) : Res := match σ[i]? with
    | some (some o) => exE (ev Γ k σ κ) σ fun y => (match o with
      | .fz (.obj n) => exO (keyOf y.1.d) fun kk => exO (openAt y.2 n) fun kvs => if kvs.length < sizeLine then f σ (y.2.set n ⟨false, .dk (putP kvs kk d)⟩) else .bad
      | o => exO (putO o y.1.d d) fun o => f (σ.set i (some o)) y.2)
    | _ => .bad
/-- several places and names -/
def putAll (Γ : Cxt) : List (Nat × Option E) → List D → Sl → Cells → Res
  | [], [], σ, κ => .nx σ κ
  | (i, none) :: ts, d :: ds, σ, κ => exO (setAt σ i (some (.fz d))) fun σ => putAll Γ ts ds σ κ
  | (i, some k) :: ts, d :: ds, σ, κ => putAt Γ i k d σ κ (putAll Γ ts ds)
  | _, _, _, _ => .bad
/-- behind a walk -/
def reopen (n : Nat) (kvs : List (Key × D)) : Res → Res
  | .nx σ κ => .nx σ (κ.set n ⟨false, .dk kvs⟩)
  | .bk σ κ => .bk σ (κ.set n ⟨false, .dk kvs⟩)
  | .ct σ κ => .ct σ (κ.set n ⟨false, .dk kvs⟩)
  | _ => .bad
def exec (Γ : Cxt) : S → Sl → Cells → Res
  | .nil, σ, κ => .nx σ κ
  | .cons s t, σ, κ => match exec Γ s σ κ with
    | .nx σ κ => exec Γ t σ κ
    | r => r
  | .set i e, σ, κ => exE (ev Γ e σ κ) σ fun x => storeO σ i x.1 fun σ => .nx σ x.2
  | .sets tg e, σ, κ => exE (ev Γ e σ κ) σ fun x => exO x.1.frz fun d => exO (assignT tg d σ) fun σ => .nx σ x.2
  | .par is es, σ, κ => exec1 Γ is es σ κ
  | .aug i op e, σ, κ => match σ[i]? with
    | some (some (.fz (.int a))) => exE (ev Γ e σ κ) σ fun x => (match op, x.1.d with
      | .add, .int b => exO (setAt σ i (some (.fz (.int (a + b))))) fun σ => .nx σ x.2
      | .sub, .int b => exO (setAt σ i (some (.fz (.int (a - b))))) fun σ => .nx σ x.2
      | _, _ => .bad)
    | _ => .bad
  | .app i e, σ, κ => match σ[i]? with
    | some (some (.ol none xs)) => exE (ev Γ e σ κ) σ fun x => exO x.1.frz fun d => if xs.length < sizeLine then .nx (σ.set i (some (.ol none (xs ++ [d])))) x.2 else .bad
    | _ => .bad
  | .ext i e, σ, κ => exE (ev Γ e σ κ) σ fun x => match x.1.d with
    | .lst ys => (match σ[i]? with
      | some (some (.ol none xs)) => if xs.length + ys.length ≤ sizeLine then .nx (σ.set i (some (.ol none (xs ++ ys)))) x.2 else .bad
      | _ => .bad)
    | _ => .bad
  | .put i k e, σ, κ => exE (ev Γ e σ κ) σ fun x => exO x.1.frz fun d => putAt Γ i k d σ x.2 .nx
  | .puts ts e, σ, κ => exE (ev Γ e σ κ) σ fun x => exO x.1.frz fun d => match d with
    | .tup ds => if ds.length = ts.length then putAll Γ ts ds σ x.2 else .bad
    | _ => .bad
  | .popTo i j e, σ, κ => match e with
    | .nil => (match σ[j]? with
      | some (some (.ol none xs)) => exO xs.getLast? fun d => exO (setAt (σ.set j (some (.ol none xs.dropLast))) i (some (.fz d))) fun σ => if i = j then .bad else .nx σ κ
      | _ => .bad)
    | e => exE (ev Γ e σ κ) σ fun x => match σ[j]?, x.1.d with
      | some (some (.ol none xs)), .int k => if decide (-(2 ^ 63) ≤ k) && decide (k < 2 ^ 63) && decide (i ≠ j) then exO (ixN xs.length k) fun p => exO xs[p]? fun d => exO (setAt (σ.set j (some (.ol none (xs.eraseIdx p)))) i (some (.fz d))) fun σ => .nx σ x.2 else .bad
      | _, _ => .bad
  | .appPop i j e, σ, κ => exE (ev Γ e σ κ) σ fun x => match σ[j]?, x.1.d, σ[i]? with
      | some (some (.ol none xs)), .int k, some (some (.ol none ys)) => if decide (-(2 ^ 63) ≤ k) && decide (k < 2 ^ 63) && decide (i ≠ j) && decide (ys.length < sizeLine) then exO (ixN xs.length k) fun p => exO xs[p]? fun d =>
          .nx ((σ.set j (some (.ol none (xs.eraseIdx p)))).set i (some (.ol none (ys ++ [d])))) x.2 else .bad
      | _, _, _ => .bad
  | .drop e, σ, κ => exE (ev Γ e σ κ) σ fun x => .nx σ x.2
  | .ret e, σ, κ => exE (ev Γ e σ κ) σ fun x => exO x.1.frz fun d => .rt d x.2
  | .retN, _, κ => .rt .non κ
  | .ite c a b, σ, κ => exE (ev Γ c σ κ) σ fun x => exO (truD x.1.d) fun t => if t then exec Γ a σ x.2 else exec Γ b σ x.2
  | .for_ tg it b, σ, κ => exE (evIt Γ it σ κ) σ fun r =>
      unlockR σ r.1.2 (forLoop (fun x σ κ => exO (assignT tg x σ) fun σ => exec Γ b σ κ) r.1.1 (lockAll σ r.1.2) r.2)
  | .lock e s, σ, κ => exE (noexc (ev Γ e σ κ)) σ fun x => match x.1 with
    | .fz (.obj n) => (match κ[n]? with
      | some ⟨false, .dk kvs⟩ => reopen n kvs (exec Γ s σ (κ.set n ⟨true, .dk kvs⟩))
      | _ => exec Γ s σ κ)
    | _ => exec Γ s σ κ
  | .whl c b, σ, κ => whileLoop (fun σ κ => (ev Γ c σ κ).bind fun x => (opt (truD x.1.d)).bind fun t => .ok (t, x.2)) (fun σ κ => exec Γ b σ κ) Γ.fuel σ κ
  | .raise c es, σ, κ => exE (evs Γ es σ κ) σ fun r => .xc c r.1 σ r.2
  | .try_ b hs, σ, κ => match exec Γ b σ κ with
    | .xc c fs σ κ => execH Γ hs c fs σ κ
    | r => r
  | .brk, σ, κ => .bk σ κ
  | .cnt, σ, κ => .ct σ κ
  | .pass, σ, κ => .nx σ κ
  | .frz i, σ, κ => match σ[i]? with
    | some (some (.fz _)) => .nx σ κ
    | some (some o) => exO o.frz fun d => .nx (σ.set i (some (.fz d))) κ
    | _ => .nx σ κ
  | _, _, _ => .bad
where
  exec1 (Γ : Cxt) (is : List Nat) (es : E) (σ : Sl) (κ : Cells) : Res := exE (evos Γ es σ κ) σ fun r => exO (assignO is r.1 σ) fun σ => .nx σ r.2
  evos (Γ : Cxt) : E → Sl → Cells → Out (List O × Cells)
  | .nil, _, κ => .ok ([], κ)
  | .cons e es, σ, κ => (ev Γ e σ κ).bind fun x => match x.1 with
      | .fz _ | .ol none _ | .od none _ | .ot none _ => (evos Γ es σ x.2).bind fun r => .ok (x.1 :: r.1, r.2)
      | _ => .bad
  | _, _, _ => .bad
  assignO (is : List Nat) (os : List O) (σ : Sl) : Option Sl := match is, os with
  | [], [] => some σ
  | i :: is, o :: os => (setAt σ i (some o)).bind (assignO is os)
  | _, _ => none
  execH (Γ : Cxt) (h : S) (c : Nat) (fs : List D) (σ : Sl) (κ : Cells) : Res := match h with
  | .han c' o b rest => if Γ.sub c c' then exO (gone o σ) fun σ => endAs o (exec { Γ with hx := fs } b σ κ) else execH Γ rest c fs σ κ
  | _ => .xc c fs σ κ
  /-- the name of the clause is no slot of ours -/
  gone (o : Option Nat) (σ : Sl) : Option Sl := match o with
  | some i => setAt σ i none
  | none => some σ
  endAs (o : Option Nat) (r : Res) : Res := match r with
  | .nx σ κ => exO (gone o σ) fun σ => .nx σ κ
  | .bk σ κ => exO (gone o σ) fun σ => .bk σ κ
  | .ct σ κ => exO (gone o σ) fun σ => .ct σ κ
  | .rt d κ => .rt d κ
  | _ => .bad
/-- a def: how many parameters, how many slots, its body -/
structure Fn where
  ps : Nat
  n : Nat
  body : S
instance : Inhabited Fn := ⟨⟨0, 0, .nil⟩⟩
structure Prog where
  fns : List Fn
  gl : List D
  sub : Nat → Nat → Bool
  eqf : Nat → Option Nat
  fuel : Nat
def startS (f : Fn) (ds : List D) : Sl := ds.map (fun d => some (.fz d)) ++ List.replicate (f.n - ds.length) none
def Res.out : Res → Out (D × Cells)
  | .nx _ κ => .ok (.non, κ)
  | .rt d κ => .ok (d, κ)
  | .xc c fs _ κ => .exc c fs κ
  | _ => .bad
def callN (P : Prog) : Nat → Nat → List D → Cells → Out (D × Cells)
  | 0, _, _, _ => .bad
  | n + 1, f, ds, κ => match P.fns[f]? with
    | none => .bad
    | some fn => if ds.length = fn.ps then (exec ⟨P.gl, [], callN P n, P.fuel, P.sub, P.eqf⟩ fn.body (startS fn ds) κ).out else .bad
end R

/-! R2: how the values of R1 lie in a heap. -/
namespace R
open PySem L2

/-- the classes: an address, the names of the fields -/
structure Tb where
  K : PySem.W.Frag
  ins : Nat → Option (Addr × List Str)
  exc : Nat → Option (Addr × List Str)
/-- what nobody changes any more; where the cells stand -/
structure Wd where
  F : Hp
  θ : List Addr

mutual
inductive RV (T : Tb) (w : Wd) : V → D → Prop
  | non : RV T w .non .non
  | bl (b : Bool) : RV T w (.bl b) (.bl b)
  | int (i : Int) : RV T w (.int i) (.int i)
  | str (x : Str) : RV T w (.str x) (.str x)
  | tup {a : Addr} {vs : List V} {ds : List D} : SqT T.K w.F a vs → RVs T w vs ds → RV T w (.ref a) (.tup ds)
  | lst {a : Addr} {vs : List V} {ds : List D} : w.F a = some (.lst vs) → RVs T w vs ds → RV T w (.ref a) (.lst ds)
  | scr {a : Addr} {vs : List V} {ds : List D} : SqL T.K w.F a vs → RVs T w vs ds → RV T w (.ref a) (.scr ds)
  | dK {a : Addr} {ks : List Key} {vs : List V} {ds : List D} : w.F a = some (.dK (ks.zip vs)) → ks.length = vs.length → RVs T w vs ds → RV T w (.ref a) (.dK (ks.zip ds))
  | dT {a : Addr} {ks : List (List Key)} {vs : List V} {ds : List D} : w.F a = some (.dT (ks.zip vs)) → ks.length = vs.length → RVs T w vs ds → RV T w (.ref a) (.dT (ks.zip ds))
  | ins {a : Addr} {c : Nat} {C dx : Addr} {nms : List Str} {vs : List V} {ds : List D} : T.ins c = some (C, nms) → w.F a = some (.ins C dx (nms.zip vs)) → nms.length = vs.length → RVs T w vs ds → RV T w (.ref a) (.ins c ds)
  | obj {a : Addr} {n : Nat} : w.θ[n]? = some a → RV T w (.ref a) (.obj n)
inductive RVs (T : Tb) (w : Wd) : List V → List D → Prop
  | nil : RVs T w [] []
  | cons {v : V} {vs : List V} {d : D} {ds : List D} : RV T w v d → RVs T w vs ds → RVs T w (v :: vs) (d :: ds)
end

/-- pairs of a dict -/
inductive PR (T : Tb) (w : Wd) {κ : Type} : List (κ × V) → List (κ × D) → Prop
  | nil : PR T w [] []
  | cons {k : κ} {v : V} {d : D} {vs : List (κ × V)} {ds : List (κ × D)} : RV T w v d → PR T w vs ds → PR T w ((k, v) :: vs) ((k, d) :: ds)
/-- what is known stays known -/
structure Le (w w' : Wd) : Prop where
  F : Same w.F w'.F
  θ : ∃ l, w'.θ = w.θ ++ l
theorem Le.rfl' (w : Wd) : Le w w := ⟨Same.refl _, [], by simp⟩
theorem Le.trans {a b c : Wd} (h : Le a b) (k : Le b c) : Le a c := by
  obtain ⟨l, e⟩ := h.θ
  obtain ⟨m, f⟩ := k.θ
  exact ⟨h.F.trans k.F, l ++ m, by rw [f, e, List.append_assoc]⟩
theorem Le.at {w w' : Wd} (h : Le w w') {n : Nat} {a : Addr} (e : w.θ[n]? = some a) : w'.θ[n]? = some a := by
  obtain ⟨l, q⟩ := h.θ
  rw [q, List.getElem?_append_left (List.getElem?_eq_some_iff.mp e).1]
  exact e
theorem sqT_mono {K : PySem.W.Frag} {F F' : Hp} {a : Addr} {vs : List V} (h : Same F F') (q : SqT K F a vs) : SqT K F' a vs := by
  rcases q with (q | ⟨o, q⟩) | q
  · exact .inl (.inl (h _ _ q))
  · exact .inl (.inr ⟨o, h _ _ q⟩)
  · exact .inr q
section
variable {T : Tb} {w w' : Wd}
mutual
theorem RV.mono (h : Le w w') : ∀ {v : V} {d : D}, RV T w v d → RV T w' v d
  | _, _, .non => .non
  | _, _, .bl b => .bl b
  | _, _, .int i => .int i
  | _, _, .str x => .str x
  | _, _, .tup q r => .tup (sqT_mono h.F q) (RVs.mono h r)
  | _, _, .lst q r => .lst (h.F _ _ q) (RVs.mono h r)
  | _, _, .scr q r => .scr (h.F.seq q) (RVs.mono h r)
  | _, _, .dK q e r => .dK (h.F _ _ q) e (RVs.mono h r)
  | _, _, .dT q e r => .dT (h.F _ _ q) e (RVs.mono h r)
  | _, _, .ins c q e r => .ins c (h.F _ _ q) e (RVs.mono h r)
  | _, _, .obj e => .obj (h.at e)
theorem RVs.mono (h : Le w w') : ∀ {vs : List V} {ds : List D}, RVs T w vs ds → RVs T w' vs ds
  | _, _, .nil => .nil
  | _, _, .cons a r => .cons (RV.mono h a) (RVs.mono h r)
end
theorem RVs.length : ∀ {vs : List V} {ds : List D}, RVs T w vs ds → vs.length = ds.length
  | _, _, .nil => rfl
  | _, _, .cons _ r => by simp [RVs.length r]
theorem RVs.get : ∀ {vs : List V} {ds : List D} {i : Nat} {d : D}, RVs T w vs ds → ds[i]? = some d → ∃ v, vs[i]? = some v ∧ RV T w v d
  | _, _, _, _, .nil, e => by (simp at e)
  | _, _, 0, _, .cons a r, e => by simp at e; subst e; exact ⟨_, rfl, a⟩
  | _, _, i + 1, d, .cons _ r, e => by
    obtain ⟨u, h1, h2⟩ := RVs.get (i := i) (d := d) r (by simpa using e)
    exact (⟨u, by simpa using h1, h2⟩)
theorem RVs.get' : ∀ {vs : List V} {ds : List D} {i : Nat} {v : V}, RVs T w vs ds → vs[i]? = some v → ∃ d, ds[i]? = some d ∧ RV T w v d
  | _, _, _, _, .nil, e => by (simp at e)
  | _, _, 0, _, .cons a r, e => by simp at e; subst e; exact ⟨_, rfl, a⟩
  | _, _, i + 1, d, .cons _ r, e => by
    obtain ⟨u, h1, h2⟩ := RVs.get' (i := i) (v := d) r (by simpa using e)
    exact (⟨u, by simpa using h1, h2⟩)
theorem RVs.append : ∀ {vs us : List V} {ds es : List D}, RVs T w vs ds → RVs T w us es → RVs T w (vs ++ us) (ds ++ es)
  | _, _, _, _, .nil, q => q
  | _, _, _, _, .cons a r, q => .cons a (r.append q)
theorem RVs.one {v : V} {d : D} (h : RV T w v d) : RVs T w [v] [d] := .cons h .nil
theorem RVs.take : ∀ {vs : List V} {ds : List D} (n : Nat), RVs T w vs ds → RVs T w (vs.take n) (ds.take n)
  | _, _, 0, _ => by simp; exact .nil
  | _, _, _ + 1, .nil => .nil
  | _, _, n + 1, .cons a r => by simp only [List.take_succ_cons]; exact .cons a (r.take n)
theorem RVs.drop : ∀ {vs : List V} {ds : List D} (n : Nat), RVs T w vs ds → RVs T w (vs.drop n) (ds.drop n)
  | _, _, 0, r => r
  | _, _, _ + 1, .nil => .nil
  | _, _, n + 1, .cons a r => by simp only [List.drop_succ_cons]; exact r.drop n
theorem RVs.reverse : ∀ {vs : List V} {ds : List D}, RVs T w vs ds → RVs T w vs.reverse ds.reverse
  | _, _, .nil => .nil
  | _, _, .cons a r => by simp only [List.reverse_cons]; exact r.reverse.append (.one a)
theorem RVs.set {v : V} {d : D} (h : RV T w v d) : ∀ {vs : List V} {ds : List D} (i : Nat), RVs T w vs ds → RVs T w (vs.set i v) (ds.set i d)
  | _, _, _, .nil => by simp; exact .nil
  | _, _, 0, .cons _ r => .cons h r
  | _, _, i + 1, .cons a r => .cons a (r.set h i)
theorem RVs.eraseIdx : ∀ {vs : List V} {ds : List D} (i : Nat), RVs T w vs ds → RVs T w (vs.eraseIdx i) (ds.eraseIdx i)
  | _, _, _, .nil => .nil
  | _, _, 0, .cons _ r => r
  | _, _, i + 1, .cons a r => .cons a (r.eraseIdx i)
theorem RVs.rep {vs : List V} {ds : List D} (r : RVs T w vs ds) : ∀ n : Nat, RVs T w (List.replicate n vs).flatten (List.replicate n ds).flatten
  | 0 => by simp; exact .nil
  | n + 1 => by simp only [List.replicate_succ, List.flatten_cons]; exact r.append (r.rep n)
theorem RVs.ints : ∀ (l : List Int), RVs T w (l.map V.int) (l.map D.int)
  | [] => .nil
  | i :: l => .cons (.int i) (RVs.ints l)
theorem RVs.mem : ∀ {vs : List V} {ds : List D} {v : V}, RVs T w vs ds → v ∈ vs → ∃ d ∈ ds, RV T w v d
  | _, _, _, .nil, h => by simp at h
  | _, _, v, .cons (d := d) a r, h => by
    rcases (List.mem_cons.mp h) with e | e
    · subst e; exact ⟨d, by simp, a⟩
    · obtain ⟨d, hd, q⟩ := r.mem e
      exact ⟨d, by simp [hd], q⟩
end

section
variable {T : Tb} {w w' : Wd} {κ : Type}
theorem PR.mono (h : Le w w') : ∀ {vs : List (κ × V)} {ds : List (κ × D)}, PR T w vs ds → PR T w' vs ds
  | _, _, .nil => .nil
  | _, _, .cons a r => .cons (a.mono h) (PR.mono h r)
theorem PR.length : ∀ {vs : List (κ × V)} {ds : List (κ × D)}, PR T w vs ds → vs.length = ds.length
  | _, _, .nil => rfl
  | _, _, .cons _ r => by simp [PR.length r]
theorem PR.zip : ∀ {ks : List κ} {vs : List V} {ds : List D}, ks.length = vs.length → RVs T w vs ds → PR T w (ks.zip vs) (ks.zip ds)
  | [], _, _, _, _ => .nil
  | _ :: _, _, _, e, .nil => by simp at e
  | k :: ks, _, _, e, .cons a r => .cons a (PR.zip (by simpa using e) r)
theorem PR.unzip : ∀ {vs : List (κ × V)} {ds : List (κ × D)}, PR T w vs ds → ∃ (ks : List κ) (us : List V) (es : List D), vs = ks.zip us ∧ ds = ks.zip es ∧ ks.length = us.length ∧ RVs T w us es
  | _, _, .nil => ⟨[], [], [], rfl, rfl, rfl, .nil⟩
  | _, _, .cons (k := k) a r => by
    obtain ⟨ks, us, es, rfl, rfl, e, q⟩ := r.unzip
    exact ⟨k :: ks, _ :: us, _ :: es, rfl, rfl, by simp [e], .cons a q⟩
theorem PR.append : ∀ {vs us : List (κ × V)} {ds es : List (κ × D)}, PR T w vs ds → PR T w us es → PR T w (vs ++ us) (ds ++ es)
  | _, _, _, _, .nil, q => q
  | _, _, _, _, .cons a r, q => .cons a (r.append q)
variable [DecidableEq κ]
theorem PR.look (k : κ) : ∀ {vs : List (κ × V)} {ds : List (κ × D)}, PR T w vs ds → (valV vs k = none ∧ lookP ds k = none) ∨ ∃ v d, valV vs k = some v ∧ lookP ds k = some d ∧ RV T w v d
  | _, _, .nil => (.inl ⟨rfl, rfl⟩)
  | _, _, .cons (k := j) (v := v) (d := d) a r => by
    unfold valV lookP
    by_cases h : j = k
    · exact .inr ⟨v, d, by simp [h], by simp [h], a⟩
    · have := r.look k
      unfold valV lookP at this
      simpa [List.find?_cons, h] using this
theorem PR.any (k : κ) : ∀ {vs : List (κ × V)} {ds : List (κ × D)}, PR T w vs ds → (vs.any fun p => decide (p.1 = k)) = ds.any fun p => decide (p.1 = k)
  | _, _, .nil => rfl
  | _, _, .cons a r => by simp only [List.any_cons, r.any k]
theorem PR.mapP {v : V} {d : D} (h : RV T w v d) (k : κ) : ∀ {vs : List (κ × V)} {ds : List (κ × D)}, PR T w vs ds → PR T w (vs.map fun p => if p.1 = k then (p.1, v) else p) (ds.map fun p => if p.1 = k then (p.1, d) else p)
  | _, _, .nil => .nil
  | _, _, .cons (k := j) a r => by
    simp only [List.map_cons]
    by_cases e : j = k
    · simp only [e, if_true]; exact .cons h (r.mapP h k)
    · simp only [e, if_false]; exact .cons a (r.mapP h k)
theorem PR.put {v : V} {d : D} (h : RV T w v d) (k : κ) {vs : List (κ × V)} {ds : List (κ × D)} (r : PR T w vs ds) : PR T w (putK vs k v) (putP ds k d) := by
  unfold putK putP
  rw [r.any k]
  split
  · exact r.mapP h k
  · exact r.append (.cons h .nil)
theorem PR.drop (k : κ) : ∀ {vs : List (κ × V)} {ds : List (κ × D)}, PR T w vs ds → PR T w (dropK vs k) (dropP ds k)
  | _, _, .nil => .nil
  | _, _, .cons (k := j) a r => by
    have q := r.drop k
    unfold dropK dropP at q ⊢
    by_cases e : j = k
    · simpa [List.filter_cons, e] using q
    · simp only [List.filter_cons, e, ne_eq, not_false_eq_true, decide_true, if_true]
      exact .cons a (by simpa using q)
end

/-! ### the state -/
/-- what stands in a cell -/
inductive RC (T : Tb) (w : Wd) : HO → Co → Prop
  | dk {vs : List (Key × V)} {ds : List (Key × D)} : PR T w vs ds → RC T w (.dK vs) (.dk ds)
  | dt {vs : List (List Key × V)} {ds : List (List Key × D)} : PR T w vs ds → RC T w (.dT vs) (.dt ds)
  | ls {vs : List V} {ds : List D} : RVs T w vs ds → RC T w (.lst vs) (.ls ds)
theorem RC.mono {T : Tb} {w w' : Wd} (h : Le w w') {o : HO} {c : Co} (r : RC T w o c) : RC T w' o c := by
  cases r with
  | dk p => exact .dk (p.mono h)
  | dt p => exact .dt (p.mono h)
  | ls p => exact .ls (p.mono h)
theorem RC.mut {T : Tb} {w : Wd} {o : HO} {c : Co} (r : RC T w o c) : Mut (some o) := by
  cases r <;> trivial
/-- a cell's place: walked (then it is known as what nobody changes), or free -/
def CellAt (w : Wd) (H : Hp) (a : Addr) (o : HO) (b : Bool) : Prop := match b with
  | true => ∃ od, w.F a = some (.frz od o)
  | false => w.F a = none ∧ H a = some o
theorem CellAt.move {w w' : Wd} {H H' : Hp} {a : Addr} {o : HO} {b : Bool} (h : CellAt w H a o b) (el : w'.F a = w.F a) (eh : H' a = H a) : CellAt w' H' a o b := by
  cases b with
  | true =>
    obtain ⟨od, e⟩ := h
    exact ⟨od, el.trans e⟩
  | false => exact ⟨el.trans h.1, eh.trans h.2⟩
/-- the world fits the heap -/
structure Wok (T : Tb) (w : Wd) (H : Hp) (κ : Cells) : Prop where
  le : Same w.F H
  nd : w.θ.Nodup
  len : w.θ.length = κ.length
  cell : ∀ (n : Nat) (a : Addr), w.θ[n]? = some a → ∃ (o : HO) (c : Cell), κ[n]? = some c ∧ RC T w o c.co ∧ CellAt w H a o c.lk
/-- from one state to a later one: nothing but the cells has changed -/
structure Ext (w : Wd) (H : Hp) (w' : Wd) (H' : Hp) : Prop where
  keep : ∀ a o, H a = some o → a ∉ w.θ → H' a = some o
  dom : ∀ a, H' a = none → H a = none
  F : Same w.F w'.F
  new : ∀ a, w.F a = none → w'.F a ≠ none → H a = none ∨ a ∈ w.θ
  θ : ∃ l, w'.θ = w.θ ++ l ∧ ∀ a ∈ l, H a = none
theorem Ext.le {w w' : Wd} {H H' : Hp} (e : Ext w H w' H') : Le w w' := ⟨e.F, e.θ.imp fun _ h => h.1⟩
theorem Ext.rfl' (w : Wd) (H : Hp) : Ext w H w H := ⟨fun _ _ h _ => h, fun _ h => h, Same.refl _, fun a h k => absurd h k, [], by simp, by simp⟩
theorem Ext.trans {w w1 w2 : Wd} {H H1 H2 : Hp} (a : Ext w H w1 H1) (b : Ext w1 H1 w2 H2) : Ext w H w2 H2 := by
  obtain ⟨l, e, hl⟩ := a.θ
  obtain ⟨m, f, hm⟩ := b.θ
  refine ⟨fun c o h n => ?_, fun c h => a.dom c (b.dom c h), a.F.trans b.F, fun c h k => ?_, l ++ m, by rw [f, e, List.append_assoc], fun c hc => ?_⟩
  · refine b.keep c o (a.keep c o h n) ?_
    rw [e]
    intro hm'
    rcases List.mem_append.mp hm' with q | q
    · exact n q
    · rw [hl c q] at h; cases h
  · cases q : w1.F c with
    | none =>
      rcases b.new c q k with z | z
      · exact .inl (a.dom c z)
      · rw [e] at z
        rcases List.mem_append.mp z with z | z
        · exact .inr z
        · exact .inl (hl c z)
    | some o => exact a.new c h (by rw [q]; simp)
  · rcases List.mem_append.mp hc with q | q
    · exact hl c q
    · exact a.dom c (hm c q)
/-- an address that is neither known nor a cell's stays so -/
theorem Ext.offF {w w' : Wd} {H H' : Hp} (e : Ext w H w' H') {a : Addr} {o : HO} (h : H a = some o) (n : w.F a = none) (nt : a ∉ w.θ) : w'.F a = none := by
  cases q : w'.F a with
  | none => rfl
  | some u =>
    rcases e.new a n (by rw [q]; simp) with z | z
    · rw [z] at h; cases h
    · exact absurd z nt
theorem Ext.offθ {w w' : Wd} {H H' : Hp} (e : Ext w H w' H') {a : Addr} {o : HO} (h : H a = some o) (n : a ∉ w.θ) : a ∉ w'.θ := by
  obtain ⟨l, q, hl⟩ := e.θ
  rw [q]
  intro z
  rcases List.mem_append.mp z with z | z
  · exact n z
  · rw [hl a z] at h; cases h

/-- a list, a dict of one's own at a -/
def RO (T : Tb) (w : Wd) (H : Hp) (v : V) : O → Prop
  | .fz d => RV T w v d
  | .ol _ xs => ∃ a vs, v = .ref a ∧ H a = some (.lst vs) ∧ RVs T w vs xs ∧ a ∉ w.θ ∧ w.F a = none
  | .od _ kvs => ∃ a vs, v = .ref a ∧ H a = some (.dK vs) ∧ PR T w vs kvs ∧ a ∉ w.θ ∧ w.F a = none
  | .ot _ kvs => ∃ a vs, v = .ref a ∧ H a = some (.dT vs) ∧ PR T w vs kvs ∧ a ∉ w.θ ∧ w.F a = none
def O.place : O → Bool
  | .fz _ => false
  | _ => true
def O.tag : O → Option Nat
  | .fz _ => none
  | .ol b _ => b
  | .od b _ => b
  | .ot b _ => b
theorem RO.addr {T : Tb} {w : Wd} {H : Hp} {v : V} {o : O} (h : RO T w H v o) (p : o.place = true) : ∃ a u, v = .ref a ∧ H a = some u ∧ a ∉ w.θ ∧ w.F a = none := by
  cases o with
  | fz d => cases p
  | ol b xs => obtain ⟨a, vs, e, h1, _, h2, h3⟩ := h; exact ⟨a, _, e, h1, h2, h3⟩
  | od b xs => obtain ⟨a, vs, e, h1, _, h2, h3⟩ := h; exact ⟨a, _, e, h1, h2, h3⟩
  | ot b xs => obtain ⟨a, vs, e, h1, _, h2, h3⟩ := h; exact ⟨a, _, e, h1, h2, h3⟩
/-- what stands at a place of one's own that is kept -/
theorem RO.move {T : Tb} {w w' : Wd} {H H' : Hp} {v : V} {o : O} (h : RO T w H v o) (l : Le w w') (k : ∀ a u, v = .ref a → o.place = true → H a = some u → H' a = some u ∧ a ∉ w'.θ ∧ w'.F a = none) : RO T w' H' v o := by
  cases o with
  | fz d => exact RV.mono l h
  | ol b xs =>
    obtain ⟨a, vs, e, h1, r, _, _⟩ := h
    obtain ⟨q1, q2, q3⟩ := k a _ e rfl h1
    exact ⟨a, vs, e, q1, r.mono l, q2, q3⟩
  | od b xs =>
    obtain ⟨a, vs, e, h1, r, _, _⟩ := h
    obtain ⟨q1, q2, q3⟩ := k a _ e rfl h1
    exact ⟨a, vs, e, q1, r.mono l, q2, q3⟩
  | ot b xs =>
    obtain ⟨a, vs, e, h1, r, _, _⟩ := h
    obtain ⟨q1, q2, q3⟩ := k a _ e rfl h1
    exact ⟨a, vs, e, q1, r.mono l, q2, q3⟩
theorem RO.ext {T : Tb} {w w' : Wd} {H H' : Hp} {v : V} {o : O} (h : RO T w H v o) (e : Ext w H w' H') : RO T w' H' v o :=
  h.move e.le fun a u hv hp hu => by
    obtain ⟨a', u', e1, e2, n1, n2⟩ := h.addr hp
    rw [hv] at e1; cases e1
    exact ⟨e.keep a u hu n1, e.offθ hu n1, e.offF hu n2 n1⟩
theorem RO.retag {T : Tb} {w : Wd} {H : Hp} {v : V} {o : O} (h : RO T w H v o) (i : Nat) : RO T w H v (o.read i) := by
  cases o <;> exact h

/-- the slots -/
structure RS (T : Tb) (w : Wd) (H : Hp) (σV : St) (σ : Sl) : Prop where
  len : σV.length = σ.length
  at_ : ∀ (i : Nat) (o : O), σ[i]? = some (some o) → ∃ v, σV[i]? = some (some v) ∧ RO T w H v o
  apart : ∀ (i j : Nat) (o o' : O) (v : V), i ≠ j → σ[i]? = some (some o) → σ[j]? = some (some o') → σV[i]? = some (some v) → σV[j]? = some (some v) → o.place = false ∨ o'.place = false
  tag : ∀ (i j : Nat) (o : O), σ[i]? = some (some o) → o.tag = some j → j = i
theorem RS.ext {T : Tb} {w w' : Wd} {H H' : Hp} {σV : St} {σ : Sl} (h : RS T w H σV σ) (e : Ext w H w' H') : RS T w' H' σV σ :=
  ⟨h.len, fun i o q => let ⟨v, h1, h2⟩ := h.at_ i o q; ⟨v, h1, h2.ext e⟩, h.apart, h.tag⟩
/-- places are no older than H₀ -/
def Young (H₀ : Hp) (v : V) (o : O) : Prop := o.place = true → ∀ a, v = .ref a → H₀ a = none
/-- a borrowed value stands in its slot -/
def Bor (σV : St) (v : V) (o : O) : Prop := ∀ i, o.tag = some i → σV[i]? = some (some v)
end R

/-! R3: what is wanted behind a term; steps of the world. -/
namespace R
open PySem L2

theorem peI {X : Cx} {e : Expr} {t t' : TE} (h : PE X e t) (k : ∀ σ H Q, t' σ H Q → t σ H Q) : PE X e t' := ⟨fun pins s σ H Q I q => h.run pins s σ H Q I (k _ _ _ q)⟩
theorem ptI {X : Cx} {e : Expr} {t t' : TT} (h : PT X e t) (k : ∀ σ H Q, t' σ H Q → t σ H Q) : PT X e t' := ⟨fun pins s σ H Q I q => h.run pins s σ H Q I (k _ _ _ q)⟩
theorem paI {X : Cx} {e : List Expr} {t t' : TA} (h : PA X e t) (k : ∀ σ H Q, t' σ H Q → t σ H Q) : PA X e t' := ⟨fun pos pins s σ H Q I q => h.run pos pins s σ H Q I (k _ _ _ q)⟩
theorem piI {X : Cx} {tg e : Expr} {t t' : TI} (h : PI X tg e t) (k : ∀ σ H Q, t' σ H Q → t σ H Q) : PI X tg e t' := ⟨fun pins s σ H Q I q => h.run pins s σ H Q I (k _ _ _ q)⟩
theorem psI {X : Cx} {e : Stmt} {t t' : TS} (h : PS X e t) (k : ∀ D σ H, t' D σ H → t D σ H) : PS X e t' := ⟨fun pins s σ H D I q => h.run pins s σ H D I (k _ _ _ q)⟩
theorem pssI {X : Cx} {e : List Stmt} {t t' : TS} (h : PSs X e t) (k : ∀ D σ H, t' D σ H → t D σ H) : PSs X e t' := ⟨fun pins s σ H D I q => h.run pins s σ H D I (k _ _ _ q)⟩

/-- the fields of an exception -/
def FLk (l : List (Str × V)) (nms : List Str) (vs : List V) : Prop := nms.length = vs.length ∧ ∀ (j : Nat) (f : Str) (v : V), nms[j]? = some f → vs[j]? = some v → l.lookup f = some v
/-- an exception with its fields -/
def RX (T : Tb) (w : Wd) (cls : Value) (d : Option Addr) (c : Nat) (fs : List D) : Prop :=
  ∃ (C dd : Addr) (nms : List Str) (l : List (Str × V)) (vs : List V), T.exc c = some (C, nms) ∧ cls = .ref C ∧ d = some dd ∧ w.F dd = some (.xd l) ∧ FLk l nms vs ∧ RVs T w vs fs
abbrev XW := Value → Option Addr → Hp → Prop
/-- what is wanted of an end -/
def Post {α : Type} (T : Tb) (w : Wd) (H : Hp) (out : Out (α × Cells)) (X : XW) (G : α × Cells → Wd → Hp → Prop) : Prop := match out with
  | .ok r => ∀ w' H', Ext w H w' H' → Wok T w' H' r.2 → G r w' H'
  | .exc c fs κ => ∀ w' H' cls d, Ext w H w' H' → Wok T w' H' κ → RX T w' cls d c fs → X cls d H'
  | .bad => False
section
variable {α β : Type} {T : Tb} {w w' : Wd} {H H' : Hp} {X : XW}
theorem Post.step {out : Out (α × Cells)} {G : α × Cells → Wd → Hp → Prop} (p : Post T w H out X G) (e : Ext w H w' H') : Post T w' H' out X G := by
  cases out with
  | ok r => exact fun w2 H2 e2 k => p w2 H2 (e.trans e2) k
  | exc c fs κ => exact fun w2 H2 cls d e2 k r => p w2 H2 cls d (e.trans e2) k r
  | bad => exact p
theorem Post.bind {m : Out (α × Cells)} {f : α × Cells → Out (β × Cells)} {G : β × Cells → Wd → Hp → Prop} (p : Post T w H (m.bind f) X G) : Post T w H m X (fun r w' H' => Post T w' H' (f r) X G) := by
  cases m with
  | ok r => exact fun w2 H2 e k => Post.step (show Post T w H (f r) X G from p) e
  | exc c fs κ => exact p
  | bad => exact p
theorem Post.imp {m : Out (α × Cells)} {G G' : α × Cells → Wd → Hp → Prop} (p : Post T w H m X G) (h : ∀ r w' H', m = .ok r → Ext w H w' H' → Wok T w' H' r.2 → G r w' H' → G' r w' H') : Post T w H m X G' := by
  cases m with
  | ok r => exact fun w2 H2 e k => h r w2 H2 rfl e k (p w2 H2 e k)
  | exc c fs κ => exact p
  | bad => exact p
theorem Post.ok {r : α × Cells} {G : α × Cells → Wd → Hp → Prop} (p : Post T w H (.ok r) X G) (k : Wok T w H r.2) : G r w H := p w H (Ext.rfl' w H) k
/-- a step that may have no outcome -/
theorem Post.opt {o : Option β} {f : β → Out (α × Cells)} {G : α × Cells → Wd → Hp → Prop} (p : Post T w H ((opt o).bind f) X G) : ∃ b, o = some b ∧ Post T w H (f b) X G := by
  cases o with
  | none => exact False.elim p
  | some b => exact ⟨b, rfl, p⟩
end

/-- of an expression: the value, at its place -/
def GE (T : Tb) (H₀ : Hp) (σV : St) (Q : V → Hp → Prop) : O × Cells → Wd → Hp → Prop := fun r w H => ∀ v, RO T w H v r.1 → Bor σV v r.1 → (r.1.tag = none → Young H₀ v r.1) → Q v H
def GA (T : Tb) (Q : List V → Hp → Prop) : List D × Cells → Wd → Hp → Prop := fun r w H => ∀ vs, RVs T w vs r.1 → Q vs H
def tE (T : Tb) (Γ : Cxt) (e : E) (W : WX) : TE := fun σV H Q => ∃ w σ κ, Wok T w H κ ∧ RS T w H σV σ ∧ Post T w H (ev Γ e σ κ) (fun c d H' => W c d σV H') (GE T H σV Q)
def tA (T : Tb) (Γ : Cxt) (e : E) (W : WX) : TA := fun σV H Q => ∃ w σ κ, Wok T w H κ ∧ RS T w H σV σ ∧ Post T w H (evs Γ e σ κ) (fun c d H' => W c d σV H') (GA T Q)

/-! ### steps of the world -/
section
variable {T : Tb} {w : Wd} {H : Hp} {κ : Cells}
def Wd.put (w : Wd) (p : Addr) (o : HO) : Wd := ⟨upd w.F p o, w.θ⟩
theorem Wok.noF (k : Wok T w H κ) {p : Addr} (h : H p = none) : w.F p = none := by
  cases q : w.F p with
  | none => rfl
  | some o => rw [k.le p o q] at h; cases h
theorem same_upd {H : Hp} {p : Addr} (o : HO) (h : H p = none) : Same H (upd H p o) := fun b u e => by rw [upd_ne (ne_of_none e h)]; exact e
theorem Wok.cellAt (k : Wok T w H κ) {a : Addr} (h : a ∈ w.θ) : ∃ o, H a = some o := by
  obtain ⟨n, hn, e⟩ := List.mem_iff_getElem.mp h
  obtain ⟨o, c, _, _, q⟩ := k.cell n a (by rw [List.getElem?_eq_getElem hn, e])
  obtain ⟨lk, co⟩ := c
  cases lk with
  | true =>
    obtain ⟨od, q⟩ := q
    exact ⟨_, k.le _ _ q⟩
  | false => exact ⟨_, q.2⟩
theorem le_put {p : Addr} (o : HO) (h : w.F p = none) : Le w (w.put p o) := ⟨same_upd o h, [], by simp [Wd.put]⟩
/-- a new object, never changed -/
theorem Wok.laid (k : Wok T w H κ) {p : Addr} (o : HO) (h : H p = none) : Wok T (w.put p o) (upd H p o) κ ∧ Ext w H (w.put p o) (upd H p o) := by
  have hF := k.noF h
  have np : ∀ a ∈ w.θ, a ≠ p := fun a ha e => by
    obtain ⟨u, q⟩ := k.cellAt ha
    rw [e, h] at q; cases q
  refine ⟨⟨fun a u e => ?_, k.nd, k.len, fun n a e => ?_⟩, ⟨fun a u e _ => same_upd o h a u e, fun a e => ?_, same_upd o hF, fun a e q => .inl ?_, [], by simp [Wd.put], by simp⟩⟩
  · have e' : upd w.F p o a = some u := e
    unfold upd at e' ⊢
    split
    · rw [if_pos (by assumption)] at e'; exact e'
    · rw [if_neg (by assumption)] at e'; exact k.le a u e'
  · obtain ⟨u, c, e1, r, at_⟩ := k.cell n a e
    have ne := np a (List.mem_of_getElem? e)
    exact ⟨u, c, e1, r.mono (le_put o hF), at_.move (upd_ne ne) (upd_ne ne)⟩
  · unfold upd at e
    split at e
    · cases e
    · exact e
  · have q' : upd w.F p o a ≠ none := q
    unfold upd at q'
    split at q'
    · rename_i z; rw [z]; exact h
    · exact absurd e q'
/-- a new object of one's own -/
theorem Wok.own (k : Wok T w H κ) {p : Addr} (o : HO) (h : H p = none) : Wok T w (upd H p o) κ ∧ Ext w H w (upd H p o) := by
  have np : ∀ a ∈ w.θ, a ≠ p := fun a ha e => by
    obtain ⟨u, q⟩ := k.cellAt ha
    rw [e, h] at q; cases q
  refine ⟨⟨k.le.trans (same_upd o h), k.nd, k.len, fun n a e => ?_⟩, ⟨fun a u e _ => same_upd o h a u e, fun a e => ?_, Same.refl _, fun a e q => absurd e q, [], by simp, by simp⟩⟩
  · obtain ⟨u, c, e1, r, at_⟩ := k.cell n a e
    exact ⟨u, c, e1, r, at_.move rfl (upd_ne (np a (List.mem_of_getElem? e)))⟩
  · unfold upd at e
    split at e
    · cases e
    · exact e
theorem Wok.offθ (k : Wok T w H κ) {p : Addr} (h : H p = none) : p ∉ w.θ := fun hp => by
  obtain ⟨u, q⟩ := k.cellAt hp
  rw [h] at q; cases q
/-- a cell that is read -/
theorem Wok.read (k : Wok T w H κ) {n : Nat} {a : Addr} {kvs : List (Key × D)} (h : w.θ[n]? = some a) (e : readAt κ n = some kvs) : ∃ vs, Rd H a (.dK vs) ∧ PR T w vs kvs := by
  obtain ⟨o, c, e1, r, at_⟩ := k.cell n a h
  unfold readAt at e
  rw [e1] at e
  obtain ⟨lk, co⟩ := c
  cases co with
  | dk ds =>
    have e : some ds = some kvs := e
    cases e
    cases r with
    | dk p =>
      cases lk with
      | true =>
        obtain ⟨od, q⟩ := at_
        exact ⟨_, .inr ⟨od, k.le _ _ q⟩, p⟩
      | false => exact ⟨_, .inl at_.2, p⟩
  | _ => cases e
/-- a cell that may be changed -/
theorem Wok.open_ (k : Wok T w H κ) {n : Nat} {a : Addr} {kvs : List (Key × D)} (h : w.θ[n]? = some a) (e : openAt κ n = some kvs) : ∃ vs, H a = some (.dK vs) ∧ PR T w vs kvs ∧ w.F a = none ∧ κ[n]? = some ⟨false, .dk kvs⟩ := by
  obtain ⟨o, c, e1, r, at_⟩ := k.cell n a h
  unfold openAt at e
  rw [e1] at e
  obtain ⟨lk, co⟩ := c
  cases lk with
  | true => cases e
  | false =>
    cases co with
    | dk ds =>
      have e : some ds = some kvs := e
      cases e
      cases r with
      | dk p => exact ⟨_, at_.2, p, at_.1, e1⟩
    | _ => cases e
/-- a cell that is walked -/
theorem Wok.locked (k : Wok T w H κ) {n : Nat} {a : Addr} {kvs : List (Key × D)} (h : w.θ[n]? = some a) (e : lockedAt κ n = some kvs) : ∃ vs od, w.F a = some (.frz od (.dK vs)) ∧ PR T w vs kvs := by
  obtain ⟨o, c, e1, r, at_⟩ := k.cell n a h
  unfold lockedAt at e
  rw [e1] at e
  obtain ⟨lk, co⟩ := c
  cases lk with
  | false => cases e
  | true =>
    cases co with
    | dk ds =>
      have e : some ds = some kvs := e
      cases e
      cases r with
      | dk p =>
        obtain ⟨od, h2⟩ := at_
        exact ⟨_, od, h2, p⟩
    | _ => cases e
/-- one's own is given away -/
theorem Wok.give (k : Wok T w H κ) {p : Addr} {o : HO} (h : H p = some o) (n : p ∉ w.θ) (f : w.F p = none) : Wok T (w.put p o) H κ := by
  refine ⟨fun a u e => ?_, k.nd, k.len, fun m a e => ?_⟩
  · have e' : upd w.F p o a = some u := e
    unfold upd at e'
    split at e'
    · rename_i z; rw [z, h]; exact e'
    · exact k.le a u e'
  · obtain ⟨u, c, e1, r, at_⟩ := k.cell m a e
    exact ⟨u, c, e1, r.mono (le_put o f), at_.move (upd_ne fun z => n (by rw [← z]; exact List.mem_of_getElem? e)) rfl⟩
theorem Ext.give {w₀ : Wd} {H₀ : Hp} (e : Ext w₀ H₀ w H) {p : Addr} {o : HO} (n : H₀ p = none) (f : w.F p = none) : Ext w₀ H₀ (w.put p o) H := by
  refine ⟨e.keep, e.dom, e.F.trans (same_upd o f), fun a h q => ?_, e.θ⟩
  have q' : upd w.F p o a ≠ none := q
  unfold upd at q'
  split at q'
  · rename_i z; rw [z]; exact .inl n
  · exact e.new a h q'
/-- a value that is given away -/
theorem RO.give {v : V} {o : O} {d : D} (h : RO T w H v o) (k : Wok T w H κ) (e : o.frz = some d) {w₀ : Wd} {H₀ : Hp} (x : Ext w₀ H₀ w H) (y : Young H₀ v o) : ∃ w', Wok T w' H κ ∧ Ext w₀ H₀ w' H ∧ Le w w' ∧ RV T w' v d := by
  cases o with
  | fz d' => cases e; exact ⟨w, k, x, Le.rfl' w, h⟩
  | ol b xs =>
    cases b with
    | some i => cases e
    | none =>
      cases e
      obtain ⟨a, vs, rfl, h1, r, n, f⟩ := h
      exact ⟨w.put a (.lst vs), k.give h1 n f, x.give (y rfl a rfl) f, le_put _ f, .lst (by show upd _ _ _ _ = _; exact upd_same) (r.mono (le_put _ f))⟩
  | od b xs =>
    cases b with
    | some i => cases e
    | none =>
      cases e
      obtain ⟨a, vs, rfl, h1, r, n, f⟩ := h
      obtain ⟨ks, us, es, rfl, rfl, el, r⟩ := r.unzip
      exact ⟨w.put a _, k.give h1 n f, x.give (y rfl a rfl) f, le_put _ f, .dK (by show upd _ _ _ _ = _; exact upd_same) el (r.mono (le_put _ f))⟩
  | ot b xs =>
    cases b with
    | some i => cases e
    | none =>
      cases e
      obtain ⟨a, vs, rfl, h1, r, n, f⟩ := h
      obtain ⟨ks, us, es, rfl, rfl, el, r⟩ := r.unzip
      exact ⟨w.put a _, k.give h1 n f, x.give (y rfl a rfl) f, le_put _ f, .dT (by show upd _ _ _ _ = _; exact upd_same) el (r.mono (le_put _ f))⟩
/-- what an end with a value of no place wants -/
theorem GE.fz {σV : St} {H₀ : Hp} {Q : V → Hp → Prop} {d : D} {κ : Cells} {v : V} (g : GE T H₀ σV Q (.fz d, κ) w H) (r : RV T w v d) : Q v H :=
  g v r (fun i e => by cases e) (fun _ p => by cases p)
theorem GE.own {σV : St} {H₀ : Hp} {Q : V → Hp → Prop} {xs : List D} {κ : Cells} {a : Addr} {vs : List V} (g : GE T H₀ σV Q (.ol none xs, κ) w H) (h : H a = some (.lst vs)) (r : RVs T w vs xs) (n : a ∉ w.θ) (f : w.F a = none) (y : H₀ a = none) : Q (.ref a) H :=
  g (.ref a) ⟨a, vs, rfl, h, r, n, f⟩ (fun i e => by cases e) (fun _ _ b e => by cases e; exact y)
end
/-- what is read of a value now, whoever holds it -/
theorem rd_tup {T : Tb} {w : Wd} {H : Hp} {κ : Cells} {v : V} {xs : List D} {o : O} (h : RO T w H v o) (k : Wok T w H κ) (e : o.d = .tup xs) : ∃ a vs, v = .ref a ∧ SqT T.K H a vs ∧ RVs T w vs xs := by
  cases o with
  | fz d =>
    have e' : d = .tup xs := e
    subst e'
    cases h with
    | tup q r => exact ⟨_, _, rfl, sqT_mono k.le q, r⟩
  | ol b ys => cases e
  | od b ys => cases e
  | ot b ys => cases e
theorem rd_lst {T : Tb} {w : Wd} {H : Hp} {κ : Cells} {v : V} {xs : List D} {o : O} (h : RO T w H v o) (k : Wok T w H κ) (e : o.d = .lst xs) : ∃ a vs, v = .ref a ∧ H a = some (.lst vs) ∧ RVs T w vs xs := by
  cases o with
  | fz d =>
    have e' : d = .lst xs := e
    subst e'
    cases h with
    | lst q r => exact ⟨_, _, rfl, k.le _ _ q, r⟩
  | ol b ys =>
    have e' : D.lst ys = .lst xs := e
    cases e'
    obtain ⟨a, vs, rfl, h1, r, _, _⟩ := h
    exact ⟨a, vs, rfl, h1, r⟩
  | od b ys => cases e
  | ot b ys => cases e
/-- other kinds stand in no place -/
theorem rd_fz {T : Tb} {w : Wd} {H : Hp} {v : V} {o : O} (h : RO T w H v o) {d : D} (e : o.d = d) (p : o.place = false) : RV T w v d := by
  cases o with
  | fz d' =>
    have e' : d' = d := e
    subst e'; exact h
  | _ => cases p
end R

/-! R4: operators by what they do to values. -/
namespace R
open L2 PyProof.Rows PySem.Spec PySem

section
variable {X : Cx}
theorem tuple_one (l : Addr) (items : Array Value) (n : Nat) (dd : Option Addr) (sl : Array (Option Value)) (u : Tok) :
    Meets (Builtin.«tuple.__mul__» ⟨[.ref l, .int 1 u], []⟩) (fun _ R s => s.heap.get? l = some { cls := .type "tuple", dict := dd, data := .seq items n, slots := sl } ∧ R (.ok (.ret (Value.ref l))) s) :=
  .of_wp fun pg w A R s h => by
    obtain ⟨hp, g, d, tk, os⟩ := (s)
    obtain ⟨hl, h⟩ := h
    have f1 := AutoSeq1.idx_int
    (wp_walk using wpAny_loadPart' hl)
    repeat (first
      | (refine wpAny_ite_false (by decide) ?_; wp_walk using wpAny_loadPart' hl)
      | (refine wpAny_ite_true (by simp) ?_; wp_walk using wpAny_loadPart' hl))
    exact ⟨_, rfl, h⟩
/-- t * 1 is t -/
theorem op_mulT1 : OpR X (binaryOp .Mult) (fun x y H Q => ∃ l xs, x = .ref l ∧ y = .int 1 ∧ SqT X.K H l xs ∧ Q (.ref l) H) := by
  intro pins; intro s σ H x y v u Q I rx ry h
  obtain ⟨l, xs, rfl, rfl, hT, q⟩ := h
  cases rx
  obtain ⟨t, rfl⟩ := ry
  obtain ⟨its, r, ⟨⟨cls, dd, data, sl⟩, ho, hc, n, hd⟩, hs⟩ := (I.tuple hT)
  simp only at hc hd
  subst hc hd
  exact wpAny_binaryOp_repeat_ref (T := "tuple") (U := "int") (by decide) ⟨_, ho, rfl⟩ (fun s' => typeIs_int s' 1 t) noFill_tuple_mul F.fills_int_mul F.slot_int_rmul repeat_tuple F.slot_int_index.lookup
    (call_meets F.slot_int_rmul (typeIs_int s 1 t) F.entry_int_rmul (F.args_int_rmul_2 _ _) (int_rmul_tuple 1 t l its.toArray n dd sl)
      ⟨ho, rfl, ⟨_, ho, rfl⟩, call_meets F.slot_tuple_mul ⟨_, ho, rfl⟩ F.entry_tuple_mul (F.args_tuple_mul_2 _ _) (tuple_one l its.toArray n dd sl t) ⟨ho, .ref l, H, I, rfl, q⟩⟩)
def CDv (_ j : Int) : Prop := j ≠ 0 ∧ j.natAbs.log2 < 9000
theorem op_fdv : OpR X (binaryOp .FloorDiv) (rI CDv fun i j => .int (i.fdiv j)) := opI fun _ _ _ _ _ _ _ hc q => floordiv_int hc.1 q (.inl (PyProof.noPylong_of_log2 hc.2))
end
def Bop.op : Bop → Operator
  | .add => .Add | .sub => .Sub | .mul => .Mult | .fdiv => .FloorDiv | .mod => .Mod | .pow => .Pow
/-- what goes on behind a new value -/
def Go (T : Tb) (w : Wd) (H : Hp) (κ : Cells) (o : O) (Q : VK) : Prop := ∀ w' H', Ext w H w' H' → Wok T w' H' κ → ∀ v, RO T w' H' v o → Young H v o → Q v H'
theorem Go.fz {T : Tb} {w : Wd} {H : Hp} {κ : Cells} {d : D} {Q : VK} {v : V} (g : Go T w H κ (.fz d) Q) (k : Wok T w H κ) (r : RV T w v d) : Q v H :=
  g w H (Ext.rfl' w H) k v r (fun p => by cases p)
theorem Go.lst {T : Tb} {w : Wd} {H : Hp} {κ : Cells} {xs : List D} {Q : VK} {vs : List V} {p : Addr} (g : Go T w H κ (.ol none xs) Q) (k : Wok T w H κ) (r : RVs T w vs xs) (hp : H p = none) : Q (.ref p) (upd H p (.lst vs)) :=
  let z := k.own (.lst vs) hp
  g w _ z.2 z.1 (.ref p) ⟨p, vs, rfl, upd_same, r, k.offθ hp, k.noF hp⟩ (fun _ b e => by cases e; exact hp)
theorem Go.tup {T : Tb} {w : Wd} {H : Hp} {κ : Cells} {xs : List D} {Q : VK} {vs : List V} {p : Addr} (g : Go T w H κ (.fz (.tup xs)) Q) (k : Wok T w H κ) (r : RVs T w vs xs) (hp : H p = none) : Q (.ref p) (upd H p (.tup vs)) :=
  let z := k.laid (.tup vs) hp
  g _ _ z.2 z.1 (.ref p) (.tup (.inl (.inl (by show upd _ _ _ _ = _; exact upd_same))) (r.mono (le_put _ (k.noF hp)))) (fun p => by cases p)
def rBin (T : Tb) (op : Bop) : R2 := fun x y H Q => ∃ w κ ox oy o, Wok T w H κ ∧ RO T w H x ox ∧ RO T w H y oy ∧ binD op ox.d oy.d = some o ∧ Go T w H κ o Q
section
variable {T : Tb} {w : Wd} {H : Hp} {κ : Cells}
theorem rd_int {v : V} {o : O} {i : Int} (h : RO T w H v o) (e : o.d = .int i) : v = .int i := by
  cases o with
  | fz d =>
    have e' : d = .int i := e
    subst e'; cases h; rfl
  | _ => cases e
theorem rd_bl {v : V} {o : O} {i : Bool} (h : RO T w H v o) (e : o.d = .bl i) : v = .bl i := by
  cases o with
  | fz d =>
    have e' : d = .bl i := e
    subst e'; cases h; rfl
  | _ => cases e
theorem rd_str {v : V} {o : O} {i : Str} (h : RO T w H v o) (e : o.d = .str i) : v = .str i := by
  cases o with
  | fz d =>
    have e' : d = .str i := e
    subst e'; cases h; rfl
  | _ => cases e
theorem rd_non {v : V} {o : O} (h : RO T w H v o) (e : o.d = .non) : v = .non := by
  cases o with
  | fz d =>
    have e' : d = .non := e
    subst e'; cases h; rfl
  | _ => cases e
end
theorem rd_tupV {T : Tb} {w : Wd} {H : Hp} {v : V} {o : O} {xs : List D} (h : RO T w H v o) (e : o.d = .tup xs) : RV T w v (.tup xs) := by
  cases o with
  | fz d =>
    have e' : d = .tup xs := e
    subst e'; exact h
  | _ => cases e
theorem rd_dK {T : Tb} {w : Wd} {H : Hp} {κ : Cells} {v : V} {o : O} {xs : List (Key × D)} (h : RO T w H v o) (k : Wok T w H κ) (e : o.d = .dK xs) : ∃ a vs, v = .ref a ∧ H a = some (.dK vs) ∧ PR T w vs xs := by
  cases o with
  | fz d =>
    have e' : d = .dK xs := e
    subst e'
    cases h with
    | dK q el r => exact ⟨_, _, rfl, k.le _ _ q, PR.zip el r⟩
  | od b ys =>
    have e' : D.dK ys = .dK xs := e
    cases e'
    obtain ⟨a, vs, rfl, h1, r, _, _⟩ := h
    exact ⟨a, vs, rfl, h1, r⟩
  | ol b ys => cases e
  | ot b ys => cases e
theorem rd_key {T : Tb} {w : Wd} {H : Hp} {v : V} {o : O} {k : Key} (h : RO T w H v o) (e : keyOf o.d = some k) : v = kV k := by
  generalize ed : o.d = d at e
  unfold keyOf at e
  split at e
  · cases e; rw [rd_int h ed]; rfl
  · cases e; rw [rd_str h ed]; rfl
  · cases e
theorem op_bin {T : Tb} {X : Cx} (hK : X.K = T.K) (op : Bop) : OpR X (binaryOp op.op) (rBin T op) := by
  intro pins; intro s σ H x y v u Q I rx ry h
  obtain ⟨w, κ, ox, oy, o, k, hx, hy, hb, g⟩ := h
  revert hb
  generalize ex : ox.d = dx
  generalize ey : oy.d = dy
  intro hb
  unfold binD at hb
  split at hb
  · cases hb; cases rd_int hx ex; cases rd_int hy ey
    exact op_add pins s σ H _ _ v u Q I rx ry ⟨_, _, rfl, rfl, g.fz k (.int _)⟩
  · split at hb
    · cases hb; cases rd_str hx ex; cases rd_str hy ey
      exact op_add_str pins s σ H _ _ v u Q I rx ry ⟨_, _, rfl, rfl, by assumption, g.fz k (.str _)⟩
    · cases hb
  · split at hb
    · cases hb
      obtain ⟨a, vs, rfl, h1, r1⟩ := rd_lst hx k ex
      obtain ⟨b, us, rfl, h2, r2⟩ := rd_lst hy k ey
      exact op_cat pins s σ H _ _ v u Q I rx ry ⟨a, b, vs, us, rfl, rfl, h1, h2, by rw [r1.length, r2.length]; assumption, fun p hp => g.lst k (r1.append r2) hp⟩
    · cases hb
  · split at hb
    · cases hb
      obtain ⟨a, vs, rfl, h1, r1⟩ := rd_tup hx k ex
      obtain ⟨b, us, rfl, h2, r2⟩ := rd_tup hy k ey
      rename_i ds es hl
      refine op_catA pins s σ H _ _ v u Q I rx ry ⟨a, b, vs, us, rfl, rfl, by rw [hK]; exact h1, by rw [hK]; exact h2, by rw [r1.length, r2.length]; exact hl, fun e => ?_, fun e e' => ?_, fun _ _ p hp => g.tup k (r1.append r2) hp⟩
      · subst e
        cases r1
        exact g.fz k (rd_tupV hy ey)
      · subst e'
        cases r2
        rw [List.append_nil] at g
        exact g.fz k (rd_tupV hx ex)
    · cases hb
  · cases hb; cases rd_int hx ex; cases rd_int hy ey
    exact op_sub pins s σ H _ _ v u Q I rx ry ⟨_, _, rfl, rfl, g.fz k (.int _)⟩
  · split at hb
    · cases hb; cases rd_int hx ex; cases rd_int hy ey
      rename_i hm
      exact op_mulW pins s σ H _ _ v u Q I rx ry ⟨_, _, rfl, rfl, by unfold mulOk at hm; have z := of_decide_eq_true hm; exact z, g.fz k (.int _)⟩
    · cases hb
  · split at hb
    · cases hb
      rename_i hm
      simp only [Bool.and_eq_true, decide_eq_true_eq] at hm
      obtain ⟨a, vs, rfl, h1, r1⟩ := rd_lst hx k ex
      cases rd_int hy ey
      exact op_rep pins s σ H _ _ v u Q I rx ry ⟨a, _, vs, rfl, rfl, h1, hm.1.1, hm.1.2, by rw [r1.length]; exact hm.2, fun p hp => g.lst k (r1.rep _) hp⟩
    · cases hb
  · split at hb
    · cases hb
      rename_i ds j hm
      simp only [Bool.and_eq_true, decide_eq_true_eq, Bool.not_eq_true', List.isEmpty_eq_false_iff] at hm
      obtain ⟨a, vs, rfl, h1, r1⟩ := rd_tup hx k ex
      cases rd_int hy ey
      by_cases h2 : j = 1
      · subst h2
        refine op_mulT1 pins s σ H _ _ v u Q I rx ry ⟨a, vs, rfl, rfl, by rw [hK]; exact h1, ?_⟩
        have e : (List.replicate (1 : Int).toNat ds).flatten = ds := by simp
        rw [e] at g
        exact g.fz k (rd_tupV hx ex)
      · exact op_repT pins s σ H _ _ v u Q I rx ry ⟨a, _, vs, rfl, rfl, by rw [hK]; exact h1, fun e => by subst e; cases r1; exact hm.1.1.1 rfl, by omega, hm.1.2, by rw [r1.length]; exact hm.2, fun p hp => g.tup k (r1.rep _) hp⟩
    · cases hb
  · split at hb
    · cases hb; cases rd_int hx ex; cases rd_int hy ey
      rename_i hm
      unfold divOk at hm
      simp only [Bool.and_eq_true, decide_eq_true_eq] at hm
      exact op_fdv pins s σ H _ _ v u Q I rx ry ⟨_, _, rfl, rfl, hm, g.fz k (.int _)⟩
    · cases hb
  · split at hb
    · cases hb
    · cases hb; cases rd_int hx ex; cases rd_int hy ey
      exact op_modN pins s σ H _ _ v u Q I rx ry ⟨_, _, rfl, rfl, by assumption, g.fz k (.int _)⟩
  · split at hb
    · cases hb; cases rd_int hx ex; cases rd_int hy ey
      rename_i hm
      simp only [Bool.and_eq_true, decide_eq_true_eq] at hm
      exact op_pow pins s σ H _ _ v u Q I rx ry ⟨_, _, rfl, rfl, ⟨hm.1.1, hm.1.2, hm.2⟩, g.fz k (.int _)⟩
    · cases hb
  · cases hb
/-! ### comparisons -/
def Cop.op : Cop → CmpOp
  | .eq => .Eq | .ne => .NotEq | .lt => .Lt | .le => .LtE | .gt => .Gt | .ge => .GtE | .is => .Is | .isnt => .IsNot | .in_ => .In | .notin => .NotIn
mutual
theorem RV.dp {T : Tb} {w : Wd} {H : Hp} (le : Same w.F H) : ∀ {v : V} {d : D} {p : PyData}, RV T w v d → d.py = some p → Dp T.K H v p
  | _, _, _, .non, e => by simp [D.py] at e; subst e; exact .non
  | _, _, _, .bl b, e => by simp [D.py] at e; subst e; exact .bl b
  | _, _, _, .int i, e => by simp [D.py] at e; subst e; exact .int i
  | _, _, _, .str x, e => by simp [D.py] at e; subst e; exact .str x
  | _, _, _, .tup q r, e => by
    simp only [D.py, Option.map_eq_some_iff] at e
    obtain ⟨ps, e1, rfl⟩ := e
    exact .tup (sqT_mono le q) (RVs.dp le r e1)
  | _, _, _, .lst q r, e => by
    simp only [D.py, Option.map_eq_some_iff] at e
    obtain ⟨ps, e1, rfl⟩ := e
    exact .lst (SqL.of (le _ _ q)) (RVs.dp le r e1)
  | _, _, _, .scr q r, e => by simp [D.py] at e
  | _, _, _, .dK q _ r, e => by simp [D.py] at e
  | _, _, _, .dT q _ r, e => by simp [D.py] at e
  | _, _, _, .ins _ q _ r, e => by simp [D.py] at e
  | _, _, _, .obj _, e => by simp [D.py] at e
theorem RVs.dp {T : Tb} {w : Wd} {H : Hp} (le : Same w.F H) : ∀ {vs : List V} {ds : List D} {ps : List PyData}, RVs T w vs ds → D.pys ds = some ps → DpAll T.K H vs ps
  | _, _, _, .nil, e => by simp [D.pys] at e; subst e; exact .nil
  | _, _, _, .cons (d := d) (ds := ds) a r, e => by
    unfold D.pys at e
    cases e1 : d.py with
    | none => rw [e1] at e; simp at e
    | some p =>
      cases e2 : D.pys ds with
      | none => rw [e1, e2] at e; simp at e
      | some ps =>
        rw [e1, e2] at e
        simp only [Option.some.injEq] at e
        subst e
        exact .cons (RV.dp le a e1) (RVs.dp le r e2)
end
theorem RO.dp {T : Tb} {w : Wd} {H : Hp} {κ : Cells} {v : V} {o : O} {p : PyData} (h : RO T w H v o) (k : Wok T w H κ) (e : o.d.py = some p) : Dp T.K H v p := by
  cases o with
  | fz d => exact RV.dp k.le h e
  | ol b xs =>
    obtain ⟨a, vs, rfl, h1, r, _⟩ := h
    have e' : (D.lst xs).py = some p := e
    simp only [D.py, Option.map_eq_some_iff] at e'
    obtain ⟨ps, e1, rfl⟩ := e'
    exact .lst (SqL.of h1) (RVs.dp k.le r e1)
  | od b xs => simp [O.d, D.py] at e
  | ot b xs => simp [O.d, D.py] at e
/-- flat values -/
theorem RV.flat {T : Tb} {w : Wd} {v : V} {d : D} (h : RV T w v d) (f : d.flat = true) : flatV v = true := by
  cases h <;> first | rfl | (simp [D.flat] at f)
theorem RV.eqF {T : Tb} {w : Wd} {v u : V} {d e : D} (h : RV T w v d) (k : RV T w u e) (f : d.flat = true) (g : e.flat = true) : eqV v u = flatEq d e := by
  cases h <;> simp [D.flat] at f <;> cases k <;> simp [D.flat] at g <;> rfl
theorem RVs.flat {T : Tb} {w : Wd} : ∀ {vs : List V} {ds : List D}, RVs T w vs ds → ds.all D.flat = true → vs.all flatV = true
  | _, _, .nil, _ => rfl
  | _, _, .cons a r, f => by
    simp only [List.all_cons, Bool.and_eq_true] at f ⊢
    exact ⟨a.flat f.1, r.flat f.2⟩
theorem RVs.anyF {T : Tb} {w : Wd} {u : V} {e : D} (k : RV T w u e) (g : e.flat = true) : ∀ {vs : List V} {ds : List D}, RVs T w vs ds → ds.all D.flat = true → (vs.any fun y => eqV y u) = ds.any fun y => flatEq y e
  | _, _, .nil, _ => rfl
  | _, _, .cons a r, f => by
    simp only [List.all_cons, Bool.and_eq_true] at f
    simp only [List.any_cons, a.eqF k f.1 g, RVs.anyF k g r f.2]
theorem RO.fzV {T : Tb} {w : Wd} {H : Hp} {v : V} {o : O} (h : RO T w H v o) (f : o.d.flat = true) : RV T w v o.d := by
  cases o with
  | fz d => exact h
  | _ => simp [O.d, D.flat] at f
def rCmp (T : Tb) (op : Cop) : R2 := fun x y H Q => ∃ w κ ox oy c, Wok T w H κ ∧ RO T w H x ox ∧ RO T w H y oy ∧ cmpC κ op ox.d oy.d = some c ∧ Q (.bl c) H
theorem eqD_some {x y : D} {c : Bool} (h : eqD x y = some c) : ∃ a b, x.py = some a ∧ y.py = some b ∧ SeqAt.shaped a = true ∧ SeqAt.shaped b = true ∧ PyData.eqv a b = c := by
  unfold eqD at h
  split at h
  · rename_i a b e1 e2
    split at h
    · rename_i hs
      simp only [Bool.and_eq_true] at hs
      exact ⟨a, b, e1, e2, hs.1, hs.2, Option.some.inj h⟩
    · cases h
  · cases h
section
variable {T : Tb} {X : Cx} {pins : List (Addr × Obj)} {s : Shared} {σ : L2.St} {H : Hp} {x y : V} {v u : Value} {Q : VK} {w : Wd} {κ : Cells} {ox oy : O}
theorem in_ok (hK : X.K = T.K) (hu : X.A.units + 65 < cLine) (neg : Bool) (I : Inv X pins σ H s) (rx : RelV x v) (ry : RelV y u) (k : Wok T w H κ) (hx : RO T w H x ox) (hy : RO T w H y oy) {c : Bool} (hc : inD ox.d oy.d = some c) (q : Q (.bl (if neg then !c else c)) H) :
    wpAny (model X.prog X.w) X.A (compareOp (if neg then .NotIn else .In) v u) (EP X pins σ Q) X.xe s := by
  have flat : ∀ {ds : List D} {p : Addr} {vs : List V}, (SqL X.K H p vs ∨ SqT X.K H p vs) → y = .ref p → RVs T w vs ds → (ox.d.flat && ds.all D.flat) = true → (ds.any fun z => flatEq z ox.d) = c →
      wpAny (model X.prog X.w) X.A (compareOp (if neg then .NotIn else .In) v u) (EP X pins σ Q) X.xe s := fun {ds p vs} hs hy' r hf hv => by
    simp only [Bool.and_eq_true] at hf
    have hxv := hx.fzV hf.1
    have e : inV x vs = c := by rw [← hv]; exact RVs.anyF hxv hf.1 r hf.2
    cases neg with
    | false => exact op_in_seq pins s σ H x y v u Q I rx ry ⟨p, vs, hy', hs, hxv.flat hf.1, r.flat hf.2, by rw [e]; exact q⟩
    | true => exact op_notIn_seq pins s σ H x y v u Q I rx ry ⟨p, vs, hy', hs, hxv.flat hf.1, r.flat hf.2, by rw [e]; exact q⟩
  generalize ey : oy.d = dy at hc
  unfold inD at hc
  split at hc
  · rename_i ds
    obtain ⟨a, vs, rfl, h1, r⟩ := rd_lst hy k ey
    split at hc
    · rename_i hf
      exact flat (.inl (SqL.of h1)) rfl r hf (Option.some.inj hc)
    · split at hc
      · rename_i p bs e1 e2
        split at hc
        · rename_i hs
          simp only [Bool.and_eq_true] at hs
          have d1 := hx.dp k e1
          have d2 : Dp T.K H (.ref a) (.list bs) := .lst (SqL.of h1) (RVs.dp k.le r e2)
          cases neg with
          | false => exact op_inD hu pins s σ H x _ v u Q I rx ry ⟨p, bs, by rw [hK]; exact d1, by rw [hK]; exact d2, hs.1, hs.2, by rw [Option.some.inj hc]; exact q⟩
          | true => exact op_notInD hu pins s σ H x _ v u Q I rx ry ⟨p, bs, by rw [hK]; exact d1, by rw [hK]; exact d2, hs.1, hs.2, by rw [Option.some.inj hc]; exact q⟩
        · cases hc
      · cases hc
  · split at hc
    · rename_i hf
      obtain ⟨a, vs, rfl, h1, r⟩ := rd_tup hy k ey
      exact flat (.inr (by rw [hK]; exact h1)) rfl r hf (Option.some.inj hc)
    · cases hc
  · split at hc
    · rename_i z ex
      have e1 := rd_str hx ‹_›
      have e2 := rd_str hy ey
      subst e1 e2
      cases neg with
      | false => exact op_in_str pins s σ H _ _ v u Q I rx ry ⟨_, _, rfl, rfl, by rw [Option.some.inj hc]; exact q⟩
      | true => exact op_notin_str pins s σ H _ _ v u Q I rx ry ⟨_, _, rfl, rfl, by rw [Option.some.inj hc]; exact q⟩
    · cases hc
  · rename_i kvs
    obtain ⟨a, vs, rfl, h1, r⟩ := rd_dK hy k ey
    rw [Option.map_eq_some_iff] at hc
    obtain ⟨kk, e1, e2⟩ := hc
    have ex : x = kV kk := rd_key hx e1
    subst ex
    obtain rfl : u = Value.ref a := (ry)
    have e3 : (valV vs kk).isSome = c := by
      rcases r.look kk with ⟨q1, q2⟩ | ⟨v', d', q1, q2, _⟩
      · rw [q1, ← e2, q2] <;> rfl
      · rw [q1, ← e2, q2] <;> rfl
    cases neg with
    | false => exact d_in (by omega) I (DGet.k h1) rx fun s' I' => ⟨.bl c, H, I', by rw [e3]; rfl, q⟩
    | true => exact d_notIn (by omega) I (DGet.k h1) rx fun s' I' => ⟨.bl (!c), H, I', by rw [e3]; rfl, q⟩
  · cases hc
end
theorem isNon {T : Tb} {w : Wd} {H : Hp} {v : V} {o : O} {d : D} (h : RO T w H v o) (e : o.d = d) : decide (v = .non) = isN d := by
  cases o with
  | fz d' =>
    have e' : d' = d := e
    subst e'
    cases h <;> first | rfl | exact decide_eq_false (fun z => by cases z)
  | ol b ys =>
    obtain ⟨a, vs, rfl, _⟩ := h
    subst e
    exact decide_eq_false (fun z => by cases z)
  | od b ys =>
    obtain ⟨a, vs, rfl, _⟩ := h
    subst e
    exact decide_eq_false (fun z => by cases z)
  | ot b ys =>
    obtain ⟨a, vs, rfl, _⟩ := h
    subst e
    exact decide_eq_false (fun z => by cases z)
/-! ### comparisons of cells -/
theorem obj_at {T : Tb} {w : Wd} {H : Hp} {v : V} {o : O} {n : Nat} (h : RO T w H v o) (e : o.d = .obj n) : ∃ a, v = .ref a ∧ w.θ[n]? = some a := by
  cases o with
  | fz d =>
    have e' : d = .obj n := e
    subst e'
    cases (show RV T w v (.obj n) from h) with
    | obj hn => exact ⟨_, rfl, hn⟩
  | ol b ys => cases (show D.lst ys = D.obj n from e)
  | od b ys => cases (show D.dK ys = D.obj n from e)
  | ot b ys => cases (show D.dT ys = D.obj n from e)
theorem in_okC {T : Tb} {X : Cx} (hK : X.K = T.K) (hu : X.A.units + 65 < cLine) (neg : Bool) {pins : List (Addr × Obj)} {s : Shared} {σ : L2.St} {H : Hp} {x y : V} {v u : Value} {Q : VK} {w : Wd} {κ : Cells} {ox oy : O} {c : Bool}
    (I : Inv X pins σ H s) (rx : RelV x v) (ry : RelV y u) (k : Wok T w H κ) (hx : RO T w H x ox) (hy : RO T w H y oy) (hc : inC κ ox.d oy.d = some c) (q : Q (.bl (if neg then !c else c)) H) :
    wpAny (model X.prog X.w) X.A (compareOp (if neg then .NotIn else .In) v u) (EP X pins σ Q) X.xe s := by
  by_cases z : ∃ n, oy.d = .obj n
  · obtain ⟨n, ey⟩ := z
    rw [ey] at hc
    obtain ⟨kvs, e1, e2⟩ := Option.bind_eq_some_iff.mp (show (readAt κ n).bind _ = some c from hc)
    obtain ⟨kk, e3, e4⟩ := Option.map_eq_some_iff.mp e2
    obtain ⟨a, rfl, hn⟩ := obj_at hy ey
    obtain ⟨vs, q1, q2⟩ := k.read hn e1
    have ex : x = kV kk := rd_key hx e3
    subst ex
    obtain rfl : u = Value.ref a := (ry)
    have e5 : (valV vs kk).isSome = c := by
      rcases q2.look kk with ⟨g1, g2⟩ | ⟨v', d', g1, g2, _⟩
      · rw [g1, ← e4, g2] <;> rfl
      · rw [g1, ← e4, g2] <;> rfl
    have dg : DGet H a (kV kk) (valV vs kk) := .inl ⟨vs, kk, q1, rfl, rfl⟩
    cases neg with
    | false => exact d_in (by omega) I dg rx fun s' I' => ⟨.bl c, H, I', by rw [e5]; rfl, q⟩
    | true => exact d_notIn (by omega) I dg rx fun s' I' => ⟨.bl (!c), H, I', by rw [e5]; rfl, q⟩
  · have e : inC κ ox.d oy.d = inD ox.d oy.d := by
      unfold inC
      split
      · rename_i n e
        exact absurd ⟨n, e⟩ z
      · rfl
    rw [e] at hc
    cases neg with
    | false => exact in_ok hK hu false I rx ry k hx hy hc q
    | true => exact in_ok hK hu true I rx ry k hx hy hc q
/-- what a dict's pairs are, asked one by one -/
theorem kv_at {vs : List (Key × V)} {us : List (Key × Value)} (r : KV vs us) (k : Key) : (valV vs k = none ∧ PySem.valueAt us k = none) ∨ ∃ v u, valV vs k = some v ∧ PySem.valueAt us k = some u ∧ RelV v u := by
  induction r with
  | nil => (exact .inl ⟨rfl, rfl⟩)
  | @cons p q vs us h r ih =>
    obtain ⟨h1, h2⟩ := h
    unfold valV PySem.valueAt at *
    by_cases e : p.1 = k
    · exact .inr ⟨p.2, q.2, by simp [e], by simp [← h1, e], h2⟩
    · have e' : ¬ q.1 = k := by rw [← h1]; exact e
      simpa [List.find?_cons, e, e'] using ih
theorem hits_of {T : Tb} {X : Cx} {w : Wd} {H : Hp} {κ : Cells} {pins : List (Addr × Obj)} {σ : L2.St} {s : Shared} (hK : X.K = T.K) (k : Wok T w H κ) (I : Inv X pins σ H s) (hu : X.A.in1.units + 64 < cLine) {ls : List (Key × V)} {db : List (Key × D)} {vb : List (Key × Value)} (pb : PR T w ls db) (rb : KV ls vb) :
    ∀ {da : List (Key × D)} {ks : List (Key × V)} {va : List (Key × Value)} {c : Bool}, PR T w ks da → KV ks va → eqKv da db = some c → PySem.W.KeqHits X.A.in1 s vb va c
  | [], _, _, c, pa, ra, h => by
    cases pa
    cases ra
    cases h
    exact .nil
  | (kk, d) :: da, _, _, c, pa, ra, h => by
    cases pa with
    | @cons _ v _ vs _ hv pa =>
    cases ra with
    | @cons _ q _ us hq ra =>
    obtain ⟨q1, q2⟩ := q
    obtain ⟨h1, h2⟩ := hq
    have h1 : kk = q1 := h1
    subst h1
    have h2 : RelV v q2 := h2
    rw [eqKv] at h
    rcases kv_at rb kk with ⟨z1, z2⟩ | ⟨v', u', z1, z2, z3⟩
    · rcases pb.look kk with ⟨y1, y2⟩ | ⟨v2, d2, y1, _, _⟩
      · rw [y2] at h
        cases h
        exact .miss z2
      · rw [z1] at y1; cases y1
    · rcases pb.look kk with ⟨y1, _⟩ | ⟨v2, d2, y1, y2, y3⟩
      · rw [z1] at y1; cases y1
      · rw [z1] at y1
        cases y1
        rw [y2] at h
        obtain ⟨e, h3, h4⟩ := Option.bind_eq_some_iff.mp h
        obtain ⟨b, h5, rfl⟩ := Option.map_eq_some_iff.mp h4
        obtain ⟨p1, p2, e1, e2, s1, s2, rfl⟩ := eqD_some h3
        obtain ⟨_, r1⟩ := Dp.reads I p1 v q2 (by rw [hK]; exact hv.dp k.le e1) h2
        obtain ⟨_, r2⟩ := Dp.reads I p2 v' u' (by rw [hK]; exact y3.dp k.le e2) z3
        exact .hit z2 (PySem.W.keq_at r1 r2 s1 s2 hu) (hits_of hK k I hu pb rb pa ra h5)
/-- dicts -/
theorem eq_cells {T : Tb} {X : Cx} {w : Wd} {κ : Cells} (hK : X.K = T.K) (hu : X.A.units + 65 < cLine) (neg : Bool) {pins : List (Addr × Obj)} {s : Shared} {σ : L2.St} {H : Hp} (k : Wok T w H κ) {a b : Addr} {ks ls : List (Key × V)} {ka kb : List (Key × D)} {Q : VK} {c : Bool}
    (I : Inv X pins σ H s) (ea : H a = some (.dK ks)) (eb : H b = some (.dK ls)) (pa : PR T w ks ka) (pb : PR T w ls kb) (h : ka.length ≠ kb.length ∧ c = false ∨ ka.length = kb.length ∧ eqKv ka kb = some c) (q : Q (.bl (if neg then !c else c)) H) :
    wpAny (model X.prog X.w) X.A (compareOp (if neg then .NotEq else .Eq) (.ref a) (.ref b)) (EP X pins σ Q) X.xe s := by
  obtain ⟨_, ya, va, ra, da⟩ := ((show ObjOk X.prog X.w H s.heap a (.dK ks) from I.hok a _ ea))
  obtain ⟨_, yb, vb, rb, db⟩ := ((show ObjOk X.prog X.w H s.heap b (.dK ls) from I.hok b _ eb))
  have la := ra.length
  have lb := rb.length
  have la2 := pa.length
  have lb2 := pb.length
  have hu2 : X.A.units < cLine := by omega
  have hu3 : X.A.in1.units + 64 < cLine := by simp only [Around.in1_units]; omega
  rcases h with ⟨h1, rfl⟩ | ⟨h1, h2⟩
  · have ne : va.length ≠ vb.length := by rw [← la, ← lb, la2, lb2]; exact h1
    cases neg with
    | false => exact PySem.W.keq_eq (knd := mixKind X.prog X.w) (r := true) ya yb da db hu2 (fun z => absurd z ne) (fin_bl I q (by simp [ne]))
    | true => exact PySem.W.keq_ne (knd := mixKind X.prog X.w) (r := true) ya yb da db hu2 (fun z => absurd z ne) (fin_bl I q (by simp [ne]))
  · have eq : va.length = vb.length := by rw [← la, ← lb, la2, lb2]; exact h1
    have hh := hits_of hK k I hu3 pb rb pa ra h2
    cases neg with
    | false => exact PySem.W.keq_eq (knd := mixKind X.prog X.w) (r := c) ya yb da db hu2 (fun _ => hh) (fin_bl I q (by simp [eq]))
    | true => exact PySem.W.keq_ne (knd := mixKind X.prog X.w) (r := c) ya yb da db hu2 (fun _ => hh) (fin_bl I q (by simp [eq]))
/-- None and a dict -/
theorem none_dict {prog : Program} {wo : World} {A : Around} {s : Shared} {E : Value → Shared → Prop} {K : Type} [DecidableEq K] {knd : KeyKind prog wo K} {b : Addr} {kb : List (K × Value)} {Q : Value → Shared → Prop} (db : s.heap.DictOf knd b kb) (hu : A.units < cLine) (h : Q (.bool false) s) :
    wpAny (model prog wo) A (richCompare .Eq .none (.ref b)) Q E s := by
  refine PySem.SeqAt.rc_eq_decline_or (k := false) rfl db.typeIs (by decide) PySem.F.sub_dict_NoneType PySem.F.slot_NoneType_eq PySem.F.slot_dict_eq_refl
    (fun _ hq => call_gives PySem.F.slot_NoneType_eq rfl PySem.F.entry_NoneType_eq (PySem.F.args_NoneType_eq_2 _ _) (PySem.SeqAt.NoneType___eq___none_ref_0 b) hq)
    (fun Q' hq => ?_) (fun _ hq => wpAny_of_eq (rfl : isSame .none (.ref b) = pure false) hq) (.inr hu) h
  refine wpAny_call_entry PySem.F.slot_dict_eq_refl db.typeIs PySem.F.entry_dict_eq ?_ (PySem.F.args_dict_eq_2 _ _)
  show wpAny _ _ (Builtin.Dict.dictSlotArgs "__eq__" ⟨[.ref b, .none], []⟩ >>= _) _ _ s
  refine wpAny_bind ?_
  delta Builtin.Dict.dictSlotArgs
  refine wpAny_bind (wpAny_notOrdered_dict db.typeIs ?_)
  show wpAny _ _ (pure (Value.ref b, Value.none)) _ _ s
  refine wpAny_pure ?_
  refine wpAny_bind (wpAny_isInstance (T := "NoneType") (b := false) rfl PySem.F.sub_NoneType_dict ?_)
  simp only [if_true, Bool.not_false]
  exact (wpAny_bind (wpAny_rule (wpAny_pure ⟨_, rfl, hq⟩)))
theorem none_dict_ne {prog : Program} {wo : World} {A : Around} {s : Shared} {E : Value → Shared → Prop} {K : Type} [DecidableEq K] {knd : KeyKind prog wo K} {b : Addr} {kb : List (K × Value)} {Q : Value → Shared → Prop} (db : s.heap.DictOf knd b kb) (hu : A.units < cLine) (h : Q (.bool true) s) :
    wpAny (model prog wo) A (richCompare .NotEq .none (.ref b)) Q E s := by
  refine PySem.SeqAt.rc_ne_decline_or (k := false) rfl db.typeIs (by decide) PySem.F.sub_dict_NoneType PySem.F.slot_NoneType_ne PySem.F.slot_dict_ne_refl
    (fun _ hq => call_gives PySem.F.slot_NoneType_ne rfl PySem.F.entry_NoneType_ne (PySem.F.args_NoneType_ne_2 _ _) (PySem.SeqAt.NoneType___ne___none_ref_0 b) hq)
    (fun Q' hq => ?_) (fun _ hq => wpAny_of_eq (rfl : isSame .none (.ref b) = pure false) hq) (.inr hu) h
  refine wpAny_call_entry PySem.F.slot_dict_ne_refl db.typeIs PySem.F.entry_dict_ne ?_ (PySem.F.args_dict_ne_2 _ _)
  show wpAny _ _ (Builtin.Dict.dictSlotArgs "__ne__" ⟨[.ref b, .none], []⟩ >>= _) _ _ s
  refine wpAny_bind ?_
  delta Builtin.Dict.dictSlotArgs
  refine wpAny_bind (wpAny_notOrdered_dict db.typeIs ?_)
  show wpAny _ _ (pure (Value.ref b, Value.none)) _ _ s
  refine wpAny_pure ?_
  refine wpAny_bind (wpAny_isInstance (T := "NoneType") (b := false) rfl PySem.F.sub_NoneType_dict ?_)
  simp only [if_true, Bool.not_false]
  exact (wpAny_bind (wpAny_rule (wpAny_pure ⟨_, rfl, hq⟩)))
theorem eq_none {X : Cx} (hu : X.A.units < cLine) (neg : Bool) {pins : List (Addr × Obj)} {s : Shared} {σ : L2.St} {H : Hp} {b : Addr} {ls : List (Key × V)} {Q : VK}
    (I : Inv X pins σ H s) (eb : H b = some (.dK ls)) (q : Q (.bl neg) H) :
    wpAny (model X.prog X.w) X.A (compareOp (if neg then .NotEq else .Eq) .none (.ref b)) (EP X pins σ Q) X.xe s := by
  obtain ⟨_, yb, vb, rb, db⟩ := ((show ObjOk X.prog X.w H s.heap b (.dK ls) from I.hok b _ eb))
  cases neg with
  | false => exact none_dict db hu (fin_bl I q rfl)
  | true => exact none_dict_ne db hu (fin_bl I q rfl)
theorem PR.length' {T : Tb} {w : Wd} {vs : List (Key × V)} {ds : List (Key × D)} (r : PR T w vs ds) : vs.length = ds.length := r.length
theorem eqC_cases {T : Tb} {w : Wd} {H : Hp} {κ : Cells} {x y : V} {ox oy : O} {c : Bool} (k : Wok T w H κ) (hx : RO T w H x ox) (hy : RO T w H y oy) (h : eqC κ ox.d oy.d = some c) :
    eqD ox.d oy.d = some c ∨ (∃ a b ks ls ka kb, x = .ref a ∧ y = .ref b ∧ H a = some (.dK ks) ∧ H b = some (.dK ls) ∧ PR T w ks ka ∧ PR T w ls kb ∧ (ka.length ≠ kb.length ∧ c = false ∨ ka.length = kb.length ∧ eqKv ka kb = some c)) ∨
      ∃ b ls, x = .non ∧ y = .ref b ∧ H b = some (.dK ls) ∧ c = false := by
  generalize ex : ox.d = dx at h
  generalize ey : oy.d = dy at h
  unfold eqC at h
  split at h
  · rename_i n m
    obtain ⟨ka, e1, h⟩ := Option.bind_eq_some_iff.mp h
    obtain ⟨kb, e2, h⟩ := Option.bind_eq_some_iff.mp h
    obtain ⟨a, rfl, ha⟩ := obj_at hx ex
    obtain ⟨b, rfl, hb⟩ := obj_at hy ey
    obtain ⟨vs, q1, q2, _⟩ := k.open_ ha e1
    obtain ⟨us, p1, p2, _⟩ := k.open_ hb e2
    refine .inr (.inl ⟨a, b, vs, us, ka, kb, rfl, rfl, q1, p1, q2, p2, ?_⟩)
    split at h
    · rename_i hl
      exact .inr ⟨hl, h⟩
    · rename_i hl
      cases h
      exact .inl ⟨hl, rfl⟩
  · rename_i m
    obtain ⟨kb, e2, h⟩ := Option.map_eq_some_iff.mp h
    obtain ⟨b, rfl, hb⟩ := obj_at hy ey
    obtain ⟨us, p1, p2, _⟩ := k.open_ hb e2
    exact .inr (.inr ⟨b, us, rd_non hx ex, rfl, p1, h.symm⟩)
  · exact .inl h
theorem op_cmp {T : Tb} {X : Cx} (hK : X.K = T.K) (hu : X.A.units + 65 < cLine) (op : Cop) : OpR X (compareOp op.op) (rCmp T op) := by
  intro pins; intro s σ H x y v u Q I rx ry h
  obtain ⟨w, κ, ox, oy, c, k, hx, hy, hc, q⟩ := h
  cases op with
  | in_ => exact in_okC hK hu false I rx ry k hx hy hc q
  | notin =>
    have hc' : (inC κ ox.d oy.d).map (!·) = some c := hc
    rw [Option.map_eq_some_iff] at hc'
    obtain ⟨b, e, rfl⟩ := hc'
    exact in_okC hK hu true I rx ry k hx hy e q
  | eq =>
    rcases eqC_cases k hx hy (show eqC κ ox.d oy.d = some c from hc) with hc | ⟨a, b, ks, ls, ka, kb, rfl, rfl, g1, g2, g3, g4, g5⟩ | ⟨b, ls, rfl, rfl, g1, rfl⟩
    case inr.inl =>
      obtain rfl : v = Value.ref a := (rx)
      obtain rfl : u = Value.ref b := (ry)
      exact eq_cells hK hu false k I g1 g2 g3 g4 g5 q
    case inr.inr =>
      obtain rfl : v = Value.none := rx
      obtain rfl : u = Value.ref b := (ry)
      exact eq_none (by omega) false I g1 q
    obtain ⟨a, b, e1, e2, s1, s2, e⟩ := eqD_some (show eqD ox.d oy.d = some c from hc)
    exact op_eqD (by omega) pins s σ H x y v u Q I rx ry ⟨a, b, by rw [hK]; exact hx.dp k e1, by rw [hK]; exact hy.dp k e2, s1, s2, by rw [e]; exact q⟩
  | ne =>
    have hc' : (eqC κ ox.d oy.d).map (!·) = some c := hc
    rw [Option.map_eq_some_iff] at hc'
    obtain ⟨c', e', rfl⟩ := hc'
    rcases eqC_cases k hx hy e' with e' | ⟨a, b, ks, ls, ka, kb, rfl, rfl, g1, g2, g3, g4, g5⟩ | ⟨b, ls, rfl, rfl, g1, rfl⟩
    case inr.inl =>
      obtain rfl : v = Value.ref a := (rx)
      obtain rfl : u = Value.ref b := (ry)
      exact eq_cells hK hu true k I g1 g2 g3 g4 g5 q
    case inr.inr =>
      obtain rfl : v = Value.none := rx
      obtain rfl : u = Value.ref b := (ry)
      exact eq_none (by omega) true I g1 q
    obtain ⟨a, b, e1, e2, s1, s2, e⟩ := eqD_some e'
    exact op_neD (by omega) pins s σ H x y v u Q I rx ry ⟨a, b, by rw [hK]; exact hx.dp k e1, by rw [hK]; exact hy.dp k e2, s1, s2, by rw [e]; exact q⟩
  | lt =>
    have hc' : ltD ox.d oy.d = some c := hc
    unfold ltD at hc'
    split at hc'
    · cases hc'; cases rd_int hx ‹_›; cases rd_int hy ‹_›
      exact op_lt pins s σ H _ _ v u Q I rx ry ⟨_, _, rfl, rfl, q⟩
    · cases hc'; cases rd_str hx ‹_›; cases rd_str hy ‹_›
      exact op_lt_str pins s σ H _ _ v u Q I rx ry ⟨_, _, rfl, rfl, q⟩
    · cases hc'
  | le =>
    have hc : cmpD .le ox.d oy.d = some c := hc
    generalize ex : ox.d = dx at hc
    generalize ey : oy.d = dy at hc
    unfold cmpD at hc
    split at hc <;> first | contradiction | skip
    all_goals first | (cases hc; done) | skip
    all_goals
      cases hc; cases rd_int hx ‹_›; cases rd_int hy ‹_›
      exact op_le pins s σ H _ _ v u Q I rx ry ⟨_, _, rfl, rfl, q⟩
  | gt =>
    have hc : cmpD .gt ox.d oy.d = some c := hc
    generalize ex : ox.d = dx at hc
    generalize ey : oy.d = dy at hc
    unfold cmpD at hc
    split at hc <;> first | contradiction | skip
    all_goals
      cases hc; cases rd_int hx ‹_›; cases rd_int hy ‹_›
      exact op_gt pins s σ H _ _ v u Q I rx ry ⟨_, _, rfl, rfl, q⟩
  | ge =>
    have hc : cmpD .ge ox.d oy.d = some c := hc
    generalize ex : ox.d = dx at hc
    generalize ey : oy.d = dy at hc
    unfold cmpD at hc
    split at hc <;> first | contradiction | skip
    all_goals
      cases hc; cases rd_int hx ‹_›; cases rd_int hy ‹_›
      exact op_ge pins s σ H _ _ v u Q I rx ry ⟨_, _, rfl, rfl, q⟩
  | is =>
    have hc : cmpD .is ox.d oy.d = some c := hc
    generalize ex : ox.d = dx at hc
    generalize ey : oy.d = dy at hc
    unfold cmpD at hc
    split at hc <;> first | contradiction | skip
    · cases hc; cases rd_non hy ‹_›
      exact op_isN pins s σ H _ _ v u Q I rx ry ⟨rfl, by rw [isNon hx ex]; exact q⟩
    · cases hc; cases rd_bl hx ‹_›; cases rd_bl hy ‹_›
      exact op_isBl pins s σ H _ _ v u Q I rx ry ⟨_, _, rfl, rfl, q⟩
  | isnt =>
    have hc : cmpD .isnt ox.d oy.d = some c := hc
    generalize ex : ox.d = dx at hc
    generalize ey : oy.d = dy at hc
    unfold cmpD at hc
    split at hc <;> first | contradiction | skip
    · cases hc; cases rd_non hy ‹_›
      exact op_notN pins s σ H _ _ v u Q I rx ry ⟨rfl, by rw [isNon hx ex]; exact q⟩
    · cases hc; cases rd_bl hx ‹_›; cases rd_bl hy ‹_›
      exact op_notBl pins s σ H _ _ v u Q I rx ry ⟨_, _, rfl, rfl, q⟩
end R

/-! R5: truth, places, slices, built-ins by what they do to values. -/
namespace R
open L2 PyProof.Rows PySem.Spec PySem

section
variable {T : Tb} {X : Cx} {w : Wd} {H : Hp} {κ : Cells} {v : V} {o : O}
theorem rd_scr {xs : List D} (h : RO T w H v o) (k : Wok T w H κ) (e : o.d = .scr xs) : ∃ a vs, v = .ref a ∧ SqL T.K H a vs ∧ RVs T w vs xs := by
  cases o with
  | fz d =>
    have e' : d = .scr xs := e
    subst e'
    cases h with
    | scr q r => exact ⟨_, _, rfl, k.le.seq q, r⟩
  | _ => cases e
theorem isEmpty_rvs {vs : List V} {ds : List D} (r : RVs T w vs ds) : vs.isEmpty = ds.isEmpty := by cases r <;> rfl
theorem isEmpty_pr {κ : Type} {vs : List (κ × V)} {ds : List (κ × D)} (r : PR T w vs ds) : vs.isEmpty = ds.isEmpty := by cases r <;> rfl
theorem tru_D (hK : X.K = T.K) (k : Wok T w H κ) (h : RO T w H v o) {b : Bool} (e : truD o.d = some b) : TruV X.K v H b := by
  generalize ed : o.d = d at e
  unfold truD at e
  split at e
  · cases e; cases rd_non h ed; rfl
  · cases e; cases rd_bl h ed; rfl
  · cases e; cases rd_int h ed; rfl
  · split at e
    · cases e; cases rd_str h ed; exact ⟨by assumption, rfl⟩
    · cases e
  · cases e
    obtain ⟨a, vs, rfl, h1, r⟩ := rd_tup h k ed
    exact .inr (.inl ⟨vs, by rw [hK]; exact h1, by rw [isEmpty_rvs r]⟩)
  · cases e
    obtain ⟨a, vs, rfl, h1, r⟩ := rd_lst h k ed
    exact .inl ⟨vs, SqL.of h1, by rw [isEmpty_rvs r]⟩
  · cases e
    obtain ⟨a, vs, rfl, h1, r⟩ := rd_scr h k ed
    exact .inl ⟨vs, by rw [hK]; exact h1, by rw [isEmpty_rvs r]⟩
  · cases e
    obtain ⟨a, vs, rfl, h1, r⟩ := rd_dK h k ed
    exact .inr (.inr ⟨vs, h1, by rw [isEmpty_pr r]⟩)
  · cases e
/-! ### places -/
theorem ix_dict (hu : X.A.units + 1 < cLine) : IxR X (fun x y H Q => ∃ a v, x = .ref a ∧ DGet H a y (some v) ∧ Q v H) := by
  intro value; intro slice pins s σ H x y v u Q I rx ry h hs
  obtain ⟨a, z, rfl, g, q⟩ := h
  obtain rfl : v = Value.ref a := (rx)
  have hT := dict_typeIs I g
  unfold subscriptTail
  refine wpAny_bind ?_
  rw [(getitemInPython_of_ne hT.not_modules)]
  refine wpAny_bind (wpAny_specialOf hT PySem.F.slot_dict_getitem.lookup ?_)
  have last : wpAny (model X.prog X.w) X.A (subscripted slice false (.ref a) u) (fun r s₃ => wpAny (model X.prog X.w) X.A (letTemporaryGo value (.ref a) r >>= fun _ => pure r) (EP X pins σ Q) X.xe s₃) X.xe s := by
    rw [hs]
    exact wpAny_operating (d_getItem hu I g ry fun w' s3 I3 rw' => wpAny_bind (wpAny_letTemporaryGo (wpAny_pure ⟨z, H, I3, rw', q⟩)))
  first
    | exact wpAny_pure (wpAny_bind last)
    | exact wpAny_bind last
    | exact wpAny_pure last
theorem ixN_lt {n : Nat} {i : Int} {j : Nat} (h : ixN n i = some j) : j < n := (ixN_seq h).2.1
theorem RVs.atI {vs : List V} {ds : List D} (r : RVs T w vs ds) {i : Int} {d : D} (h : L2.atI ds i = some d) : ∃ v, L2.atI vs i = some v ∧ RV T w v d := by
  unfold L2.atI at h ⊢
  rw [r.length]
  cases e : ixN ds.length i with
  | none => (rw [e] at h; cases h)
  | some j =>
    rw [e] at h
    exact r.get h
end
def rIdx (T : Tb) : R2 := fun x y H Q => ∃ w κ ox oy d, Wok T w H κ ∧ RO T w H x ox ∧ RO T w H y oy ∧ idxC κ ox.d oy.d = some d ∧ ∀ v, RV T w v d → Q v H
theorem idx_dict {T : Tb} {w : Wd} {H : Hp} {vs : List (Key × V)} {kvs : List (Key × D)} {a : Addr} {y : V} {oy : O} {d : D} {Q : VK} (h1 : Rd H a (.dK vs)) (r : PR T w vs kvs) (hy : RO T w H y oy) (h : (keyOf oy.d).bind (lookP kvs) = some d) (q : ∀ v, RV T w v d → Q v H) :
    ∃ a' v, V.ref a = .ref a' ∧ DGet H a' y (some v) ∧ Q v H := by
  rw [Option.bind_eq_some_iff] at h
  obtain ⟨k, e1, e2⟩ := h
  have ey := rd_key hy e1
  rcases r.look k with ⟨_, e⟩ | ⟨v, d', e3, e4, rv⟩
  · rw [e2] at e; cases e
  · rw [e2] at e4; cases e4
    refine ⟨a, v, rfl, ?_, q v rv⟩
    rw [ey, ← e3]
    exact .inl ⟨_, _, h1, rfl, rfl⟩
theorem ix_D {T : Tb} {X : Cx} (hK : X.K = T.K) (hu : X.A.units + 1 < cLine) : IxR X (rIdx T) := by
  have base := (ix_seq (X := X)).or (ix_dict (X := X) hu)
  intro value; intro slice pins s σ H x y v u Q I rx ry h hs
  refine base value slice pins s σ H x y v u Q I rx ry ?_ hs
  obtain ⟨w, κ, ox, oy, d, k, hx, hy, e, q⟩ := h
  generalize ex : ox.d = dx at e
  cases dx with
  | obj n =>
    simp only [idxC, Option.bind_eq_some_iff] at e
    obtain ⟨kvs, e1, e2⟩ := e
    have hv := rd_fz hx ex (by cases ox <;> first | rfl | cases ex)
    cases hv with
    | obj hn =>
      obtain ⟨vs, g2, g3⟩ := k.read hn e1
      exact .inr (idx_dict g2 g3 hy e2 q)
  | dK kvs =>
    obtain ⟨a, vs, rfl, h1, r⟩ := rd_dK hx k ex
    exact .inr (idx_dict (.inl h1) r hy e q)
  | tup xs =>
    obtain ⟨a, vs, rfl, h1, r⟩ := rd_tup hx k ex
    generalize ey : oy.d = dy at e
    cases dy with
    | int i =>
      obtain ⟨z, e1, rv⟩ := r.atI (show atI xs i = some d from e)
      exact .inl (.inr (.inl ⟨a, vs, i, z, rfl, rd_int hy ey, by rw [hK]; exact h1, e1, q z rv⟩))
    | _ => cases e
  | lst xs =>
    obtain ⟨a, vs, rfl, h1, r⟩ := rd_lst hx k ex
    generalize ey : oy.d = dy at e
    cases dy with
    | int i =>
      obtain ⟨z, e1, rv⟩ := r.atI (show atI xs i = some d from e)
      exact .inl (.inl ⟨a, vs, i, z, rfl, rd_int hy ey, SqL.of h1, e1, q z rv⟩)
    | _ => cases e
  | scr xs =>
    obtain ⟨a, vs, rfl, h1, r⟩ := rd_scr hx k ex
    generalize ey : oy.d = dy at e
    cases dy with
    | int i =>
      obtain ⟨z, e1, rv⟩ := r.atI (show atI xs i = some d from e)
      exact .inl (.inl ⟨a, vs, i, z, rfl, rd_int hy ey, by rw [hK]; exact h1, e1, q z rv⟩)
    | _ => cases e
  | str z =>
    have := rd_str hx ex
    subst this
    generalize ey : oy.d = dy at e
    cases dy with
    | int i =>
      have e' : (if z.length ≤ sizeLine then (atI z.cps.toList i).map fun c => D.str ⟨#[c]⟩ else none) = some d := e
      split at e'
      · rw [Option.map_eq_some_iff] at e'
        obtain ⟨c, e1, rfl⟩ := e'
        exact .inl (.inr (.inr ⟨z, i, c, rfl, rd_int hy ey, by assumption, e1, q _ (.str _)⟩))
      · cases e'
    | _ => cases e
  | _ => cases e
/-! ### slices -/
section
variable {T : Tb} {X : Cx} {w : Wd} {H : Hp} {κ : Cells}
theorem RVs.cut {vs : List V} {ds : List D} (r : RVs T w vs ds) (lo hi : Option Int) : RVs T w (cutV vs lo hi) (cutD ds lo hi) := by
  unfold cutV cutD
  rw [r.length]
  exact (r.drop _).take _
theorem cutD_all {ds : List D} {lo hi : Option Int} (h : HT.sIx ds.length 0 lo = 0 ∧ HT.sIx ds.length ds.length hi = ds.length) : cutD ds lo hi = ds := by
  unfold cutD
  rw [h.1, h.2]
  simp
def rSlD (T : Tb) : V → Option Int → Option Int → Hp → VK → Prop := fun x lo hi H Q => ∃ w κ ox o, Wok T w H κ ∧ RO T w H x ox ∧ slcD lo hi ox.d = some o ∧ Go T w H κ o Q
theorem sl_D (hK : X.K = T.K) : SlR X (rSlD T) := by
  have base := (sl_list (X := X)).or ((sl_tupA (X := X)).or (sl_str (X := X)))
  intro pins; intro s σ H x v vl vu lo hi sl Q I rx hs pl pu h
  refine base pins s σ H x v vl vu lo hi sl Q I rx hs pl pu ?_
  obtain ⟨w, κ, ox, o, k, hx, e, g⟩ := h
  generalize ex : ox.d = dx at e
  unfold slcD at e
  split at e
  · cases e
    obtain ⟨a, vs, rfl, h1, r⟩ := rd_tup hx k ex
    refine .inr (.inl ⟨a, vs, rfl, by rw [hK]; exact h1, fun hw => ?_, fun _ p hp => g.tup k (r.cut lo hi) hp⟩)
    rw [r.length] at hw
    rw [cutD_all hw] at g
    exact g.fz k (rd_tupV hx ex)
  · cases e
    obtain ⟨a, vs, rfl, h1, r⟩ := rd_lst hx k ex
    exact .inl ⟨a, vs, rfl, SqL.of h1, fun p hp => g.lst k (r.cut lo hi) hp⟩
  · cases e
    obtain ⟨a, vs, rfl, h1, r⟩ := rd_scr hx k ex
    exact .inl ⟨a, vs, rfl, by rw [hK]; exact h1, fun p hp => g.lst k (r.cut lo hi) hp⟩
  · split at e
    · cases e
      cases rd_str hx ex
      exact .inr (.inr ⟨_, rfl, by assumption, g.fz k (.str _)⟩)
    · cases e
  · cases e
end
end R

/-! R6: built-ins by what they do to values. -/
namespace R
open L2 PyProof.Rows PySem.Spec PySem

section
variable {T : Tb} {w : Wd} {H : Hp} {κ : Cells}
theorem asBools_eq : ∀ {ds : List D} {bs : List Bool}, asBools ds = some bs → ds = bs.map D.bl
  | [], bs, e => by cases e; rfl
  | .bl b :: r, bs, e => by
    simp only [asBools, Option.map_eq_some_iff] at e
    obtain ⟨cs, e1, rfl⟩ := e
    rw [asBools_eq e1]; rfl
  | .non :: _, _, e => by cases e
  | .int _ :: _, _, e => by cases e
  | .str _ :: _, _, e => by cases e
  | .tup _ :: _, _, e => by cases e
  | .lst _ :: _, _, e => by cases e
  | .dK _ :: _, _, e => by cases e
  | .dT _ :: _, _, e => by cases e
  | .ins _ _ :: _, _, e => by cases e
  | .obj _ :: _, _, e => by cases e
  | .scr _ :: _, _, e => by cases e
theorem asInts_eq : ∀ {ds : List D} {bs : List Int}, asInts ds = some bs → ds = bs.map D.int
  | [], bs, e => by cases e; rfl
  | .int b :: r, bs, e => by
    simp only [asInts, Option.map_eq_some_iff] at e
    obtain ⟨cs, e1, rfl⟩ := e
    rw [asInts_eq e1]; rfl
  | .non :: _, _, e => by cases e
  | .bl _ :: _, _, e => by cases e
  | .str _ :: _, _, e => by cases e
  | .tup _ :: _, _, e => by cases e
  | .lst _ :: _, _, e => by cases e
  | .dK _ :: _, _, e => by cases e
  | .dT _ :: _, _, e => by cases e
  | .ins _ _ :: _, _, e => by cases e
  | .obj _ :: _, _, e => by cases e
  | .scr _ :: _, _, e => by cases e
theorem RVs.bools : ∀ {bs : List Bool} {vs : List V}, RVs T w vs (bs.map D.bl) → vs = bs.map V.bl
  | [], _, .nil => rfl
  | b :: bs, _, .cons a r => by cases a; rw [RVs.bools r]; rfl
theorem RVs.intsV : ∀ {bs : List Int} {vs : List V}, RVs T w vs (bs.map D.int) → vs = bs.map V.int
  | [], _, .nil => rfl
  | b :: bs, _, .cons a r => by cases a; rw [RVs.intsV r]; rfl
end
/-- a built-in by its semantic reading -/
def rB1 (T : Tb) (b : Blt) : List V → Hp → VK → Prop := fun xs H Q => ∃ x w κ ox o, xs = [x] ∧ Wok T w H κ ∧ RO T w H x ox ∧ blt1D b ox = some o ∧ Go T w H κ o Q
def rB2 (T : Tb) (b : Blt) : List V → Hp → VK → Prop := fun xs H Q => ∃ x y w κ ox oy d, xs = [x, y] ∧ Wok T w H κ ∧ RO T w H x ox ∧ RO T w H y oy ∧ blt2D b ox.d oy.d = some d ∧ ∀ v, RV T w v d → Q v H
section
variable {T : Tb} {X : Cx}
theorem cr_lenD (hK : X.K = T.K) : CallR X (.builtin "len") (rB1 T .len) := by
  intro pins; intro s σ H xs us Q I r h
  obtain ⟨x, w, κ, ox, o, rfl, k, hx, e, g⟩ := h
  have e : (match ox.d with
    | .tup xs => some (O.fz (.int xs.length))
    | .lst xs => some (.fz (.int xs.length))
    | .scr xs => some (.fz (.int xs.length))
    | .str x => if x.length ≤ sizeLine then some (.fz (.int x.length)) else none
    | .dK xs => some (.fz (.int xs.length))
    | _ => none) = some o := e
  split at e
  · cases e
    obtain ⟨a, vs, rfl, h1, rr⟩ := rd_tup hx k ‹_›
    exact call_len pins s σ H _ us Q I r ⟨_, _, rfl, .inr ⟨vs, by rw [hK]; exact h1, rr.length.symm⟩, g.fz k (.int _)⟩
  · cases e
    obtain ⟨a, vs, rfl, h1, rr⟩ := rd_lst hx k ‹_›
    exact call_len pins s σ H _ us Q I r ⟨_, _, rfl, .inl ⟨vs, SqL.of h1, rr.length.symm⟩, g.fz k (.int _)⟩
  · cases e
    obtain ⟨a, vs, rfl, h1, rr⟩ := rd_scr hx k ‹_›
    exact call_len pins s σ H _ us Q I r ⟨_, _, rfl, .inl ⟨vs, by rw [hK]; exact h1, rr.length.symm⟩, g.fz k (.int _)⟩
  · split at e
    · cases e
      cases rd_str hx ‹_›
      exact call_len pins s σ H _ us Q I r ⟨_, _, rfl, ⟨by assumption, rfl⟩, g.fz k (.int _)⟩
    · cases e
  · cases e
    obtain ⟨a, vs, rfl, h1, rr⟩ := rd_dK hx k ‹_›
    refine call_lenD pins s σ H _ us Q I r ⟨a, vs, rfl, h1, ?_⟩
    rw [rr.length]
    exact g.fz k (.int _)
  · cases e
theorem cr_allD (hc : X.calm = true) : CallR X (.builtin "all") (rB1 T .all) := by
  intro pins; intro s σ H xs us Q I r h
  obtain ⟨x, w, κ, ox, o, rfl, k, hx, e, g⟩ := h
  have e : (match ox.d with
    | .lst xs => (asBools xs).map fun bs => O.fz (.bl (bs.all id))
    | _ => none) = some o := e
  split at e
  · rw [Option.map_eq_some_iff] at e
    obtain ⟨bs, e1, rfl⟩ := e
    obtain ⟨a, vs, rfl, h1, rr⟩ := rd_lst hx k ‹_›
    rw [asBools_eq e1] at rr
    have := RVs.bools rr
    subst this
    exact cr_all hc pins s σ H _ us Q I r ⟨a, bs, rfl, SqL.of h1, g.fz k (.bl _)⟩
  · cases e
theorem cr_anyD (hc : X.calm = true) : CallR X (.builtin "any") (rB1 T .any) := by
  intro pins; intro s σ H xs us Q I r h
  obtain ⟨x, w, κ, ox, o, rfl, k, hx, e, g⟩ := h
  have e : (match ox.d with
    | .lst xs => (asBools xs).map fun bs => O.fz (.bl (bs.any id))
    | _ => none) = some o := e
  split at e
  · rw [Option.map_eq_some_iff] at e
    obtain ⟨bs, e1, rfl⟩ := e
    obtain ⟨a, vs, rfl, h1, rr⟩ := rd_lst hx k ‹_›
    rw [asBools_eq e1] at rr
    have := RVs.bools rr
    subst this
    exact cr_any hc pins s σ H _ us Q I r ⟨a, bs, rfl, SqL.of h1, g.fz k (.bl _)⟩
  · cases e
theorem cr_sumD (hc : X.calm = true) : CallR X (.builtin "sum") (rB1 T .sum) := by
  intro pins; intro s σ H xs us Q I r h
  obtain ⟨x, w, κ, ox, o, rfl, k, hx, e, g⟩ := h
  have e : (match ox.d with
    | .lst xs => (asInts xs).map fun is => O.fz (.int is.sum)
    | _ => none) = some o := e
  split at e
  · rw [Option.map_eq_some_iff] at e
    obtain ⟨bs, e1, rfl⟩ := e
    obtain ⟨a, vs, rfl, h1, rr⟩ := rd_lst hx k ‹_›
    rw [asInts_eq e1] at rr
    have := RVs.intsV rr
    subst this
    exact cr_sum hc pins s σ H _ us Q I r ⟨a, bs, rfl, SqL.of h1, g.fz k (.int _)⟩
  · cases e
theorem cr_tupleD (hK : X.K = T.K) : CallR X (.type "tuple") (rB1 T .tuple) := by
  intro pins; intro s σ H xs us Q I r h
  obtain ⟨x, w, κ, ox, o, rfl, k, hx, e, g⟩ := h
  have e : (match ox.d with
    | .tup xs => some (O.fz (.tup xs))
    | .lst xs => some (.fz (.tup xs))
    | _ => none) = some o := e
  split at e
  · cases e
    have hv := rd_tupV hx ‹_›
    obtain ⟨a, vs, rfl, h1, rr⟩ := rd_tup hx k ‹_›
    exact call_tuple_of pins s σ H _ us Q I r ⟨a, vs, rfl, .inr ⟨by rw [hK]; exact h1, g.fz k hv⟩⟩
  · cases e
    obtain ⟨a, vs, rfl, h1, rr⟩ := rd_lst hx k ‹_›
    exact call_tuple_of pins s σ H _ us Q I r ⟨a, vs, rfl, .inl ⟨SqL.of h1, fun p hp => g.tup k rr hp⟩⟩
  · cases e
theorem cr_listD (hK : X.K = T.K) : CallR X (.type "list") (rB1 T .list) := by
  intro pins; intro s σ H xs us Q I r h
  obtain ⟨x, w, κ, ox, o, rfl, k, hx, e, g⟩ := h
  have e : (match ox.d with
    | .tup xs => some (O.ol none xs)
    | .lst xs => some (.ol none xs)
    | .scr xs => some (.ol none xs)
    | _ => none) = some o := e
  split at e
  · cases e
    obtain ⟨a, vs, rfl, h1, rr⟩ := rd_tup hx k ‹_›
    exact call_list_of pins s σ H _ us Q I r ⟨a, vs, rfl, .inr (by rw [hK]; exact h1), fun p hp => g.lst k rr hp⟩
  · cases e
    obtain ⟨a, vs, rfl, h1, rr⟩ := rd_lst hx k ‹_›
    exact call_list_of pins s σ H _ us Q I r ⟨a, vs, rfl, .inl (SqL.of h1), fun p hp => g.lst k rr hp⟩
  · cases e
    obtain ⟨a, vs, rfl, h1, rr⟩ := rd_scr hx k ‹_›
    exact call_list_of pins s σ H _ us Q I r ⟨a, vs, rfl, .inl (by rw [hK]; exact h1), fun p hp => g.lst k rr hp⟩
  · cases e
theorem cr_absD : CallR X (.builtin "abs") (rB1 T .abs) := by
  intro pins; intro s σ H xs us Q I r h
  obtain ⟨x, w, κ, ox, o, rfl, k, hx, e, g⟩ := h
  have e : (match ox.d with
    | .int i => some (O.fz (.int (if i < 0 then -i else i)))
    | _ => none) = some o := e
  split at e
  · cases e; cases rd_int hx ‹_›
    exact call_abs pins s σ H _ us Q I r ⟨_, rfl, g.fz k (.int _)⟩
  · cases e
theorem cr_intD : CallR X (.type "int") (rB1 T .int) := by
  intro pins; intro s σ H xs us Q I r h
  obtain ⟨x, w, κ, ox, o, rfl, k, hx, e, g⟩ := h
  have e : (match ox.d with
    | .int i => some (O.fz (.int i))
    | .bl b => some (.fz (.int (if b then 1 else 0)))
    | _ => none) = some o := e
  split at e
  · cases e; cases rd_int hx ‹_›
    exact call_int1 pins s σ H _ us Q I r (.inl ⟨_, rfl, g.fz k (.int _)⟩)
  · cases e; cases rd_bl hx ‹_›
    exact call_int1 pins s σ H _ us Q I r (.inr ⟨_, rfl, g.fz k (.int _)⟩)
  · cases e
theorem cr_strD : CallR X (.type "str") (rB1 T .str) := by
  intro pins; intro s σ H xs us Q I r h
  obtain ⟨x, w, κ, ox, o, rfl, k, hx, e, g⟩ := h
  have e : (match ox.d with
    | .int i => if i.natAbs.log2 < 1920 then some (O.fz (.str (toString i))) else none
    | _ => none) = some o := e
  split at e
  · split at e
    · cases e; cases rd_int hx ‹_›
      exact call_str_int pins s σ H _ us Q I r ⟨_, rfl, by assumption, g.fz k (.str _)⟩
    · cases e
  · cases e
theorem cr_reprD (hK : X.K = T.K) (hg : X.A.guards = some []) (hu : X.A.units + 65 < cLine) : CallR X (.builtin "repr") (rB1 T .repr) := by
  intro pins; intro s σ H xs us Q I r h
  obtain ⟨x, w, κ, ox, o, rfl, k, hx, e, g⟩ := h
  have e : (repD ox.d).map (fun t => O.fz (.str t)) = some o := e
  rw [Option.map_eq_some_iff] at e
  obtain ⟨t, e1, rfl⟩ := e
  unfold repD at e1
  split at e1
  · rename_i p ep
    split at e1
    · rename_i hp
      cases e1
      simp only [Bool.and_eq_true, decide_eq_true_eq, Bool.not_eq_true'] at hp
      obtain ⟨⟨⟨h1, h2⟩, h3⟩, h4⟩ := hp
      have dp := hx.dp k ep
      cases r with
      | cons rx rn =>
        cases rn
        have q := g.fz k (.str p.shown)
        cases dp with
        | non => cases rx; exact PySem.P.repr_of_none ⟨.str _, H, I.tok _, ⟨_, rfl⟩, q⟩
        | bl b => cases rx; exact PySem.P.repr_of_bool ⟨.str _, H, I.tok _, ⟨_, rfl⟩, q⟩
        | int i =>
          obtain ⟨t, rfl⟩ := rx
          exact PySem.P.repr_of_int (by simpa [PyData.showable] using h1) ⟨.str _, H, I.tok _, ⟨_, rfl⟩, q⟩
        | str z =>
          obtain ⟨t, rfl⟩ := rx
          exact PySem.P.repr_of_str (hsz := h4) ⟨.str _, H, I.tok _, ⟨_, rfl⟩, q⟩
        | lst hs ha =>
          cases rx
          obtain ⟨as, rd⟩ := Dp.reads I _ (v := .ref _) (u := .ref _) (by rw [hK]; exact Dp.lst hs ha) rfl
          exact PySem.repr_of_reads' rd h1 (fun z => by rw [h2] at z; cases z) hg (by omega) (fun _ _ z => z) (fun h' u tk hk => ⟨.str _, H, I.kept hk, ⟨_, rfl⟩, q⟩) h4
        | tup hs ha =>
          cases rx
          obtain ⟨as, rd⟩ := Dp.reads I _ (v := .ref _) (u := .ref _) (by rw [hK]; exact Dp.tup hs ha) rfl
          exact PySem.repr_of_reads' rd h1 (fun z => by rw [h2] at z; cases z) hg (by omega) (fun _ _ z => z) (fun h' u tk hk => ⟨.str _, H, I.kept hk, ⟨_, rfl⟩, q⟩) h4
    · cases e1
  · cases e1
/-! two arguments -/
theorem cr_maxD (hc : X.calm = true) : CallR X (.builtin "max") (rB2 T .max) := by
  intro pins; intro s σ H xs us Q I r h
  obtain ⟨x, y, w, κ, ox, oy, d, rfl, k, hx, hy, e, g⟩ := h
  generalize ex : ox.d = dx at e
  generalize ey : oy.d = dy at e
  unfold blt2D at e
  split at e <;> first | contradiction | skip
  cases e; cases rd_int hx ‹_›; cases rd_int hy ‹_›
  exact call_max2 hc pins s σ H _ us Q I r ⟨_, _, rfl, g _ (.int _)⟩
theorem cr_minD (hc : X.calm = true) : CallR X (.builtin "min") (rB2 T .min) := by
  intro pins; intro s σ H xs us Q I r h
  obtain ⟨x, y, w, κ, ox, oy, d, rfl, k, hx, hy, e, g⟩ := h
  generalize ex : ox.d = dx at e
  generalize ey : oy.d = dy at e
  unfold blt2D at e
  split at e <;> first | contradiction | skip
  cases e; cases rd_int hx ‹_›; cases rd_int hy ‹_›
  exact call_min2 hc pins s σ H _ us Q I r ⟨_, _, rfl, g _ (.int _)⟩
theorem cr_gcdD : CallR X (.builtin "math.gcd") (rB2 T .gcd) := by
  intro pins; intro s σ H xs us Q I r h
  obtain ⟨x, y, w, κ, ox, oy, d, rfl, k, hx, hy, e, g⟩ := h
  generalize ex : ox.d = dx at e
  generalize ey : oy.d = dy at e
  unfold blt2D at e
  split at e <;> first | contradiction | skip
  cases e; cases rd_int hx ‹_›; cases rd_int hy ‹_›
  exact cr_gcd pins s σ H _ us Q I r ⟨_, _, rfl, g _ (.int _)⟩
/-! ### of lists of ints -/
theorem min_is {is : List Int} {m : Int} (h : is.min? = some m) : 0 < is.length ∧ m ∈ is ∧ ∀ y ∈ is, m ≤ y := by
  have := List.min?_eq_some_iff.mp h
  exact ⟨List.length_pos_of_mem this.1, this.1, this.2⟩
theorem max_is {is : List Int} {m : Int} (h : is.max? = some m) : 0 < is.length ∧ m ∈ is ∧ ∀ y ∈ is, y ≤ m := by
  have := List.max?_eq_some_iff.mp h
  exact ⟨List.length_pos_of_mem this.1, this.1, this.2⟩
theorem sort_is {is js : List Int} (p : js.Perm is) (o : js.Pairwise (· ≤ ·)) : js = sortI is := by
  refine List.Perm.eq_of_pairwise (le := fun x y : Int => x ≤ y) (fun a b _ _ h k => Int.le_antisymm h k) o ?_ (p.trans (List.mergeSort_perm is _).symm)
  have := List.pairwise_mergeSort (le := fun i j : Int => decide (i ≤ j)) (fun a b c h k => by simp at h k ⊢; omega) (fun a b => by simp; omega) is
  exact this.imp fun h => of_decide_eq_true h
theorem RVs.intsOf {w : Wd} : ∀ {is : List Int} {vs : List V}, RVs T w vs (is.map D.int) → vs = is.map V.int := fun r => RVs.intsV r
theorem cr_minLD (hK : X.K = T.K) (hc : X.calm = true) : CallR X (.builtin "min") (rB1 T .min) := by
  intro pins; intro s σ H xs us Q I r h
  obtain ⟨x, w, κ, ox, o, rfl, k, hx, e, g⟩ := h
  have e : (match ox.d with
    | .lst xs => (asInts xs).bind fun is => is.min?.map fun i => O.fz (.int i)
    | _ => none) = some o := e
  split at e
  · simp only [Option.bind_eq_some_iff, Option.map_eq_some_iff] at e
    obtain ⟨is, e1, m, e2, rfl⟩ := e
    obtain ⟨a, vs, rfl, h1, rr⟩ := rd_lst hx k ‹_›
    rw [asInts_eq e1] at rr
    cases RVs.intsV rr
    obtain ⟨q1, q2, q3⟩ := min_is e2
    refine cr_min hc pins s σ H _ us Q I r ⟨a, is, rfl, SqL.of h1, q1, fun m' h1 h2 => ?_⟩
    cases Int.le_antisymm (h2 _ q2) (q3 _ h1)
    exact g.fz k (.int _)
  · cases e
theorem cr_maxLD (hK : X.K = T.K) (hc : X.calm = true) : CallR X (.builtin "max") (rB1 T .max) := by
  intro pins; intro s σ H xs us Q I r h
  obtain ⟨x, w, κ, ox, o, rfl, k, hx, e, g⟩ := h
  have e : (match ox.d with
    | .lst xs => (asInts xs).bind fun is => is.max?.map fun i => O.fz (.int i)
    | _ => none) = some o := e
  split at e
  · simp only [Option.bind_eq_some_iff, Option.map_eq_some_iff] at e
    obtain ⟨is, e1, m, e2, rfl⟩ := e
    obtain ⟨a, vs, rfl, h1, rr⟩ := rd_lst hx k ‹_›
    rw [asInts_eq e1] at rr
    cases RVs.intsV rr
    obtain ⟨q1, q2, q3⟩ := max_is e2
    refine cr_max hc pins s σ H _ us Q I r ⟨a, is, rfl, SqL.of h1, q1, fun m' h1 h2 => ?_⟩
    cases Int.le_antisymm (q3 _ h1) (h2 _ q2)
    exact g.fz k (.int _)
  · cases e
theorem cr_sortedLD (hK : X.K = T.K) : CallR X (.builtin "sorted") (rB1 T .sorted) := by
  intro pins; intro s σ H xs us Q I r h
  obtain ⟨x, w, κ, ox, o, rfl, k, hx, e, g⟩ := h
  have e : (match ox.d with
    | .lst xs => (asInts xs).map fun is => O.ol none ((is.mergeSort fun i j => decide (i ≤ j)).map .int)
    | _ => none) = some o := e
  split at e
  · rw [Option.map_eq_some_iff] at e
    obtain ⟨is, e1, rfl⟩ := e
    obtain ⟨a, vs, rfl, h1, rr⟩ := rd_lst hx k ‹_›
    rw [asInts_eq e1] at rr
    cases RVs.intsV rr
    refine cr_sortedI pins s σ H _ us Q I r ⟨a, is, rfl, SqL.of h1, fun js p pm so hp => ?_⟩
    cases sort_is pm so
    exact g.lst k (RVs.ints _) hp
  · cases e
/-! ### of cells -/
/-- the same, of a cell too -/
def rB1C (T : Tb) (b : Blt) : List V → Hp → VK → Prop := fun xs H Q => ∃ x w κ ox o, xs = [x] ∧ Wok T w H κ ∧ RO T w H x ox ∧ blt1C κ b ox = some o ∧ Go T w H κ o Q
def rKv (T : Tb) (b : Blt) : List V → Hp → VK → Prop := fun xs H Q => ∃ a w κ n o, xs = [.ref a] ∧ Wok T w H κ ∧ w.θ[n]? = some a ∧ bltKv κ n b = some o ∧ Go T w H κ o Q
theorem cr_both {f : Value} {b : Blt} (h1 : CallR X f (rB1 T b)) (h2 : CallR X f (rKv T b)) : CallR X f (rB1C T b) := by
  intro pins; intro s σ H xs us Q I r h
  obtain ⟨x, w, κ, ox, o, rfl, k, hx, e, g⟩ := h
  by_cases q : ∃ n, ox = .fz (.obj n)
  · obtain ⟨n, rfl⟩ := q
    cases (show RV T w x (.obj n) from hx) with
    | obj hn => exact h2 pins s σ H _ us Q I r ⟨_, w, κ, n, o, rfl, k, hn, e, g⟩
  · refine h1 pins s σ H _ us Q I r ⟨x, w, κ, ox, o, rfl, k, hx, ?_, g⟩
    unfold blt1C at e
    split at e
    · exact absurd ⟨_, rfl⟩ q
    · exact e
theorem cr_no {f : Value} {b : Blt} (h : ∀ κ n, bltKv κ n b = none) : CallR X f (rKv T b) := by
  intro pins; intro s σ H xs us Q I r h'
  obtain ⟨a, w, κ, n, o, rfl, k, hn, e, g⟩ := h'
  rw [h] at e
  cases e
theorem cr_lenKv : CallR X (.builtin "len") (rKv T .len) := by
  intro pins; intro s σ H xs us Q I r h
  obtain ⟨a, w, κ, n, o, rfl, k, hn, e, g⟩ := h
  obtain ⟨kvs, e1, rfl⟩ := Option.map_eq_some_iff.mp (show (openAt κ n).map _ = some o from e)
  obtain ⟨vs, q1, q2, _⟩ := k.open_ hn e1
  refine call_lenD pins s σ H _ us Q I r ⟨a, vs, rfl, q1, ?_⟩
  rw [q2.length]
  exact g.fz k (.int _)
theorem RVs.keys {w : Wd} : ∀ {vs : List (Key × V)} {ds : List (Key × D)}, PR T w vs ds → RVs T w (vs.map fun kv => kV kv.1) (ds.map fun p => kD p.1)
  | _, _, .nil => .nil
  | _, _, .cons (k := k) a r => by
    refine .cons ?_ (RVs.keys r)
    cases k
    · exact .int _
    · exact .str _
theorem cr_listKv (hc : X.calm = true) : CallR X (.type "list") (rKv T .list) := by
  intro pins; intro s σ H xs us Q I r h
  obtain ⟨a, w, κ, n, o, rfl, k, hn, e, g⟩ := h
  obtain ⟨kvs, e1, rfl⟩ := Option.map_eq_some_iff.mp (show (readAt κ n).map _ = some o from e)
  obtain ⟨vs, q1, q2⟩ := k.read hn e1
  exact call_listD hc pins s σ H _ us Q I r ⟨a, vs, rfl, q1, fun p hp => g.lst k (RVs.keys q2) hp⟩
theorem keys_of {w : Wd} : ∀ {vs : List (Key × V)} {ds : List (Key × D)} {is : List Int}, PR T w vs ds → intKeys ds = some is → vs.map (·.1) = is.map Sum.inl
  | _, _, _, .nil, e => by cases e; rfl
  | _, _, is, .cons (k := k) a r, e => by
    cases k with
    | inr x => cases e
    | inl i =>
      obtain ⟨js, e1, rfl⟩ := Option.map_eq_some_iff.mp (show (intKeys _).map _ = some is from e)
      simp [keys_of r e1]
theorem cr_sortedKv (hc : X.calm = true) : CallR X (.builtin "sorted") (rKv T .sorted) := by
  intro pins; intro s σ H xs us Q I r h
  obtain ⟨a, w, κ, n, o, rfl, k, hn, e, g⟩ := h
  obtain ⟨kvs, e1, e⟩ := Option.bind_eq_some_iff.mp (show (readAt κ n).bind _ = some o from e)
  obtain ⟨is, e2, e⟩ := Option.bind_eq_some_iff.mp e
  split at e
  · cases e
    obtain ⟨vs, q1, q2⟩ := k.read hn e1
    refine call_sortedDI hc pins s σ H _ us Q I r ⟨a, vs, is, rfl, q1, keys_of q2 e2, by assumption, fun js p pm so hp => ?_⟩
    cases sort_is pm so
    exact g.lst k (RVs.ints _) hp
  · cases e
/-- max(d), d a dict with int keys -/
def rMaxK : List V → Hp → VK → Prop := fun ys H Q => ∃ (d : Addr) (kvs : List (Key × V)) (is : List Int), ys = [V.ref d] ∧ H d = some (.dK kvs) ∧ kvs.map (·.1) = is.map Sum.inl ∧ is ≠ [] ∧ ∀ m, m ∈ is → (∀ j ∈ is, j ≤ m) → Q (.int m) H
theorem cr_maxK (hc : X.calm = true) : CallR X (.builtin "max") rMaxK := by
  intro pins s σ H ws us Q I r h
  obtain ⟨a, kvs, ns, rfl, ha, hv, n0, q⟩ := h
  rw [Vals.ref1 r]
  obtain ⟨_, hsys, ws, rl, df⟩ := dk_of I.hok ha
  obtain ⟨pe, dy⟩ := df.dictAt
  obtain ⟨ob, es, ho, hex, hdat, hko, hpr, hnd⟩ := id dy
  have lt0 : a < s.heap.objs.size := Heap.lt_size ho
  have ky : ws.map (·.1) = ns.map Sum.inl := (KV.keys rl).symm.trans hv
  have ly : ws.length = ns.length := by
    have w1 := congrArg List.length ky
    rw [List.length_map, List.length_map] at w1
    exact w1
  have l0 : 0 < ws.length := by
    rw [ly]
    exact List.length_pos_iff.mpr n0
  have vy : ∀ (i : Nat) (v : Value), (∃ k x, ws[i]? = some (k, x) ∧ (mixKind X.prog X.w).is k v = true) → ∃ t, v = Value.int (ns.getD i 0) t := fun i v ⟨k, x, hk, hky⟩ => by
    have w1 : (ws.map (·.1))[i]? = some k := by rw [List.getElem?_map, hk] <;> rfl
    rw [ky, List.getElem?_map] at w1
    obtain ⟨j, hj, w2⟩ := Option.map_eq_some_iff.mp w1
    subst w2
    have hy : Value.isInt j v = true := hky
    obtain ⟨t, w3⟩ := Value.isInt_shape (k := j) (v := v) hy
    refine ⟨t, ?_⟩
    rw [w3, List.getD_eq_getElem?_getD, hj] <;> rfl
  refine call_max_walk (wpAny_pyIter_dict (knd := mixKind X.prog X.w) hsys dy ?_)
  refine ⟨_, _, _, _, _, _, _, rfl, Walks.dictKeys (knd := mixKind X.prog X.w) (A := X.A.in1) (I.ok.hd hc) s.heap.objs.size a (Nat.ne_of_lt lt0) ws pe,
    ⟨⟨_, Heap.get?_push_size _ rfl, rfl, rfl⟩, dy.keep fun b u e => Heap.get?_push_of_some _ e⟩, fun b hbb => ?_, l0, CmpOf.ints_gt (fun i => ns.getD i 0) vy, fun v h' tk hP hk => ?_⟩
  · show (b < (s.heap.push _).objs.size)
    rw [Heap.size_push]
    rcases List.mem_cons.mp hbb with e | hbb
    · rw [e]
      exact Nat.lt_succ_self _
    · rw [List.mem_singleton.mp hbb]
      exact Nat.lt_succ_of_lt lt0
  · obtain ⟨t, rfl⟩ := vy _ v hP
    obtain ⟨b1, b2⟩ := argBest_gt (fun i => ns.getD i 0) (ws.length - 1)
    refine ⟨.int _, H, I.kept (t' := tk) fun b u e => hk b u (fun hmm => ?_) (Heap.get?_push_of_some _ e), ⟨t, rfl⟩, q _ ?_ fun j hj => ?_⟩
    · have w1 : b = s.heap.objs.size := List.mem_singleton.mp hmm
      have w2 := Heap.lt_size e
      rw [w1] at w2
      exact absurd w2 (Nat.lt_irrefl _)
    · have hbb : argBest (fun i j => decide (ns.getD i 0 > ns.getD j 0)) (ws.length - 1) < ns.length := by omega
      rw [List.getD_eq_getElem?_getD, List.getElem?_eq_getElem hbb]
      exact List.getElem_mem hbb
    · obtain ⟨i, hy, e⟩ := List.mem_iff_getElem.mp hj
      have w2 : ns.getD i 0 = j := by rw [List.getD_eq_getElem?_getD, List.getElem?_eq_getElem hy, ← e] <;> rfl
      rw [← w2]
      exact b2 i (by omega)
theorem cr_minKv (hc : X.calm = true) : CallR X (.builtin "min") (rKv T .min) := by
  intro pins; intro s σ H xs us Q I r h
  obtain ⟨a, w, κ, n, o, rfl, k, hn, e, g⟩ := h
  obtain ⟨kvs, e1, e⟩ := Option.bind_eq_some_iff.mp (show (openAt κ n).bind _ = some o from e)
  obtain ⟨is, e2, e⟩ := Option.bind_eq_some_iff.mp e
  obtain ⟨m, e3, rfl⟩ := Option.map_eq_some_iff.mp e
  obtain ⟨vs, q1, q2, _⟩ := k.open_ hn e1
  obtain ⟨p1, p2, p3⟩ := min_is e3
  refine cr_minK hc pins s σ H _ us Q I r ⟨a, vs, is, rfl, q1, keys_of q2 e2, (fun z => by rw [z] at p1; cases p1), fun m' h1 h2 => ?_⟩
  cases Int.le_antisymm (h2 _ p2) (p3 _ h1)
  exact g.fz k (.int _)
theorem cr_maxKv (hc : X.calm = true) : CallR X (.builtin "max") (rKv T .max) := by
  intro pins; intro s σ H xs us Q I r h
  obtain ⟨a, w, κ, n, o, rfl, k, hn, e, g⟩ := h
  obtain ⟨kvs, e1, e⟩ := Option.bind_eq_some_iff.mp (show (openAt κ n).bind _ = some o from e)
  obtain ⟨is, e2, e⟩ := Option.bind_eq_some_iff.mp e
  obtain ⟨m, e3, rfl⟩ := Option.map_eq_some_iff.mp e
  obtain ⟨vs, q1, q2, _⟩ := k.open_ hn e1
  obtain ⟨p1, p2, p3⟩ := max_is e3
  refine cr_maxK hc pins s σ H _ us Q I r ⟨a, vs, is, rfl, q1, keys_of q2 e2, (fun z => by rw [z] at p1; cases p1), fun m' h1 h2 => ?_⟩
  cases Int.le_antisymm (p3 _ h1) (h2 _ p2)
  exact g.fz k (.int _)
end
end R

/-! R7: which term stands for which expression. -/
namespace R
open L2 PyProof.Rows PySem.Spec PySem

/-- names: the defs, the classes with their fields, the constants; whether gcd is there -/
structure Sg where
  fns : List Str
  cls : List (Str × List Str)
  gls : List Str
  gcd : Bool
  ins : List Nat
  exs : List Nat
def visB (sc : Scope) (x : Str) : Bool := match sc.names.lookup x with
  | some .local => true
  | some .cell => true
  | some .free => true
  | _ => false
def glB (sc : Scope) (x : Str) : Bool := match sc.names.lookup x with
  | some .globalImplicit => true
  | _ => false
def notDbg (x : Str) : Bool := !(x == ("__debug__" : Str)) && !(x == ("__classdict__" : Str)) && decide (x ≠ ("__name__" : Str))
def constB : D → Const → Bool
  | .non, .none => true
  | .bl a, .bool b => a == b
  | .int a, .int b => decide (a = b)
  | .str a, .str b => decide (a = b)
  | _, _ => false
def Blt.nm : Blt → Str
  | .len => "len" | .all => "all" | .any => "any" | .tuple => "tuple" | .list => "list" | .repr => "repr" | .abs => "abs" | .int => "int" | .max => "max" | .min => "min"
  | .gcd => "gcd" | .sum => "sum" | .sorted => "sorted" | .dict => "dict" | .str => "str"
def Blt.one : Blt → Bool
  | .len | .all | .any | .tuple | .list | .repr | .abs | .int | .str | .sum | .min | .max | .sorted => true
  | _ => false
def Blt.two : Blt → Bool
  | .max | .min | .gcd => true
  | _ => false
def Ty.okB (S : Sg) : Ty → Str → Bool
  | .int, x => decide (x = "int") | .bool, x => decide (x = "bool") | .str, x => decide (x = "str") | .tuple, x => decide (x = "tuple") | .list, x => decide (x = "list")
  | .cls c, x => match S.cls[c]? with
    | some p => decide (p.1 = x) && decide (c ∈ S.ins)
    | none => false
def tysB (S : Sg) (sc : Scope) : List Ty → List Expr → Bool
  | [], [] => true
  | t :: ts, .Name x _ :: es => t.okB S x && glB sc x && notDbg x && tysB S sc ts es
  | _, _ => false
def tysOne (S : Sg) (sc : Scope) (tys : List Ty) (many : Bool) (x : Expr) : Bool := match many, x with
  | false, .Name n p => tys.length == 1 && tysB S sc tys [.Name n p]
  | _, _ => false
def keysB : List Key → List (Option Expr) → Bool
  | [], [] => true
  | .inr k :: ks, some (.Constant (.str x) _ _) :: es => decide (k = x) && keysB ks es
  | _, _ => false
/-- the names of a comprehension's own slots -/
def ownN (N : List Str) (own : List Nat) : List (Str × Nat) := own.filterMap fun i => (N[i]?).map fun x => (x, i)
/-- a name that is stored -/
def stoB (N : List Str) (sc : Scope) (orig : Scope) (i : Nat) (x : Str) : Bool := decide (N[i]? = some x) && (match sc.names.lookup x with
  | some .local => true
  | some .cell => (match orig.names.lookup x with | some .cell => true | _ => false)
  | _ => false)
def tgsB (N : List Str) (sc orig : Scope) : List Nat → List Expr → Bool
  | [], [] => true
  | i :: is, .Name x _ :: es => stoB N sc orig i x && tgsB N sc orig is es
  | _, _ => false
def tgB (N : List Str) (sc orig : Scope) : Tg → Expr → Bool
  | .v i, .Name x _ => stoB N sc orig i x
  | .t is, .Tuple es _ _ => tgsB N sc orig is es
  | _, _ => false
/-- the walks that hand out tuples want a target that takes them apart -/
def itTg : E → Expr → Bool
  | .zip _ _, .Tuple _ _ _ => true
  | .zip _ _, _ => false
  | _, _ => true
def tgIn (own : List Nat) : Tg → Bool
  | .v i => decide (i ∈ own)
  | .t is => is.all fun i => decide (i ∈ own)
def notSet : Expr → Bool
  | .Set _ _ _ => false
  | _ => true
def notCall : Expr → Bool
  | .Call _ _ _ _ => false
  | _ => true
def isLc : Expr → Bool
  | .ListComp _ _ _ _ => true
  | _ => false
def isRng : E → Bool
  | .rng1 _ => true
  | .rng2 _ _ => true
  | _ => false
def noPart : E → Bool
  | .cst .non => true
  | _ => false
section
variable (S : Sg) (N : List Str) (h : Option (Str × List Str))
mutual
/-- the term e stands for the expression x, in the scope sc -/
def isE : E → Scope → Expr → Bool
  | .var i, sc, .Name x _ => decide (N[i]? = some x) && visB sc x && notDbg x
  | .cst d, _, .Constant c _ _ => constB d c
  | .gcn g, sc, .Name x _ => decide (S.gls[g]? = some x) && glB sc x && notDbg x
  | .tup es, sc, .Tuple xs _ _ => isEs es sc xs
  | .lst es, sc, .List xs _ => isEs es sc xs
  | .bin op a b, sc, .BinOp l o r _ => decide (o = op.op) && isE a sc l && isE b sc r
  | .neg a, sc, .UnaryOp .USub x _ => isE a sc x
  | .not a, sc, .UnaryOp .Not x _ => isE a sc x
  | .and a b, sc, .BoolOp .And [x, y] _ => isE a sc x && isE b sc y
  | .and a b, sc, .BoolOp .And (x :: y :: z :: r) p => isE a sc x && isE b sc (.BoolOp .And (y :: z :: r) p)
  | .or a b, sc, .BoolOp .Or [x, y] _ => isE a sc x && isE b sc y
  | .or a b, sc, .BoolOp .Or (x :: y :: z :: r) p => isE a sc x && isE b sc (.BoolOp .Or (y :: z :: r) p)
  | .cmp op a b, sc, .Compare l [o] [r] _ => decide (o = op.op) && isE a sc l && isE b sc r
  | .ite c a b, sc, .IfExp t x y _ => isE c sc t && isE a sc x && isE b sc y
  | .idx a i, sc, .Subscript x y _ => isE a sc x && isE i sc y
  | .slc a lo hi, sc, .Subscript x (.Slice l u none _) _ => isE a sc x && (match l with
    | none => noPart lo
    | some y => isE lo sc y) && (match u with
    | none => noPart hi
    | some y => isE hi sc y)
  | .rev a, sc, .Subscript x (.Slice none none (some (.UnaryOp .USub (.Constant (.int 1) _ _) _)) _) _ => isE a sc x
  | .fld a m, sc, .Attribute x f _ => isE a sc x && notCall x && m.all fun p => match S.cls[p.1]? with
    | some q => decide (q.2[p.2]? = some f)
    | none => false
  | .exf j, sc, .Attribute (.Name n _) f _ => match h with
    | some (n', fs) => decide (n = n') && decide (fs[j]? = some f) && (match sc.names.lookup n with | some .local => true | _ => false)
    | none => false
  | .isi a tys many, sc, .Call (.Name g _) [x, t] [] _ => decide (g = "isinstance") && glB sc g && isE a sc x && tysOne S sc tys many t
  | .call f es, sc, .Call (.Name g _) xs [] _ => decide (S.fns[f]? = some g) && glB sc g && notDbg g && isEs es sc xs && decide (g ≠ "")
  | .blt1 b a, sc, .Call (.Name g _) [x] [] _ => decide (g = b.nm) && glB sc g && isE a sc x && b.one
  | .blt2 b a a', sc, .Call (.Name g _) [x, y] [] _ => decide (g = b.nm) && glB sc g && isE a sc x && isE a' sc y && (decide (b ≠ .gcd) || S.gcd) && b.two
  | .make c es, sc, .Call (.Name g _) xs [] _ => (match S.cls[c]? with | some p => decide (p.1 = g) && !p.2.isEmpty && decide (p.2.length = xs.length) && decide (c ∈ S.ins) | none => false) && glB sc g && notDbg g && isEs es sc xs
  | .eqo a b, sc, .Compare l [.Eq] [r] _ => isE a sc l && isE b sc r
  | .cell ks es, sc, .Dict keys vals _ => keysB ks keys && !ks.isEmpty && decide (ks.length = vals.length) && decide (keys.length = vals.length) && decide (keys.length ≤ 15) && isEs es sc vals
  | .get d k x, sc, .Call (.Attribute o m ap) [e, f] [] cp => decide (m = "get") && notCall o && (ap.endLine == cp.line) && isE d sc o && isE k sc e && isE x sc f
  | .pop d k x, sc, .Call (.Attribute o m ap) [e, f] [] cp => decide (m = "pop") && notCall o && (ap.endLine == cp.line) && isE d sc o && isE k sc e && isE x sc f
  | .dnew, _, .Dict [] [] _ => true
  | .dic k x, sc, .Dict [some e] [f] _ => isE k sc e && isE x sc f
  | .dcp a, sc, .Call (.Name g _) [x] [] _ => decide (g = "dict") && glB sc g && isE a sc x
  | .lck _ c, sc, x => isLc x && isE c sc x
  | .comp2 own tg it ifs tg2 it2 ifs2 elt, sc, .ListComp x [⟨t, i, is, 0⟩, ⟨t2, i2, is2, 0⟩] scope _ => blkC N sc scope (ownN N own) && decide ((ownN N own).map (·.2) = own) && tgB N (relS scope sc) scope tg t && isIt it sc i && notSet i && itTg it t && tgIn own tg && isEs ifs (relS scope sc) is &&
      tgB N (relS scope sc) scope tg2 t2 && isIt it2 (relS scope sc) i2 && notSet i2 && itTg it2 t2 && tgIn own tg2 && isEs ifs2 (relS scope sc) is2 && isE elt (relS scope sc) x
  | .lrng it, sc, .Call (.Name g _) [x] [] _ => decide (g = "list") && glB sc g && isIt it sc x && isRng it
  | .comp own tg it ifs elt, sc, .ListComp x [⟨t, i, is, 0⟩] scope _ => blkC N sc scope (ownN N own) && decide ((ownN N own).map (·.2) = own) && tgB N (relS scope sc) scope tg t && isIt it sc i && notSet i && itTg it t && tgIn own tg && isEs ifs (relS scope sc) is && isE elt (relS scope sc) x
  | _, _, _ => false
def isEs : E → Scope → List Expr → Bool
  | .nil, _, [] => true
  | .cons e es, sc, x :: xs => isE e sc x && isEs es sc xs
  | _, _, _ => false
/-- what is walked -/
def isIt : E → Scope → Expr → Bool
  | .walk a, sc, x => isE a sc x
  | .rng1 a, sc, .Call (.Name g _) [x] [] _ => decide (g = "range") && glB sc g && isE a sc x
  | .rng2 a b, sc, .Call (.Name g _) [x, y] [] _ => decide (g = "range") && glB sc g && isE a sc x && isE b sc y
  | .zip a b, sc, .Call (.Name g _) [x, y] [] _ => decide (g = "zip") && glB sc g && isE a sc x && isE b sc y
  | .enum a, sc, .Call (.Name g _) [x] [] _ => decide (g = "enumerate") && glB sc g && isE a sc x
  | _, _, _ => false
end
end
end R

/-! R8: expressions come to what ev says. -/
namespace R
open L2 PyProof.Rows PySem.Spec PySem

def biNames : List Str := ["len", "all", "any", "tuple", "list", "repr", "abs", "int", "max", "min", "sum", "sorted", "dict", "str", "bool", "range", "zip", "enumerate", "isinstance"]
/-- a def's promise for every caller under whom no repr runs -/
structure FnG (P : Program) (w : World) (K : PySem.W.Frag) (mg : Str → Option Value) (base : Heap) (k : Nat) (f : Addr) (fd : FuncData) (ps : List Str) (sp : Sp) : Prop where
  len : (∀ vs H Q E, sp vs H Q E → vs.length = ps.length)
  run : ∀ (A : Around) (outer : List Env) (s : Shared) (H : Hp) (args : Args) (us : List Value) (vs : List V) (Q : VK) (E : XK), Room k A → A.guards = some [] → Env0 P w K mg base A outer s H →
    BindsTo s fd args (ps.zip us) → Vals vs us → sp vs H Q E → codeAny (model P w) A (.call (.ref f) args) (CR (L2.CX P w) outer P w H s Q E) s
/-- what a def of the program promises -/
def spD (T : Tb) (calls : Nat → List D → Cells → Out (D × Cells)) (f : Nat) : Sp := fun vs H Q E => ∃ w κ ds, RVs T w vs ds ∧ Wok T w H κ ∧
  Post T w H (calls f ds κ) E (fun r w' H' => ∀ v, RV T w' v r.1 → Q v H')
/-- an instance's facts -/
structure InsOk (K : PySem.W.Frag) (C : Addr) : Prop where
  cl : Cls K C
  ha : (PySem.W.findIn K (.ref C) "__class__" = some (some (.builtin "object.__class__")))
  hn : (PySem.W.specialIn K (.builtin "object.__class__") "__get__" = some (some (.builtin "getset_descriptor.__get__")))
  htk : (PySem.W.takesIn K (.builtin "object.__class__") = some true)
  hm : (PySem.W.mroIn K C (.type "object") = some true)
  to : ∀ n ∈ (["int", "bool", "str", "tuple", "list"] : List String), PySem.W.kitOne K (.ref C) (.type n) = some false
  self : PySem.W.kitOne K (.ref C) (.ref C) = some true
  of : ∀ n ∈ (["NoneType", "int", "bool", "str", "tuple", "list"] : List String), PySem.W.kitOne K (.type n) (.ref C) = some false
/-- what a class's own start does: each argument into its field -/
def spI (C : Addr) (nms : List Str) : Sp := fun vs H Q E => ∃ (x dx : Addr) (us : List V), vs = .ref x :: us ∧ us.length = nms.length ∧ H x = some (.ins C dx []) ∧ dx ≠ x ∧ Q .non (upd H x (.ins C dx (nms.zip us)))
/-- what is known where code runs -/
structure XG (T : Tb) (S : Sg) (Γ : Cxt) (N : List Str) (n : Nat) (sc : Scope) (X : Cx) : Prop where
  hK : X.K = T.K
  hN : X.N = N
  nd : N.Nodup
  hsc : X.env.scope = sc
  calm : X.calm = true
  gd : X.A.guards = some []
  room : Room n X.A
  lv : 2 ≤ n
  bi : ∀ b ∈ biNames, X.mg b = none
  gcd : S.gcd = true → X.mg "gcd" = some (.builtin "math.gcd")
  gl : ∀ (g : Nat) (x : Str) (d : D), S.gls[g]? = some x → Γ.gl[g]? = some d → ∃ u v, X.mg x = some u ∧ RelV v u ∧ ∀ w, RV T w v d
  call : ∀ (f : Nat) (x : Str), S.fns[f]? = some x → x ≠ "" → ∃ (a : Addr) (fd : FuncData) (ps : List Str), X.mg x = some (.ref a) ∧ PySem.W.keepIn X.K (.ref a) = true ∧ FnG X.prog X.w X.K X.mg X.base n a fd ps (spD T Γ.calls f) ∧ Binds X.K fd ps []
  ins : ∀ (c : Nat) (C : Addr) (nms : List Str), T.ins c = some (C, nms) → InsOk T.K C ∧ (∃ x, S.cls[c]? = some (x, nms) ∧ X.mg x = some (.ref C)) ∧ nms.Nodup ∧ ∀ f ∈ nms, NoAttr T.K C f
  insAll : ∀ c ∈ S.ins, ∃ C nms, T.ins c = some (C, nms)
  mkC : ∀ (c : Nat) (C : Addr) (nms : List Str), T.ins c = some (C, nms) → ∃ (fI : Addr) (fd : FuncData) (ps : List Str), Mk X.K C fI ∧ FnG X.prog X.w X.K X.mg X.base 1 fI fd ps (spI C nms) ∧ Binds X.K fd ps []
  eqF : ∀ (c f : Nat) (C : Addr) (nms : List Str), Γ.eqf c = some f → T.ins c = some (C, nms) → ∃ (a : Addr) (fd : FuncData) (ps : List Str), PySem.W.findIn X.K (.ref C) "__eq__" = some (some (.ref a)) ∧ PySem.W.isFn X.K (.ref a) = true ∧
    FnG X.prog X.w X.K X.mg X.base n a fd ps (spD T Γ.calls f) ∧ Binds X.K fd ps [] ∧ PySem.W.notFirst X.K C (.type "tuple") = true
  ins2 : ∀ (c c' : Nat) (C C' : Addr) (nms nms' : List Str), c ≠ c' → T.ins c = some (C, nms) → T.ins c' = some (C', nms') → PySem.W.kitOne T.K (.ref C) (.ref C') = some false
section
variable {T : Tb} {S : Sg} {Γ : Cxt} {N : List Str} {n : Nat} {sc : Scope} {X : Cx} {W : WX}
theorem XG.hu (g : XG T S Γ N n sc X) : X.A.units + 65 < cLine := by have := g.room.un; omega
/-- a test -/
def evT (Γ : Cxt) (e : E) (σ : Sl) (κ : Cells) : Out (Bool × Cells) := (ev Γ e σ κ).bind fun x => (opt (truD x.1.d)).bind fun b => .ok (b, x.2)
def GT (Q : Bool → Hp → Prop) : Bool × Cells → Wd → Hp → Prop := fun r _ H => Q r.1 H
def tT (T : Tb) (Γ : Cxt) (e : E) (W : WX) : TT := fun σV H Q => ∃ w σ κ, Wok T w H κ ∧ RS T w H σV σ ∧ Post T w H (evT Γ e σ κ) (fun c d H' => W c d σV H') (GT Q)
/-- the shape of every case: from the state, by the first part -/
theorem tE_bind {α : Type} {e : E} {σV : L2.St} {H : Hp} {w : Wd} {σ : Sl} {κ : Cells} {f : O × Cells → Out (α × Cells)} {G : α × Cells → Wd → Hp → Prop} {Q : V → Hp → Prop}
    (hw : Wok T w H κ) (hs : RS T w H σV σ) (p : Post T w H ((ev Γ e σ κ).bind f) (fun c d H' => W c d σV H') G)
    (h : ∀ r w' H' v, ev Γ e σ κ = .ok r → Ext w H w' H' → Wok T w' H' r.2 → RS T w' H' σV σ → RO T w' H' v r.1 → Bor σV v r.1 → (r.1.tag = none → Young H v r.1) → Post T w H (f r) (fun c d H' => W c d σV H') G → Q v H') : tE T Γ e W σV H Q := by
  refine ⟨w, σ, κ, hw, hs, ?_⟩
  cases er : ev Γ e σ κ with
  | ok r =>
    rw [er] at p
    exact fun w' H' e k v hv hb hy => h r w' H' v er e k (hs.ext e) hv hb hy p
  | exc c fs k => rw [er] at p; exact p
  | bad => rw [er] at p; exact p
theorem tT_bind {α : Type} {e : E} {σV : L2.St} {H : Hp} {w : Wd} {σ : Sl} {κ : Cells} {f : O × Cells → Out (α × Cells)} {G : α × Cells → Wd → Hp → Prop} {Q : Bool → Hp → Prop}
    (hw : Wok T w H κ) (hs : RS T w H σV σ) (g : Bool → O × Cells → Out (α × Cells)) (hf : ∀ r, f r = (opt (truD r.1.d)).bind fun b => g b r) (p : Post T w H ((ev Γ e σ κ).bind f) (fun c d H' => W c d σV H') G)
    (h : ∀ r b w' H', ev Γ e σ κ = .ok r → truD r.1.d = some b → Ext w H w' H' → Wok T w' H' r.2 → RS T w' H' σV σ → Post T w' H' (g b r) (fun c d H' => W c d σV H') G → Q b H') : tT T Γ e W σV H Q := by
  refine ⟨w, σ, κ, hw, hs, ?_⟩
  unfold evT
  cases er : ev Γ e σ κ with
  | ok r =>
    rw [er] at p
    have p' : Post T w H (f r) (fun c d H' => W c d σV H') G := p
    rw [hf] at p'
    obtain ⟨b, eb, p2⟩ := p'.opt
    show Post T w H ((opt (truD r.1.d)).bind fun b => Out.ok (b, r.2)) _ _
    rw [eb]
    exact fun w' H' e k => h r b w' H' er eb e k (hs.ext e) (p2.step e)
  | exc c fs k => rw [er] at p; exact p
  | bad => rw [er] at p; exact p
theorem Bor.tag0 {σV : L2.St} {v : V} {d : D} : Bor σV v (.fz d) := fun i e => by cases e
/-- Go's answer from what is wanted -/
theorem go_of {o : O} {κ : Cells} {w : Wd} {H H₀ : Hp} {σV : L2.St} {Q : V → Hp → Prop} {W' : XW} {w₀ : Wd} (x : Ext w₀ H₀ w H) (p : Post T w H (.ok (o, κ)) W' (GE T H₀ σV Q)) (ht : o.tag = none) : Go T w H κ o Q := fun w' H' e k v hv y =>
  p w' H' e k v hv (fun i z => by rw [ht] at z; cases z) fun _ pl a ea => x.dom a (y pl a ea)

abbrev PEok (T : Tb) (S : Sg) (Γ : Cxt) (N : List Str) (n : Nat) (e : E) : Prop := ∀ sc x X W, isE S N none e sc x = true → XG T S Γ N n sc X → Takes X W → PE X x (tE T Γ e W)
abbrev PTok (T : Tb) (S : Sg) (Γ : Cxt) (N : List Str) (n : Nat) (e : E) : Prop := ∀ sc x X W, isE S N none e sc x = true → XG T S Γ N n sc X → Takes X W → PT X x (tT T Γ e W)
abbrev PAok (T : Tb) (S : Sg) (Γ : Cxt) (N : List Str) (n : Nat) (e : E) : Prop := ∀ sc xs X W, isEs S N none e sc xs = true → XG T S Γ N n sc X → Takes X W → PA X xs (tA T Γ e W)

theorem vis_of {x : Str} (h : visB sc x = true) : Vis sc x := by
  unfold visB at h
  unfold Vis
  cases e : sc.names.lookup x with
  | none => (rw [e] at h; cases h)
  | some k => rw [e] at h; cases k <;> simp_all
theorem gl_of {x : Str} (h : glB sc x = true) (e : X.env.scope = sc) : Gl X x := by
  unfold glB at h
  unfold Gl Env.kindOf
  rw [e]
  cases q : sc.names.lookup x with
  | none => rw [q] at h; cases h
  | some k => rw [q] at h; cases k <;> simp_all
theorem dbg_of {x : Str} (h : notDbg x = true) : (x == ("__debug__" : Str)) = false ∧ (x == ("__classdict__" : Str)) = false ∧ x ≠ ("__name__" : Str) := by
  unfold notDbg at h
  simp only [Bool.and_eq_true, Bool.not_eq_true', decide_eq_true_eq] at h
  exact ⟨h.1.1, h.1.2, h.2⟩
theorem notStar {S : Sg} {N : List Str} {h : Option (Str × List Str)} {e : E} {sc : Scope} {x : Expr} (q : isE S N h e sc x = true) (env : Env) (es : List Expr) : starEach (x :: es) env = (false, eval x env) :: starEach es env := by
  cases x <;> first | rfl | (cases e <;> simp [isE, isLc] at q)
theorem plain_star {S : Sg} {N : List Str} {h : Option (Str × List Str)} {pos : Pos} {env : Env} : ∀ {e : E} {sc : Scope} {xs : List Expr}, isEs S N h e sc xs = true → (backTo pos (starEach xs env)).any (·.1) = false
  | .cons e es, sc, x :: xs, q => by
    simp only [isEs, Bool.and_eq_true] at q
    rw [notStar q.1]
    simp only [backTo, List.map_cons, List.any_cons, Bool.false_or]
    exact plain_star q.2
  | .nil, sc, [], q => rfl
  | .nil, sc, _ :: _, q => by simp [isEs] at q
  | .cons _ _, sc, [], q => by simp [isEs] at q
  | .var _, _, _, q => by simp [isEs] at q
  | .cst _, _, _, q => by simp [isEs] at q
  | .gcn _, _, _, q => by simp [isEs] at q
  | .tup _, _, _, q => by simp [isEs] at q
  | .lst _, _, _, q => by simp [isEs] at q
  | .dic _ _, _, _, q => by simp [isEs] at q
  | .bin _ _ _, _, _, q => by simp [isEs] at q
  | .neg _, _, _, q => by simp [isEs] at q
  | .not _, _, _, q => by simp [isEs] at q
  | .and _ _, _, _, q => by simp [isEs] at q
  | .or _ _, _, _, q => by simp [isEs] at q
  | .cmp _ _ _, _, _, q => by simp [isEs] at q
  | .chain _ _ _ _ _, _, _, q => by simp [isEs] at q
  | .ite _ _ _, _, _, q => by simp [isEs] at q
  | .idx _ _, _, _, q => by simp [isEs] at q
  | .slc _ _ _, _, _, q => by simp [isEs] at q
  | .rev _, _, _, q => by simp [isEs] at q
  | .fld _ _, _, _, q => by simp [isEs] at q
  | .exf _, _, _, q => by simp [isEs] at q
  | .isi _ _ _, _, _, q => by simp [isEs] at q
  | .call _ _, _, _, q => by simp [isEs] at q
  | .blt1 _ _, _, _, q => by simp [isEs] at q
  | .blt2 _ _ _, _, _, q => by simp [isEs] at q
  | .get _ _ _, _, _, q => by simp [isEs] at q
  | .items _, _, _, q => by simp [isEs] at q
  | .join _ _, _, _, q => by simp [isEs] at q
  | .make _ _, _, _, q => by simp [isEs] at q
  | .eqo _ _, _, _, q => by simp [isEs] at q
  | .cell _ _, _, _, q => by simp [isEs] at q
  | .lrng _, _, _, q => by simp [isEs] at q
  | .comp _ _ _ _ _, _, _, q => by simp [isEs] at q
  | .comp2 _ _ _ _ _ _ _ _, _, _, q => by simp [isEs] at q
  | .walk _, _, _, q => by simp [isEs] at q
  | .rng1 _, _, _, q => by simp [isEs] at q
  | .rng2 _ _, _, _, q => by simp [isEs] at q
  | .zip _ _, _, _, q => by simp [isEs] at q
  | .enum _, _, _, q => by simp [isEs] at q
/-! ### names, constants -/
theorem pe_var_ok (i : Nat) : PEok T S Γ N n (.var i) := by
  intro sc x X W q g tk
  cases x <;> simp only [isE, Bool.and_eq_true, decide_eq_true_eq, Bool.false_eq_true] at q
  obtain ⟨⟨q1, q2⟩, q3⟩ := q
  have q3 := dbg_of q3
  refine peI (pe_var (i := i) (by rw [g.hN]; exact q1) (by rw [g.hsc]; exact vis_of q2) q3.1 q3.2.1) fun σV H Q h => ?_
  obtain ⟨w, σ, κ, hw, hs, p⟩ := h
  unfold ev at p
  split at p
  · rename_i o eo
    obtain ⟨v, ev', hv⟩ := hs.at_ i o eo
    refine ⟨v, ev', p.ok hw v (hv.retag i) (fun j e => ?_) fun e pl => ?_⟩
    · have : j = i := by cases o <;> simp [O.read, O.tag] at e <;> exact e.symm
      subst this
      exact ev'
    · cases o <;> simp [O.read, O.tag, O.place] at e pl
  · exact p.elim
theorem pe_cst_ok (d : D) : PEok T S Γ N n (.cst d) := by
  intro sc x X W q g tk
  cases x <;> simp only [isE, Bool.false_eq_true] at q
  rename_i c j pos
  have fin : ∀ {v : V}, (∀ w, RV T w v d) → ∀ σV H Q, tE T Γ (.cst d) W σV H Q → tC v σV H Q := fun {v} hv σV H Q h => by
    obtain ⟨w, σ, κ, hw, hs, p⟩ := h
    exact GE.fz (p.ok hw) (hv w)
  cases d <;> cases c <;> simp only [constB, beq_iff_eq, decide_eq_true_eq, Bool.false_eq_true] at q
  · exact peI pe_non (fin fun _ => .non)
  · subst q; exact peI pe_bl (fin fun _ => .bl _)
  · subst q; exact peI pe_int (fin fun _ => .int _)
  · subst q; exact peI pe_str (fin fun _ => .str _)
theorem pe_gcn_ok (i : Nat) : PEok T S Γ N n (.gcn i) := by
  intro sc x X W q g tk
  cases x <;> simp only [isE, Bool.and_eq_true, decide_eq_true_eq, Bool.false_eq_true] at q
  obtain ⟨⟨q1, q2⟩, q3⟩ := q
  have q3 := dbg_of q3
  cases ed : Γ.gl[i]? with
  | none =>
    refine ⟨fun pins s σV H Q I h => ?_⟩
    obtain ⟨w, σ, κ, hw, hs, p⟩ := h
    unfold ev at p
    rw [ed] at p
    exact p.elim
  | some d =>
    obtain ⟨u, v, hm, r, hv⟩ := g.gl i _ d q1 ed
    refine peI (pe_glob (gl_of q2 g.hsc) hm r q3.1) fun σV H Q h => ?_
    obtain ⟨w, σ, κ, hw, hs, p⟩ := h
    unfold ev at p
    rw [ed] at p
    exact GE.fz (Post.ok (r := (O.fz d, κ)) p hw) (hv w)
theorem pa_nil_ok : PAok T S Γ N n .nil := by
  intro sc xs X W q g tk
  cases xs with
  | cons _ _ => simp [isEs] at q
  | nil =>
    refine paI pa_nil fun σV H Q h => ?_
    obtain ⟨w, σ, κ, hw, hs, p⟩ := h
    unfold evs at p
    exact p.ok hw [] .nil
theorem pa_cons_ok {e es : E} (he : PEok T S Γ N n e) (hes : PAok T S Γ N n es) : PAok T S Γ N n (.cons e es) := by
  intro sc xs X W q g tk
  cases xs with
  | nil => simp [isEs] at q
  | cons x xs =>
    simp only [isEs, Bool.and_eq_true] at q
    refine paI (pa_cons (he sc x X W q.1 g tk) (hes sc xs X W q.2 g tk) (notStar q.1 X.env xs)) fun σV H Q h => ?_
    obtain ⟨w, σ, κ, hw, hs, p⟩ := h
    unfold evs at p
    refine tE_bind hw hs p fun r w1 H1 v er e k hs1 hv hb hy p => ?_
    obtain ⟨d, ed, p⟩ := p.opt
    have ht : r.1.tag = none := by
      obtain ⟨o, κ'⟩ := r
      cases o with
      | fz d => rfl
      | ol b xs => cases b with | none => rfl | some i => simp [O.frz] at ed
      | od b xs => cases b with | none => rfl | some i => simp [O.frz] at ed
      | ot b xs => cases b with | none => rfl | some i => simp [O.frz] at ed
    obtain ⟨w2, k2, e2, l2, rv⟩ := hv.give k ed e (hy ht)
    refine ⟨w2, σ, r.2, k2, hs.ext e2, (p.step e2).bind.imp fun r2 w3 H3 er2 e3 k3 p3 vs hvs => ?_⟩
    split at p3
    · exact Post.ok (r := (d :: r2.1, r2.2)) p3 k3 _ (.cons (rv.mono e3.le) hvs)
    · exact p3.elim
end
end R

/-! R9: expressions, continued. -/
namespace R
open L2 PyProof.Rows PySem.Spec PySem
section
variable {T : Tb} {S : Sg} {Γ : Cxt} {N : List Str} {n : Nat}
/-- from a list's parts -/
theorem tA_bind {es : E} {σV : L2.St} {H : Hp} {w : Wd} {σ : Sl} {κ : Cells} {W : WX} {α : Type} {f : List D × Cells → Out (α × Cells)} {G : α × Cells → Wd → Hp → Prop} {Q : List V → Hp → Prop}
    (hw : Wok T w H κ) (hs : RS T w H σV σ) (p : Post T w H ((evs Γ es σ κ).bind f) (fun c d H' => W c d σV H') G)
    (h : ∀ r w' H' vs, evs Γ es σ κ = .ok r → Ext w H w' H' → Wok T w' H' r.2 → RS T w' H' σV σ → RVs T w' vs r.1 → Post T w H (f r) (fun c d H' => W c d σV H') G → Q vs H') : tA T Γ es W σV H Q := by
  refine ⟨w, σ, κ, hw, hs, ?_⟩
  cases er : evs Γ es σ κ with
  | ok r => rw [er] at p; exact fun w' H' e k vs hv => h r w' H' vs er e k (hs.ext e) hv p
  | exc c fs k => rw [er] at p; exact p
  | bad => rw [er] at p; exact p
theorem evs_len : ∀ {e : E} {σ : Sl} {κ : Cells} {r : List D × Cells}, evs Γ e σ κ = .ok r → r.1.length ≤ sizeLine := by
  intro e
  induction e with
  | nil => intro σ κ r h; unfold evs at h; cases h; exact Nat.zero_le _
  | cons e es _ ih =>
    intro σ κ r h
    unfold evs at h
    cases e1 : ev Γ e σ κ with
    | ok x =>
      rw [e1] at h
      simp only [Out.bind] at h
      cases e2 : x.1.frz with
      | none => rw [e2] at h; cases h
      | some d =>
        rw [e2] at h
        simp only [opt] at h
        cases e3 : evs Γ es σ x.2 with
        | ok y =>
          rw [e3] at h
          simp only at h
          split at h
          · cases h; show y.1.length + 1 ≤ sizeLine; omega
          · cases h
        | exc c fs k => rw [e3] at h; cases h
        | bad => rw [e3] at h; cases h
    | exc c fs k => rw [e1] at h; cases h
    | bad => rw [e1] at h; cases h
  | _ => intro σ κ r h; unfold evs at h; cases h
theorem pe_tup_ok {es : E} (hes : PAok T S Γ N n es) : PEok T S Γ N n (.tup es) := by
  intro sc x X W q g tk
  cases x <;> simp only [isE, Bool.false_eq_true] at q
  refine peI (pe_tup (hes sc _ X W q g tk)) fun σV H Q h => ?_
  obtain ⟨w, σ, κ, hw, hs, p⟩ := h
  unfold ev at p
  refine tA_bind hw hs p fun r w1 H1 vs er e k hs1 hv p => ⟨by rw [hv.length]; exact evs_len er, fun a ha => ?_⟩
  have z := k.laid (.tup vs) ha
  exact GE.fz (p _ _ (e.trans z.2) z.1) (.tup (.inl (.inl (by show upd _ _ _ _ = _; exact upd_same))) (hv.mono (le_put _ (k.noF ha))))
theorem pe_lst_ok {es : E} (hes : PAok T S Γ N n es) : PEok T S Γ N n (.lst es) := by
  intro sc x X W q g tk
  cases x <;> simp only [isE, Bool.false_eq_true] at q
  refine peI (pe_lst (hes sc _ X W q g tk)) fun σV H Q h => ?_
  obtain ⟨w, σ, κ, hw, hs, p⟩ := h
  unfold ev at p
  refine tA_bind hw hs p fun r w1 H1 vs er e k hs1 hv p => ⟨by rw [hv.length]; exact evs_len er, fun a ha => ?_⟩
  have z := k.own (.lst vs) ha
  exact GE.own (p _ _ (e.trans z.2) z.1) upd_same hv (k.offθ ha) (k.noF ha) (e.dom a ha)
theorem bin_tag {op : Bop} {x y : D} {o : O} (h : binD op x y = some o) : o.tag = none := by
  unfold binD at h
  split at h <;> first | (cases h; rfl) | (split at h <;> first | (cases h; rfl) | cases h) | cases h
theorem pe_bin_ok (op : Bop) {a b : E} (ha : PEok T S Γ N n a) (hb : PEok T S Γ N n b) : PEok T S Γ N n (.bin op a b) := by
  intro sc x X W q g tk
  cases x <;> simp only [isE, Bool.and_eq_true, decide_eq_true_eq, Bool.false_eq_true] at q
  obtain ⟨⟨rfl, q1⟩, q2⟩ := q
  refine peI (pe_op (op_bin g.hK op) (ha sc _ X W q1 g tk) (hb sc _ X W q2 g tk)) fun σV H Q h => ?_
  obtain ⟨w, σ, κ, hw, hs, p⟩ := h
  unfold ev at p
  refine tE_bind hw hs p fun r w1 H1 v er e k hs1 hv hbr hy p => ?_
  refine tE_bind k hs1 (p.step e) fun r2 w2 H2 v2 er2 e2 k2 hs2 hv2 hbr2 hy2 p2 => ?_
  obtain ⟨o, eo, p3⟩ := (p2.step e2).opt
  exact ⟨w2, r2.2, r.1, r2.1, o, k2, hv.ext e2, hv2, eo, go_of (e.trans e2) p3 (bin_tag eo)⟩
theorem pe_neg_ok {a : E} (ha : PEok T S Γ N n a) : PEok T S Γ N n (.neg a) := by
  intro sc x X W q g tk
  cases x <;> try (simp [isE] at q; done)
  rename_i op y pos
  cases op <;> try (simp [isE] at q; done)
  refine peI (pe_un un_neg (ha sc _ X W q g tk)) fun σV H Q h => ?_
  obtain ⟨w, σ, κ, hw, hs, p⟩ := h
  unfold ev at p
  refine tE_bind hw hs p fun r w1 H1 v er e k hs1 hv hbr hy p => ?_
  obtain ⟨d, ed, p3⟩ := (p.step e).opt
  generalize ex : r.1.d = dx at ed
  unfold negD at ed
  split at ed
  · cases ed; cases rd_int hv ex
    exact ⟨_, rfl, GE.fz (p3.ok k) (.int _)⟩
  · cases ed
theorem pe_not_ok {a : E} (ha : PEok T S Γ N n a) : PEok T S Γ N n (.not a) := by
  intro sc x X W q g tk
  cases x <;> try (simp [isE] at q; done)
  rename_i op y pos
  cases op <;> try (simp [isE] at q; done)
  refine peI (pe_notT (ha sc _ X W q g tk)) fun σV H Q h => ?_
  obtain ⟨w, σ, κ, hw, hs, p⟩ := h
  unfold ev at p
  refine tE_bind hw hs p fun r w1 H1 v er e k hs1 hv hbr hy p => ?_
  obtain ⟨b, eb, p3⟩ := (p.step e).opt
  exact ⟨b, tru_D g.hK k hv eb, GE.fz (p3.ok k) (.bl _)⟩
/-- and, or: by the list's length -/
theorem pe_and_ok {a b : E} (ha : PEok T S Γ N n a) (hb : PEok T S Γ N n b) : PEok T S Γ N n (.and a b) := by
  intro sc x X W q g tk
  have fin : ∀ {tb : TE}, (∀ σ H Q, tE T Γ b W σ H Q → tb σ H Q) → ∀ σV H Q, tE T Γ (.and a b) W σV H Q → tAndT X.K (tE T Γ a W) tb σV H Q := fun {tb} hm σV H Q h => by
    obtain ⟨w, σ, κ, hw, hs, p⟩ := h
    unfold ev at p
    refine tE_bind hw hs p fun r w1 H1 v er e k hs1 hv hbr hy p => ?_
    obtain ⟨c, ec, p3⟩ := p.opt
    refine ⟨c, tru_D g.hK k hv ec, ?_⟩
    cases c with
    | true => exact hm _ _ _ ⟨w1, σ, r.2, k, hs1, (p3.step e).imp fun r2 w2 H2 er2 e2 k2 g2 v2 hv2 hb2 hy2 => g2 v2 hv2 hb2 fun ht pl a' ea => e.dom a' (hy2 ht pl a' ea)⟩
    | false => exact (p3.step e).ok k v hv hbr hy
  cases x <;> try (simp [isE] at q; done)
  rename_i op ys pos
  cases op <;> try (simp [isE] at q; done)
  match ys, q with
  | [x1, y1], q =>
    simp only [isE, Bool.and_eq_true] at q
    exact peI (pe_andT (ha sc _ X W q.1 g tk) (pe_one (hb sc _ X W q.2 g tk))) (fin fun _ _ _ z => z)
  | x1 :: y1 :: z1 :: r, q =>
    simp only [isE, Bool.and_eq_true] at q
    exact peI (pe_andT (ha sc _ X W q.1 g tk) (hb sc _ X W q.2 g tk)) (fin fun _ _ _ z => z)
  | [], q => simp [isE] at q
  | [_], q => simp [isE] at q
theorem pe_or_ok {a b : E} (ha : PEok T S Γ N n a) (hb : PEok T S Γ N n b) : PEok T S Γ N n (.or a b) := by
  intro sc x X W q g tk
  have fin : ∀ {tb : TE}, (∀ σ H Q, tE T Γ b W σ H Q → tb σ H Q) → ∀ σV H Q, tE T Γ (.or a b) W σV H Q → tOrT X.K (tE T Γ a W) tb σV H Q := fun {tb} hm σV H Q h => by
    obtain ⟨w, σ, κ, hw, hs, p⟩ := h
    unfold ev at p
    refine tE_bind hw hs p fun r w1 H1 v er e k hs1 hv hbr hy p => ?_
    obtain ⟨c, ec, p3⟩ := p.opt
    refine ⟨c, tru_D g.hK k hv ec, ?_⟩
    cases c with
    | false => exact hm _ _ _ ⟨w1, σ, r.2, k, hs1, (p3.step e).imp fun r2 w2 H2 er2 e2 k2 g2 v2 hv2 hb2 hy2 => g2 v2 hv2 hb2 fun ht pl a' ea => e.dom a' (hy2 ht pl a' ea)⟩
    | true => exact (p3.step e).ok k v hv hbr hy
  cases x <;> try (simp [isE] at q; done)
  rename_i op ys pos
  cases op <;> try (simp [isE] at q; done)
  match ys, q with
  | [x1, y1], q =>
    simp only [isE, Bool.and_eq_true] at q
    exact peI (pe_orT (ha sc _ X W q.1 g tk) (pe_one (hb sc _ X W q.2 g tk))) (fin fun _ _ _ z => z)
  | x1 :: y1 :: z1 :: r, q =>
    simp only [isE, Bool.and_eq_true] at q
    exact peI (pe_orT (ha sc _ X W q.1 g tk) (hb sc _ X W q.2 g tk)) (fin fun _ _ _ z => z)
  | [], q => simp [isE] at q
  | [_], q => simp [isE] at q
theorem notSet_of {e : E} {sc : Scope} {x : Expr} {h : Option (Str × List Str)} (q : isE S N h e sc x = true) : notSet x = true := by
  cases x <;> first | rfl | (cases e <;> simp [isE, isLc] at q)
theorem marks_of {op : CmpOp} {x : Expr} (h : notSet x = true) : behindInMarks op x = false := by
  cases x <;> first | rfl | cases h
theorem pe_cmp_ok (op : Cop) {a b : E} (ha : PEok T S Γ N n a) (hb : PEok T S Γ N n b) : PEok T S Γ N n (.cmp op a b) := by
  intro sc x X W q g tk
  cases x <;> try (simp [isE] at q; done)
  rename_i l ops cs pos
  match ops, cs, q with
  | [o], [r], q =>
    simp only [isE, Bool.and_eq_true, decide_eq_true_eq] at q
    obtain ⟨⟨rfl, q1⟩, q2⟩ := q
    refine peI (pe_cmpR (op_cmp g.hK g.hu op) (ha sc _ X W q1 g tk) (hb sc _ X W q2 g tk) (marks_of (notSet_of q2))) fun σV H Q h => ?_
    obtain ⟨w, σ, κ, hw, hs, p⟩ := h
    unfold ev at p
    refine tE_bind hw hs p fun r w1 H1 v er e k hs1 hv hbr hy p => ?_
    refine tE_bind k hs1 (p.step e) fun r2 w2 H2 v2 er2 e2 k2 hs2 hv2 hbr2 hy2 p2 => ?_
    obtain ⟨o, eo, p3⟩ := (p2.step e2).opt
    exact ⟨w2, r2.2, r.1, r2.1, o, k2, hv.ext e2, hv2, eo, GE.fz (p3.ok k2) (.bl _)⟩
  | [], _, q => simp [isE] at q
  | _ :: _ :: _, _, q => simp [isE] at q
  | [_], [], q => simp [isE] at q
  | [_], _ :: _ :: _, q => simp [isE] at q
theorem pe_ite_ok {c a b : E} (hc : PTok T S Γ N n c) (ha : PEok T S Γ N n a) (hb : PEok T S Γ N n b) : PEok T S Γ N n (.ite c a b) := by
  intro sc x X W q g tk
  cases x <;> simp only [isE, Bool.and_eq_true, Bool.false_eq_true] at q
  obtain ⟨⟨q0, q1⟩, q2⟩ := q
  refine peI (pe_ifExp (hc sc _ X W q0 g tk) (ha sc _ X W q1 g tk) (hb sc _ X W q2 g tk)) fun σV H Q h => ?_
  obtain ⟨w, σ, κ, hw, hs, p⟩ := h
  unfold ev at p
  refine tT_bind hw hs (fun t r => if t then ev Γ a σ r.2 else ev Γ b σ r.2) (fun r => rfl) p fun r t w1 H1 er et e k hs1 p => ?_
  cases t with
  | true => exact ⟨w1, σ, r.2, k, hs1, Post.imp p fun r2 w2 H2 er2 e2 k2 g2 v2 hv2 hb2 hy2 => g2 v2 hv2 hb2 fun ht pl a' ea => e.dom a' (hy2 ht pl a' ea)⟩
  | false => exact ⟨w1, σ, r.2, k, hs1, Post.imp p fun r2 w2 H2 er2 e2 k2 g2 v2 hv2 hb2 hy2 => g2 v2 hv2 hb2 fun ht pl a' ea => e.dom a' (hy2 ht pl a' ea)⟩
theorem plainIx_of {e : E} {sc : Scope} {x : Expr} {h : Option (Str × List Str)} (q : isE S N h e sc x = true) : PlainIx x := by
  cases x <;> first | (intro o i; rfl) | (cases e <;> simp [isE, isLc] at q)
theorem pe_idx_ok {a i : E} (ha : PEok T S Γ N n a) (hi : PEok T S Γ N n i) : PEok T S Γ N n (.idx a i) := by
  intro sc x X W q g tk
  cases x <;> simp only [isE, Bool.and_eq_true, Bool.false_eq_true] at q
  have hu := g.hu
  refine peI (pe_ix (ix_D g.hK (by omega)) (ha sc _ X W q.1 g tk) (hi sc _ X W q.2 g tk) (plainIx_of q.2)) fun σV H Q h => ?_
  obtain ⟨w, σ, κ, hw, hs, p⟩ := h
  unfold ev at p
  refine tE_bind hw hs p fun r w1 H1 v er e k hs1 hv hbr hy p => ?_
  refine tE_bind k hs1 (p.step e) fun r2 w2 H2 v2 er2 e2 k2 hs2 hv2 hbr2 hy2 p2 => ?_
  obtain ⟨d, ed, p3⟩ := (p2.step e2).opt
  exact ⟨w2, r2.2, r.1, r2.1, d, k2, hv.ext e2, hv2, ed, fun z hz => GE.fz (p3.ok k2) hz⟩
/-! ### slices -/
/-- a part: left out, or an int, or None -/
theorem po_any {X : Cx} {e : Expr} {te : TE} (h : PE X e te) : PO X (some e) (fun σ H Q => te σ H fun x H1 => (∃ i, x = .int i ∧ Q (some i) H1) ∨ (x = .non ∧ Q none H1)) := by
  refine (⟨fun pins s σ H Q I hw => ?_⟩)
  rw [evalPart_some]
  refine (thn (h.run pins s σ H _ I hw) fun u s1 ⟨x, H1, I1, r1, q1⟩ => ?_)
  rcases q1 with ⟨i, rfl, q⟩ | ⟨rfl, q⟩
  · obtain ⟨t, rfl⟩ := r1
    exact (⟨some i, H1, I1, .int i t, q⟩)
  · cases r1
    exact ⟨none, H1, I1, .none, q⟩
def tO (T : Tb) (Γ : Cxt) (e : E) (W : WX) : TO := fun σV H Q => ∃ w σ κ, Wok T w H κ ∧ RS T w H σV σ ∧ Post T w H (ev Γ e σ κ) (fun c d H' => W c d σV H') (fun r w' H' => ∃ o, boundD r.1 = some o ∧ Q o H')
theorem po_ok {e : E} (he : PEok T S Γ N n e) {sc : Scope} {l : Option Expr} {X : Cx} {W : WX} (q : (match l with | none => noPart e | some y => isE S N none e sc y) = true) (g : XG T S Γ N n sc X) (tk : Takes X W) : PO X l (tO T Γ e W) := by
  cases l with
  | none =>
    cases e <;> simp only [noPart, Bool.false_eq_true] at q
    rename_i d
    cases d <;> simp only [noPart, Bool.false_eq_true] at q
    refine ⟨fun pins s σV H Q I h => po_none.run pins s σV H Q I ?_⟩
    obtain ⟨w, σ, κ, hw, hs, p⟩ := h
    unfold ev at p
    obtain ⟨o, eo, qo⟩ := p.ok hw
    cases eo
    exact qo
  | some y =>
    refine ⟨fun pins s σV H Q I h => (po_any (he sc y X W q g tk)).run pins s σV H Q I ?_⟩
    obtain ⟨w, σ, κ, hw, hs, p⟩ := h
    refine ⟨w, σ, κ, hw, hs, p.imp fun r w1 H1 er e k go v hv _ _ => ?_⟩
    obtain ⟨o, eo, qo⟩ := go
    generalize ex : r.1 = ox at eo hv
    unfold boundD at eo
    split at eo
    · cases eo; cases hv; exact .inr ⟨rfl, qo⟩
    · cases eo; cases hv; exact .inl ⟨_, rfl, qo⟩
    · cases eo
theorem slc_tag {lo hi : Option Int} {x : D} {o : O} (h : slcD lo hi x = some o) : o.tag = none := by
  unfold slcD at h
  split at h <;> first | (cases h; rfl) | (split at h <;> first | (cases h; rfl) | cases h) | cases h
theorem pe_slc_ok {a lo hi : E} (ha : PEok T S Γ N n a) (hl : PEok T S Γ N n lo) (hh : PEok T S Γ N n hi) : PEok T S Γ N n (.slc a lo hi) := by
  intro sc x X W q g tk
  cases x <;> try (simp [isE] at q; done)
  rename_i y sl pos
  cases sl <;> try (simp [isE] at q; done)
  rename_i l u st p2
  cases st <;> try (simp [isE] at q; done)
  simp only [isE, Bool.and_eq_true] at q
  obtain ⟨⟨q0, q1⟩, q2⟩ := q
  refine peI (pe_slice (sl_D g.hK) (ha sc _ X W q0 g tk) (po_ok hl q1 g tk) (po_ok hh q2 g tk)) fun σV H Q h => ?_
  obtain ⟨w, σ, κ, hw, hs, p⟩ := h
  unfold ev at p
  refine tE_bind hw hs p fun r w1 H1 v er e k hs1 hv hbr hy p => ?_
  refine ⟨w1, σ, r.2, k, hs1, (p.step e).bind.imp fun r2 w2 H2 er2 e2 k2 p2 => ?_⟩
  obtain ⟨o1, eo1, p3⟩ := p2.opt
  refine ⟨o1, eo1, w2, σ, r2.2, k2, hs1.ext e2, p3.bind.imp fun r3 w3 H3 er3 e3 k3 p3 => ?_⟩
  obtain ⟨o2, eo2, p4⟩ := p3.opt
  obtain ⟨o3, eo3, p5⟩ := p4.opt
  exact ⟨o2, eo2, w3, r3.2, r.1, o3, k3, (hv.ext e2).ext e3, eo3, go_of ((e.trans e2).trans e3) p5 (slc_tag eo3)⟩
/-! ### built-ins -/
theorem XG.bi_of {X : Cx} {sc : Scope} (g : XG T S Γ N n sc X) (x : Str) (h : x ∈ biNames := by decide +kernel) : X.mg x = none := g.bi x h
theorem map_tag {α : Type} {f : α → O} {x : Option α} {o : O} (h : x.map f = some o) (hf : ∀ a, (f a).tag = none) : o.tag = none := by
  rw [Option.map_eq_some_iff] at h
  obtain ⟨a, _, rfl⟩ := h
  exact hf a
theorem blt_tag {b : Blt} {x o : O} (h : blt1D b x = some o) : o.tag = none := by
  generalize ed : x.d = dx at *
  have key : ∀ dx', x.d = dx' → o.tag = none := fun dx' e' => by
    cases b <;> simp only [blt1D, e'] at h <;> cases dx' <;> (try simp only [reduceCtorEq] at h) <;> first
      | (cases h; rfl)
      | exact map_tag h fun _ => rfl
      | (split at h <;> first | (cases h; rfl) | cases h)
      | (obtain ⟨is, _, h⟩ := Option.bind_eq_some_iff.mp h
         exact map_tag h fun _ => rfl)
      | (injection h with h; subst h; rfl)
  exact key _ ed
theorem bltC_tag {κ : Cells} {b : Blt} {x o : O} (h : blt1C κ b x = some o) : o.tag = none := by
  unfold blt1C at h
  split at h
  · rename_i n
    cases b <;> first
      | (cases (show (none : Option O) = some o from h))
      | exact map_tag (show (openAt κ n).map _ = some o from h) fun _ => rfl
      | exact map_tag (show (readAt κ n).map _ = some o from h) fun _ => rfl
      | (obtain ⟨kvs, e1, e⟩ := Option.bind_eq_some_iff.mp h
         obtain ⟨is, e2, e⟩ := Option.bind_eq_some_iff.mp e
         first
          | exact map_tag e fun _ => rfl
          | (split at e <;> first | (cases e; rfl) | cases e))
  · exact blt_tag h
theorem pe_blt1_ok (b : Blt) {a : E} (ha : PEok T S Γ N n a) : PEok T S Γ N n (.blt1 b a) := by
  intro sc x X W q g tk
  have hu := g.hu
  cases x <;> try (simp [isE] at q; done)
  rename_i fn args kws pos
  cases fn <;> try (simp [isE] at q; done)
  rename_i nm np
  match args, kws, q with
  | [y], [], q =>
    simp only [isE, Bool.and_eq_true, decide_eq_true_eq] at q
    obtain ⟨⟨⟨rfl, q1⟩, q2⟩, q9⟩ := q
    have hgl := gl_of q1 g.hsc
    have hpa : PA X [y] (tCons (tE T Γ a W) tNil) := pa_cons (ha sc _ X W q2 g tk) pa_nil (notStar q2 X.env [])
    have fin : ∀ σV H Q, tE T Γ (.blt1 b a) W σV H Q → tCB (rB1C T b) (tCons (tE T Γ a W) tNil) σV H Q := fun σV H Q h => by
      obtain ⟨w, σ, κ, hw, hs, p⟩ := h
      unfold ev at p
      refine tE_bind hw hs p fun r w1 H1 v er e k hs1 hv hbr hy p => ?_
      obtain ⟨o, eo, p3⟩ := (p.step e).opt
      exact ⟨v, w1, r.2, r.1, o, rfl, k, hv, eo, go_of e p3 (bltC_tag eo)⟩
    have st : starEach (y :: []) X.env = (false, eval y X.env) :: starEach [] X.env := notStar q2 X.env []
    cases b with
    | min => exact peI (pe_callB (cr_both (cr_minLD g.hK g.calm) (cr_minKv g.calm)) hgl (g.bi_of _) (by decide +kernel) hpa (by decide) (by decide) st) fin
    | max => exact peI (pe_callB (cr_both (cr_maxLD g.hK g.calm) (cr_maxKv g.calm)) hgl (g.bi_of _) (by decide +kernel) hpa (by decide) (by decide) st) fin
    | sorted => exact peI (pe_callB (cr_both (cr_sortedLD g.hK) (cr_sortedKv g.calm)) hgl (g.bi_of _) (by decide +kernel) hpa (by decide) (by decide) st) fin
    | len => exact peI (pe_callB (cr_both (cr_lenD g.hK) cr_lenKv) hgl (g.bi_of _) boot_len hpa (by decide) (by decide) st) fin
    | all => exact peI (pe_callB (cr_both (cr_allD g.calm) (cr_no fun _ _ => rfl)) hgl (g.bi_of _) (by decide +kernel) hpa (by decide) (by decide) st) fin
    | any => exact peI (pe_callB (cr_both (cr_anyD g.calm) (cr_no fun _ _ => rfl)) hgl (g.bi_of _) (by decide +kernel) hpa (by decide) (by decide) st) fin
    | tuple => exact peI (pe_callTy (cr_both (cr_tupleD g.hK) (cr_no fun _ _ => rfl)) hgl (g.bi_of _) (by decide +kernel) hpa (by decide) (by decide) st) fin
    | list => exact peI (pe_callTy (cr_both (cr_listD g.hK) (cr_listKv g.calm)) hgl (g.bi_of _) (by decide +kernel) hpa (by decide) (by decide) st) fin
    | repr => exact peI (pe_callB (cr_both (cr_reprD g.hK g.gd hu) (cr_no fun _ _ => rfl)) hgl (g.bi_of _) (by decide +kernel) hpa (by decide) (by decide) st) fin
    | abs => exact peI (pe_callB (cr_both cr_absD (cr_no fun _ _ => rfl)) hgl (g.bi_of _) (by decide +kernel) hpa (by decide) (by decide) st) fin
    | int => exact peI (pe_callTy (cr_both cr_intD (cr_no fun _ _ => rfl)) hgl (g.bi_of _) (by decide +kernel) hpa (by decide) (by decide) st) fin
    | str => exact peI (pe_callTy (cr_both cr_strD (cr_no fun _ _ => rfl)) hgl (g.bi_of _) (by decide +kernel) hpa (by decide) (by decide) st) fin
    | sum => exact peI (pe_callB (cr_both (cr_sumD g.calm) (cr_no fun _ _ => rfl)) hgl (g.bi_of _) (by decide +kernel) hpa (by decide) (by decide) st) fin
    | _ => cases q9
  | [], _, q => simp [isE] at q
  | _ :: _ :: _, _, q => simp [isE] at q
  | [_], _ :: _, q => simp [isE] at q
theorem pe_blt2_ok (b : Blt) {a a' : E} (ha : PEok T S Γ N n a) (ha' : PEok T S Γ N n a') : PEok T S Γ N n (.blt2 b a a') := by
  intro sc x X W q g tk
  cases x <;> try (simp [isE] at q; done)
  rename_i fn args kws pos
  cases fn <;> try (simp [isE] at q; done)
  rename_i nm np
  match args, kws, q with
  | [y, z], [], q =>
    simp only [isE, Bool.and_eq_true, decide_eq_true_eq] at q
    obtain ⟨⟨⟨⟨⟨rfl, q1⟩, q2⟩, q3⟩, q4⟩, q9⟩ := q
    have hgl := gl_of q1 g.hsc
    have st2 := notStar q3 X.env []
    have hpa : PA X [y, z] (tCons (tE T Γ a W) (tCons (tE T Γ a' W) tNil)) := pa_cons (ha sc _ X W q2 g tk) (pa_cons (ha' sc _ X W q3 g tk) pa_nil st2) (notStar q2 X.env [z])
    have fin : ∀ σV H Q, tE T Γ (.blt2 b a a') W σV H Q → tCB (rB2 T b) (tCons (tE T Γ a W) (tCons (tE T Γ a' W) tNil)) σV H Q := fun σV H Q h => by
      obtain ⟨w, σ, κ, hw, hs, p⟩ := h
      unfold ev at p
      refine tE_bind hw hs p fun r w1 H1 v er e k hs1 hv hbr hy p => ?_
      refine tE_bind k hs1 (p.step e) fun r2 w2 H2 v2 er2 e2 k2 hs2 hv2 hbr2 hy2 p2 => ?_
      obtain ⟨d, ed, p3⟩ := (p2.step e2).opt
      exact ⟨v, v2, w2, r2.2, r.1, r2.1, d, rfl, k2, hv.ext e2, hv2, ed, fun z hz => GE.fz (p3.ok k2) hz⟩
    have st : starEach (y :: [z]) X.env = (false, eval y X.env) :: starEach [z] X.env := notStar q2 X.env [z]
    have pl : (backTo pos (starEach [z] X.env)).any (·.1) = false := by rw [st2]; rfl
    cases b with
    | max => exact peI (pe_callB (cr_maxD g.calm) hgl (g.bi_of _) (by decide +kernel) hpa (by decide) (by decide) st pl) fin
    | min => exact peI (pe_callB (cr_minD g.calm) hgl (g.bi_of _) (by decide +kernel) hpa (by decide) (by decide) st pl) fin
    | gcd =>
      have q5 : S.gcd = true := by simpa using q4
      exact peI (pe_callBfun cr_gcdD hgl (g.gcd q5) hpa (by decide) st pl) fin
    | _ => cases q9
  | [], _, q => simp [isE] at q
  | [_], _, q => simp [isE] at q
  | _ :: _ :: _ :: _, _, q => simp [isE] at q
  | [_, _], _ :: _, q => simp [isE] at q
end
end R

/-! RZ: zip of a list or tuple with a list or tuple. -/
namespace R
open L2 PyProof.Rows PySem.Spec PySem
/-- true: a list; false: a tuple -/
def SqK (k : Bool) (h : Heap) (l : Addr) (xs : Array Value) : Prop := match k with
  | true => h.IsList l xs
  | false => h.IsTuple l xs
def ItK (k : Bool) (h : Heap) (it l : Addr) (i : Nat) : Prop := match k with
  | true => h.IsListIter it l i
  | false => h.IsTupleIter it l i
section
variable {prog : Program} {w : World} {A : Around} {E : Value → Shared → Prop} {s : Shared} {k : Bool} {h h' : Heap} {it l a b : Addr} {i : Nat} {xs : Array Value}
theorem ItK.ext (x : ItK k h it l i) (hs : Heap.ExtBut b h h') (ne : it ≠ b) : ItK k h' it l i := by
  cases k
  · exact Heap.IsTupleIter.extBut x hs ne
  · exact Heap.IsListIter.extBut x hs ne
theorem ItK.at (x : ItK k h it l i) (e : ∀ o, h.get? it = some o → h'.get? it = some o) : ItK k h' it l i := by
  cases k
  · exact Heap.IsTupleIter.at x e
  · exact Heap.IsListIter.at x e
theorem ItK.obj (x : ItK k h it l i) : ∃ o, h.get? it = some o ∧ ∀ v, o.data ≠ .cell v := by
  cases k
  · obtain ⟨o, e, _, d⟩ := x; exact ⟨o, e, fun v q => by rw [d] at q; cases q⟩
  · obtain ⟨o, e, _, d⟩ := x; exact ⟨o, e, fun v q => by rw [d] at q; cases q⟩
theorem SqK.ext (x : SqK k h l xs) (hs : Heap.ExtBut b h h') (ne : l ≠ b) : SqK k h' l xs := by
  cases k
  · exact Heap.IsTuple.extBut x hs ne
  · exact Heap.IsList.extBut x hs ne
theorem next_item {x : Value} {Q : Value → Shared → Prop} (hit : ItK k s.heap it l i) (hl : SqK k s.heap l xs) (hx : xs[i]? = some x) (hQ : ∀ h', ItK k h' it l (i + 1) → Heap.SameBut it s.heap h' → Q x { s with heap := h' }) :
    (wpAny (model prog w) A (Builtin.SmallTypes.nextOf (.ref it)) Q E s) := by
  cases k
  · exact _root_.RZ.nextOf_tuple_item hit hl hx hQ
  · exact wpAny_nextOf_list_item hit hl hx hQ
theorem next_end {Q : Value → Shared → Prop} (hh : A.handled = none) (hit : ItK k s.heap it l i) (hl : SqK k s.heap l xs) (hx : xs[i]? = none)
    (hE : ∀ h' e, Heap.ExtBut it s.heap h' → (∃ oe, h'.get? e = some oe ∧ oe.cls = .type "StopIteration") → E (.ref e) { s with heap := h' }) : wpAny (model prog w) A (Builtin.SmallTypes.nextOf (.ref it)) Q E s := by
  cases k
  · exact _root_.RZ.nextOf_tuple_end hh hit hl hx hE
  · exact wpAny_nextOf_list_end hh hit hl hx hE

/-- a zip, its two places' iterators a list's or a tuple's each -/
structure ZipK (k1 k2 : Bool) (z TI TO i1 i2 l1 l2 : Addr) (n : Nat) (h : Heap) : Prop where
  z : IsZip h z TI TO .none
  ti : IsPair h TI (.ref i1) (.ref i2)
  to : ∃ x y, IsPair h TO x y
  i1 : ItK k1 h i1 l1 n
  i2 : ItK k2 h i2 l2 n
variable {k1 k2 : Bool} {z TI TO i1 i2 l1 l2 : Addr} {n : Nat} {ys : Array Value}
theorem zipK_item {x y : Value} {Q : Value → Shared → Prop} (D : ZipApart z TI TO i1 i2 l1 l2) (Z : ZipK k1 k2 z TI TO i1 i2 l1 l2 n s.heap) (hl1 : SqK k1 s.heap l1 xs) (hl2 : SqK k2 s.heap l2 ys) (hx : xs[n]? = some x) (hy : ys[n]? = some y)
    (hQ : ∀ h', IsZip h' z TI TO (rawInt s.heap.objs.size) → IsPair h' TO x y → ItK k1 h' i1 l1 (n + 1) → ItK k2 h' i2 l2 (n + 1) → IsPair h' s.heap.objs.size x y → h'.objs.size = s.heap.objs.size + 1 →
      (∀ c oc, c ≠ z → c ≠ TO → c ≠ i1 → c ≠ i2 → s.heap.get? c = some oc → h'.get? c = some oc) → Q (.ref s.heap.objs.size) { s with heap := h' }) :
    (wpAny (model prog w) A (Builtin.«zip.__next__» ⟨[.ref z], []⟩) (fun fin s' => ∃ v, fin = .done (.ret v) ∧ Q v s') E s) := by
  obtain ⟨hz, hTI, ⟨a, b, hTO⟩, h1, h2⟩ := Z
  refine wpAny_bind (m := field (.ref z) 2) (wpAny_field hz rfl (x := .bool false) rfl ?_)
  refine wpAny_bind (m := field (.ref z) 3) (wpAny_field hz rfl (x := .ref TI) rfl (wpAny_bind (wpAny_seqItems hTI rfl ?_)))
  refine wpAny_bind (m := Builtin.SmallTypes.ownedTupleIsFree (.ref z)) ?_
  delta Builtin.SmallTypes.ownedTupleIsFree
  refine wpAny_bind (wpAny_field hz rfl (x := .none) rfl (wpAny_pure (?_)))
  simp only [if_true]
  refine wpAny_bind (wpAny_rule (wpAny_bind (wpAny_field hz rfl (x := .ref TO) rfl (wpAny_bind (wpAny_setField_rec hz (by simp) fun ha za sa => ?_)))))
  have za : IsZip ha z TI TO .ellipsis := za
  refine wpAny_bind (?_)
  simp only [List.zipIdx_nil, List.forIn_cons, List.forIn_nil, List.zipIdx_cons]
  -- the first place
  refine wpAny_bind (wpAny_bind (wpAny_onRaise (wpAny_bind (m := Builtin.SmallTypes.nextOf (.ref i1)) (next_item (h1.ext sa.extBut D.i1z) (hl1.ext sa.extBut D.l1z) hx fun hb ib sb => wpAny_pure ?_))))
  have tb : IsPair hb TO a b := sb.extBut _ _ D.TOi1 (sa.extBut _ _ D.TOz hTO)
  refine wpAny_bind (wpAny_seqItems tb rfl (wpAny_bind (wpAny_updateSeq_pair tb fun hc tc sc => wpAny_bind (wpAny_letGo (wpAny_pure ?_)))))
  have tc : IsPair hc TO x b := tc
  -- the second place
  refine wpAny_bind (wpAny_bind (wpAny_onRaise (wpAny_bind (m := Builtin.SmallTypes.nextOf (.ref i2)) (next_item (((h2.ext sa.extBut D.i2z).ext sb.extBut D.i12.symm).ext sc.extBut D.TOi2.symm)
    (((hl2.ext sa.extBut D.l2z).ext sb.extBut D.l2i1).ext sc.extBut D.l2TO) hy fun hd jd sd => wpAny_pure ?_))))
  have td : IsPair hd TO x b := sd.extBut _ _ D.TOi2 tc
  refine wpAny_bind (wpAny_seqItems td rfl (wpAny_bind (wpAny_updateSeq_pair td fun he te se => wpAny_bind (wpAny_letGo (wpAny_pure (wpAny_pure ?_))))))
  have te : IsPair he TO x y := te
  refine wpAny_bind (wpAny_seqItems te rfl (wpAny_bind (wpAny_newTuple ?_)))
  have sz : he.objs.size = s.heap.objs.size := by rw [se.1, sd.1, sc.1, sb.1, sa.1]
  have ze : IsZip he z TI TO .ellipsis := se.extBut _ _ D.TOz.symm (sd.extBut _ _ D.i2z.symm (sc.extBut _ _ D.TOz.symm (sb.extBut _ _ D.i1z.symm za)))
  have ke : ∀ c o, c ≠ z → c ≠ TO → c ≠ i1 → c ≠ i2 → s.heap.get? c = some o → he.get? c = some o := fun c o c1 c2 c3 c4 q =>
    se.extBut _ _ c2 (sd.extBut _ _ c4 (sc.extBut _ _ c2 (sb.extBut _ _ c3 (sa.extBut _ _ c1 q))))
  have ie : ItK k1 he i1 l1 (n + 1) := ((ib.ext sc.extBut D.TOi1.symm).ext sd.extBut D.i12).ext se.extBut D.TOi1.symm
  have je : ItK k2 he i2 l2 (n + 1) := jd.ext se.extBut D.TOi2.symm
  have zlt : z < he.objs.size := Heap.lt_size ze
  refine wpAny_bind (m := Builtin.SmallTypes.ownedTupleHandOut (.ref z) (.ref he.objs.size)) ?_
  delta Builtin.SmallTypes.ownedTupleHandOut
  have zf : IsZip (he.push { cls := .type "tuple", data := .seq #[x, y] }) z TI TO .ellipsis := Heap.get?_push_of_some _ ze
  refine wpAny_bind (wpAny_setField_rec zf (by simp) fun hg zg sg => wpAny_setField_rec (show IsZip hg z TI TO (rawInt he.objs.size) from zg) (by simp) fun hh zh sh => ?_)
  have zh : IsZip hh z TI TO (rawInt he.objs.size) := zh
  have up : ∀ c o, c ≠ z → he.get? c = some o → hh.get? c = some o := fun c o c1 q => sh.extBut _ _ c1 (sg.extBut _ _ c1 (Heap.get?_push_of_some _ q))
  have th : IsPair hh he.objs.size x y := sh.extBut _ _ (Nat.ne_of_gt zlt) (sg.extBut _ _ (Nat.ne_of_gt zlt) (Heap.get?_push_size _ rfl))
  have zn : hh.objs.size = he.objs.size + 1 := by rw [sh.1, sg.1, Heap.size_push]
  rw [sz] at zh th zn
  refine (wpAny_pure ⟨_, rfl, ?_⟩)
  show Q (.ref he.objs.size) { s with heap := hh }
  rw [sz]
  exact hQ hh zh (up _ _ D.TOz te) (ie.at fun o q => up _ o D.i1z q) (je.at fun o q => up _ o D.i2z q) th zn fun c o c1 c2 c3 c4 q => up c o c1 (ke c o c1 c2 c3 c4 q)
theorem zipK_end {Q : Fin → Shared → Prop} (hh : A.handled = none) (D : ZipApart z TI TO i1 i2 l1 l2) (Z : ZipK k1 k2 z TI TO i1 i2 l1 l2 n s.heap) (hl1 : SqK k1 s.heap l1 xs) (hl2 : SqK k2 s.heap l2 ys) (hend : xs[n]? = none ∨ ys[n]? = none)
    (hE : ∀ h' e, (∀ c oc, c ≠ z → c ≠ TO → c ≠ i1 → c ≠ i2 → s.heap.get? c = some oc → h'.get? c = some oc) → (∃ oe, h'.get? e = some oe ∧ oe.cls = .type "StopIteration") → E (.ref e) { s with heap := h' }) :
    (wpAny (model prog w) A (Builtin.«zip.__next__» ⟨[.ref z], []⟩) Q E s) := by
  obtain ⟨hz, hTI, ⟨a, b, hTO⟩, h1, h2⟩ := Z
  refine wpAny_bind (m := field (.ref z) 2) (wpAny_field hz rfl (x := .bool false) rfl ?_)
  refine wpAny_bind (m := field (.ref z) 3) (wpAny_field hz rfl (x := .ref TI) rfl (wpAny_bind (wpAny_seqItems hTI rfl ?_)))
  refine wpAny_bind (m := Builtin.SmallTypes.ownedTupleIsFree (.ref z)) ?_
  delta Builtin.SmallTypes.ownedTupleIsFree
  refine wpAny_bind (wpAny_field hz rfl (x := .none) rfl (wpAny_pure (?_)))
  simp only [if_true]
  refine wpAny_bind (wpAny_rule (wpAny_bind (wpAny_field hz rfl (x := .ref TO) rfl (wpAny_bind (wpAny_setField_rec hz (by simp) fun ha za sa => ?_)))))
  have za : IsZip ha z TI TO .ellipsis := za
  refine wpAny_bind (?_)
  simp only [List.zipIdx_nil, List.forIn_cons, List.forIn_nil, List.zipIdx_cons]
  have notz : ∀ {h : Heap} {e : Addr}, IsZip h z TI TO .ellipsis → (∃ o, h.get? e = some o ∧ o.cls = .type "StopIteration") → e ≠ z := fun hz he q => by
    obtain ⟨o, g1, g2⟩ := he
    subst q
    rw [hz] at g1
    cases g1
    simp at g2
  refine (wpAny_bind (wpAny_bind (wpAny_onRaise ?_)))
  cases hx : xs[n]? with
  | none =>
    refine wpAny_bind (m := Builtin.SmallTypes.nextOf (.ref i1)) (next_end hh (h1.ext sa.extBut D.i1z) (hl1.ext sa.extBut D.l1z) hx fun hb e sb he => ?_)
    have zb : IsZip hb z TI TO .ellipsis := sb _ _ D.i1z.symm za
    have ne := notz zb he
    obtain ⟨oe, g1, g2⟩ := he
    exact wpAny_setField_rec zb (by simp) fun hc _ sc => hE hc e (fun c o c1 _ c3 _ q => sc.extBut _ _ c1 (sb _ _ c3 (sa.extBut _ _ c1 q))) ⟨oe, sc.extBut _ _ ne g1, g2⟩
  | some x =>
    have hy : ys[n]? = none := hend.resolve_left (by rw [hx]; simp)
    refine wpAny_bind (m := Builtin.SmallTypes.nextOf (.ref i1)) (next_item (h1.ext sa.extBut D.i1z) (hl1.ext sa.extBut D.l1z) hx fun hb ib sb => wpAny_pure ?_)
    have tb : IsPair hb TO a b := sb.extBut _ _ D.TOi1 (sa.extBut _ _ D.TOz hTO)
    refine wpAny_bind (wpAny_seqItems tb rfl (wpAny_bind (wpAny_updateSeq_pair tb fun hc tc sc => wpAny_bind (wpAny_letGo (wpAny_pure ?_)))))
    refine wpAny_bind (wpAny_bind (wpAny_onRaise (wpAny_bind (m := Builtin.SmallTypes.nextOf (.ref i2)) (next_end hh (((h2.ext sa.extBut D.i2z).ext sb.extBut D.i12.symm).ext sc.extBut D.TOi2.symm)
      (((hl2.ext sa.extBut D.l2z).ext sb.extBut D.l2i1).ext sc.extBut D.l2TO) hy fun hd e sd he => ?_))))
    have zd : IsZip hd z TI TO .ellipsis := sd _ _ D.i2z.symm (sc.extBut _ _ D.TOz.symm (sb.extBut _ _ D.i1z.symm za))
    have ne := notz zd he
    obtain ⟨oe, g1, g2⟩ := he
    exact wpAny_setField_rec zd (by simp) fun he' _ se => hE he' e (fun c o c1 c2 c3 c4 q => se.extBut _ _ c1 (sd _ _ c4 (sc.extBut _ _ c2 (sb.extBut _ _ c3 (sa.extBut _ _ c1 q))))) ⟨oe, se.extBut _ _ ne g1, g2⟩

theorem zipK_next {x y : Value} {Q : Option Value → Shared → Prop} (D : ZipApart z TI TO i1 i2 l1 l2) (Z : ZipK k1 k2 z TI TO i1 i2 l1 l2 n s.heap) (hl1 : SqK k1 s.heap l1 xs) (hl2 : SqK k2 s.heap l2 ys) (hx : xs[n]? = some x) (hy : ys[n]? = some y)
    (hQ : ∀ h', IsZip h' z TI TO (rawInt s.heap.objs.size) → IsPair h' TO x y → ItK k1 h' i1 l1 (n + 1) → ItK k2 h' i2 l2 (n + 1) → IsPair h' s.heap.objs.size x y → h'.objs.size = s.heap.objs.size + 1 →
      (∀ c oc, c ≠ z → c ≠ TO → c ≠ i1 → c ≠ i2 → s.heap.get? c = some oc → h'.get? c = some oc) → Q (some (.ref s.heap.objs.size)) { s with heap := h' }) : wpAny (model prog w) A (pyNext (.ref z)) Q E s := by
  have tz : s.TypeIs (.ref z) "zip" := ⟨_, Z.z, rfl⟩
  unfold pyNext
  exact wpAny_bind (wpAny_attempt (wpAny_callSpecial?_slot (name := Str.ofString "__next__") tz F.slot_zip_next (wpAny_call_entry F.slot_zip_next tz F.entry_zip_next
    (zipK_item D Z hl1 hl2 hx hy fun h' a1 a2 a3 a4 a5 a6 a7 => wpAny_pure (hQ h' a1 a2 a3 a4 a5 a6 a7)) (F.args_zip_next_1 _))))
theorem zipK_stop {Q : Option Value → Shared → Prop} (hh : A.handled = none) (D : ZipApart z TI TO i1 i2 l1 l2) (Z : ZipK k1 k2 z TI TO i1 i2 l1 l2 n s.heap) (hl1 : SqK k1 s.heap l1 xs) (hl2 : SqK k2 s.heap l2 ys) (hend : xs[n]? = none ∨ ys[n]? = none)
    (hQ : ∀ h', (∀ c oc, c ≠ z → c ≠ TO → c ≠ i1 → c ≠ i2 → s.heap.get? c = some oc → h'.get? c = some oc) → Q none { s with heap := h' }) : wpAny (model prog w) A (pyNext (.ref z)) Q E s := by
  have tz : s.TypeIs (.ref z) "zip" := ⟨_, Z.z, rfl⟩
  unfold pyNext
  exact wpAny_bind (wpAny_attempt (wpAny_callSpecial?_slot (name := Str.ofString "__next__") tz F.slot_zip_next (wpAny_call_entry F.slot_zip_next tz F.entry_zip_next
    (zipK_end hh D Z hl1 hl2 hend fun h' e hk ⟨o, ho, hc⟩ => wpAny_bind (wpAny_isInstance (T := "StopIteration") (b := true) ⟨o, ho, hc⟩ isSubtype_stop (wpAny_pure (hQ _ hk)))) (F.args_zip_next_1 _))))
end
/-! ### making one -/
abbrev itN (k : Bool) : String := match k with
  | true => "list_iterator"
  | false => "tuple_iterator"
abbrev zH1 (k1 : Bool) (h : Heap) (l1 : Addr) : Heap := h.push { cls := .type (itN k1), data := .fields #[.ref l1, .int 0 0] }
abbrev zH2 (k1 k2 : Bool) (h : Heap) (l1 l2 : Addr) : Heap := (zH1 k1 h l1).push { cls := .type (itN k2), data := .fields #[.ref l2, .int 0 0] }
abbrev zH3 (k1 k2 : Bool) (h : Heap) (l1 l2 : Addr) : Heap := (zH2 k1 k2 h l1 l2).push { cls := .type "tuple", data := .seq #[.ref h.objs.size, .ref (zH1 k1 h l1).objs.size] }
abbrev zH4 (k1 k2 : Bool) (h : Heap) (l1 l2 : Addr) : Heap := (zH3 k1 k2 h l1 l2).push { cls := .type "tuple", data := .seq #[.none, .none] }
abbrev zH5 (k1 k2 : Bool) (h : Heap) (l1 l2 : Addr) : Heap := (zH4 k1 k2 h l1 l2).push { cls := .type "zip", data := .fields #[.none, .bool false, .bool false, .ref (zH2 k1 k2 h l1 l2).objs.size, .ref (zH3 k1 k2 h l1 l2).objs.size] }
theorem sqK_push {k : Bool} {h : Heap} {l : Addr} {xs : Array Value} (x : SqK k h l xs) (o : Obj) : SqK k (h.push o) l xs := by
  cases k
  · exact Heap.IsTuple.push x o
  · exact Heap.IsList.push x o
theorem meets_zipLT (l1 l2 : Addr) (xs ys : Array Value) :
    Meets (Builtin.«zip.__new__» ⟨[.type "zip", .ref l1, .ref l2], []⟩) (fun _ R s => s.heap.IsList l1 xs ∧ s.heap.IsTuple l2 ys ∧ R (.ok (.ret (.ref (zH4 true false s.heap l1 l2).objs.size))) { s with heap := zH5 true false s.heap l1 l2 }) :=
  .of_wp fun pg w A R s h => by
    obtain ⟨hp, g, d, tk, os⟩ := (s)
    obtain ⟨p1, p2, h⟩ := h
    have hsub := sub_zip
    have q1 : Heap.IsList (Shared.heap ⟨hp, g, d, tk, os⟩) l1 xs := p1
    have q2 : Heap.IsTuple (Shared.heap ⟨hp.push { cls := .type "list_iterator", data := .fields #[.ref l1, .int 0 0] }, g, d, tk, os⟩) l2 ys := Heap.IsTuple.push p2 _
    wp_walk using wpAny_pyIter_list q1, wpAny_pyIter_tuple q2
    exact ⟨_, rfl, h⟩
theorem meets_zipTL (l1 l2 : Addr) (xs ys : Array Value) :
    Meets (Builtin.«zip.__new__» ⟨[.type "zip", .ref l1, .ref l2], []⟩) (fun _ R s => s.heap.IsTuple l1 xs ∧ s.heap.IsList l2 ys ∧ R (.ok (.ret (.ref (zH4 false true s.heap l1 l2).objs.size))) { s with heap := zH5 false true s.heap l1 l2 }) :=
  .of_wp fun pg w A R s h => by
    obtain ⟨hp, g, d, tk, os⟩ := (s)
    obtain ⟨p1, p2, h⟩ := h
    have hsub := sub_zip
    have q1 : Heap.IsTuple (Shared.heap ⟨hp, g, d, tk, os⟩) l1 xs := p1
    have q2 : Heap.IsList (Shared.heap ⟨hp.push { cls := .type "tuple_iterator", data := .fields #[.ref l1, .int 0 0] }, g, d, tk, os⟩) l2 ys := Heap.IsList.push p2 _
    wp_walk using wpAny_pyIter_tuple q1, wpAny_pyIter_list q2
    exact ⟨_, rfl, h⟩
section
variable {prog : Program}
variable {w : World} {A : Around} {E : Value → Shared → Prop} {s : Shared}
theorem call_zipK {k1 k2 : Bool} {l1 l2 : Addr} {xs ys : Array Value} {Q : Value → Shared → Prop} (hl1 : SqK k1 s.heap l1 xs) (hl2 : SqK k2 s.heap l2 ys)
    (h : ∀ h', ZipK k1 k2 (s.heap.objs.size + 4) (s.heap.objs.size + 2) (s.heap.objs.size + 3) s.heap.objs.size (s.heap.objs.size + 1) l1 l2 0 h' → (∀ c o, s.heap.get? c = some o → h'.get? c = some o) → Q (.ref (s.heap.objs.size + 4)) { s with heap := h' }) :
    (wpAny (model prog w) A (call (.type "zip") [.ref l1, .ref l2]) Q E s) := by
  have mix : ∀ {k1 k2 : Bool}, ((Value.ref (zH4 k1 k2 s.heap l1 l2).objs.size = Value.ref (s.heap.objs.size + 4)) ∧ ZipK k1 k2 (s.heap.objs.size + 4) (s.heap.objs.size + 2) (s.heap.objs.size + 3) s.heap.objs.size (s.heap.objs.size + 1) l1 l2 0 (zH5 k1 k2 s.heap l1 l2)) ∧
      (∀ c o, s.heap.get? c = some o → (zH5 k1 k2 s.heap l1 l2).get? c = some o) ∧ (∃ o, (zH5 k1 k2 s.heap l1 l2).get? (s.heap.objs.size + 4) = some o ∧ o.cls = .type "zip") := fun {k1 k2} => by
    have z1 : (zH1 k1 s.heap l1).objs.size = s.heap.objs.size + 1 := Heap.size_push ..
    have z2 : (zH2 k1 k2 s.heap l1 l2).objs.size = s.heap.objs.size + 2 := by rw [Heap.size_push, z1]
    have z3 : (zH3 k1 k2 s.heap l1 l2).objs.size = s.heap.objs.size + 3 := by rw [Heap.size_push, z2]
    have z4 : (zH4 k1 k2 s.heap l1 l2).objs.size = s.heap.objs.size + 4 := by rw [Heap.size_push, z3]
    have e5 : (zH5 k1 k2 s.heap l1 l2).get? (zH4 k1 k2 s.heap l1 l2).objs.size = some _ := Heap.get?_push_size _ rfl
    have e4 : (zH5 k1 k2 s.heap l1 l2).get? (zH3 k1 k2 s.heap l1 l2).objs.size = some _ := Heap.get?_push_of_some _ (Heap.get?_push_size _ rfl)
    have e3 : (zH5 k1 k2 s.heap l1 l2).get? (zH2 k1 k2 s.heap l1 l2).objs.size = some _ := Heap.get?_push_of_some _ (Heap.get?_push_of_some _ (Heap.get?_push_size _ rfl))
    have e2 : (zH5 k1 k2 s.heap l1 l2).get? (zH1 k1 s.heap l1).objs.size = some _ := Heap.get?_push_of_some _ (Heap.get?_push_of_some _ (Heap.get?_push_of_some _ (Heap.get?_push_size _ rfl)))
    have e1 : (zH5 k1 k2 s.heap l1 l2).get? s.heap.objs.size = some _ := Heap.get?_push_of_some _ (Heap.get?_push_of_some _ (Heap.get?_push_of_some _ (Heap.get?_push_of_some _ (Heap.get?_push_size _ rfl))))
    rw [z2, z3, z4] at e5
    rw [z1, z2] at e3
    rw [z3] at e4
    rw [z1] at e2
    refine ⟨⟨by rw [z4], e5, e3, ⟨_, _, e4⟩, ?_, ?_⟩, fun c o x => Heap.get?_push_of_some _ (Heap.get?_push_of_some _ (Heap.get?_push_of_some _ (Heap.get?_push_of_some _ (Heap.get?_push_of_some _ x)))), ⟨_, e5, rfl⟩⟩
    · cases k1 <;> exact ⟨_, e1, rfl, rfl⟩
    · cases k2 <;> exact ⟨_, e2, rfl, rfl⟩
  cases k1 <;> cases k2
  · exact _root_.RZ.call_zipT hl1 hl2 fun h' a1 a2 a3 a4 a5 _ a7 => h h' ⟨a1, a2, ⟨_, _, a3⟩, a4, a5⟩ a7
  · refine callType_new F.called_zip (by decide) (F.typeCall_zip_2 _ _) (F.newCall_zip_2 _ _) (fun obj => F.args_object_init_3 obj _ _) F.entry_zip_new (meets_zipTL l1 l2 xs ys) ⟨hl1, hl2, ?_⟩
    obtain ⟨⟨m1, m2⟩, m3, m4⟩ := mix (k1 := false) (k2 := true)
    rw [m1]
    exact ⟨m4, h _ m2 m3⟩
  · refine callType_new F.called_zip (by decide) (F.typeCall_zip_2 _ _) (F.newCall_zip_2 _ _) (fun obj => F.args_object_init_3 obj _ _) F.entry_zip_new (meets_zipLT l1 l2 xs ys) ⟨hl1, hl2, ?_⟩
    obtain ⟨⟨m1, m2⟩, m3, m4⟩ := mix (k1 := true) (k2 := false)
    rw [m1]
    exact ⟨m4, h _ m2 m3⟩
  · exact call_zip_2 hl1 hl2 fun h' a1 a2 a3 a4 a5 _ a7 => h h' ⟨a1, a2, ⟨_, _, a3⟩, a4, a5⟩ a7
end
end R

namespace R
open L2 PyProof.Rows PySem.Spec PySem
/-! ### walking one -/
def SqA (k : Bool) (K : PySem.W.Frag) (H : Hp) (a : Addr) (xs : List V) : Prop := match k with
  | true => SqL K H a xs
  | false => SqT K H a xs
theorem SqA.got {X : Cx} {pins : List (Addr × Obj)} {σ : L2.St} {H : Hp} {s : Shared} {k : Bool} {a : Addr} {xs : List V} (I : Inv X pins σ H s) (h : SqA k X.K H a xs) : ∃ its : List Value, Vals xs its ∧ SqK k s.heap a its.toArray ∧ a < s.heap.objs.size := by
  cases k
  · obtain ⟨its, r, p, _⟩ := I.tuple h
    obtain ⟨o, ho, q⟩ := id p
    exact ⟨its, r, ⟨o, ho, q⟩, Heap.lt_size ho⟩
  · obtain ⟨its, r, p, _⟩ := I.list h
    exact ⟨its, r, p.isList, p.lt⟩
theorem SqA.inj {X : Cx} {pins : List (Addr × Obj)} {σ : L2.St} {H : Hp} {s : Shared} {k : Bool} {a : Addr} {xs ys : List V} (I : Inv X pins σ H s) (h : SqA k X.K H a xs) (h' : SqA k X.K H a ys) : xs = ys := by
  cases k
  · exact I.tuple_inj h h'
  · exact I.list_inj h h'
def Itzk (k1 k2 : Bool) (K : PySem.W.Frag) (a b : Addr) : It :=
  ⟨fun i H => ∃ (xs ys : List V) (x y : V), SqA k1 K H a xs ∧ SqA k2 K H b ys ∧ xs[i]? = some x ∧ ys[i]? = some y,
    fun i H v H' => ∃ T x y, v = .ref T ∧ H T = none ∧ H' = upd H T (.tup [x, y]) ∧ (∀ xs, SqA k1 K H a xs → xs[i]? = some x) ∧ ∀ ys, SqA k2 K H b ys → ys[i]? = some y,
    fun i H => ∃ xs ys : List V, SqA k1 K H a xs ∧ SqA k2 K H b ys ∧ (xs.length ≤ i ∨ ys.length ≤ i)⟩
theorem turn_zipK {P : Program} {w : World} {K : PySem.W.Frag} {elts : List Expr} {kk : Nat} {tpos : Pos} {k1 k2 : Bool} {a b z TI TO i1 i2 : Addr} (D : ZipApart z TI TO i1 i2 a b) :
    Turn P w K (.Tuple elts kk tpos) (Itzk k1 k2 K a b) [z, TI, TO, i1, i2] z (fun i h => ZipK k1 k2 z TI TO i1 i2 a b i h) where
  mem := by simp
  obj := fun i h st c hc => by
    have five : c = z ∨ c = TI ∨ c = TO ∨ c = i1 ∨ c = i2 := by simpa using hc
    obtain ⟨x, y, t⟩ := st.to
    rcases five with rfl | rfl | rfl | rfl | rfl
    · exact ⟨_, st.z, fun v q => nomatch q⟩
    · exact ⟨_, st.ti, fun v q => nomatch q⟩
    · exact ⟨_, t, fun v q => nomatch q⟩
    · exact st.i1.obj
    · exact st.i2.obj
  keep := fun i h h' st k => by
    obtain ⟨x, y, t⟩ := st.to
    exact ⟨k z (by simp) _ st.z, k TI (by simp) _ st.ti, ⟨x, y, k TO (by simp) _ t⟩, st.i1.at fun o q => k i1 (by simp) o q, st.i2.at fun o q => k i2 (by simp) o q⟩
  item := by
    intro X; intro hP hw hK hc i pins s σ H E I hf st hg
    subst hP hw hK
    obtain ⟨xs, ys, x, y, qx, qy, ex, ey⟩ := hg
    obtain ⟨its, rv, p, _⟩ := SqA.got I qx
    obtain ⟨jts, rv2, p2, _⟩ := SqA.got I qy
    obtain ⟨u, hu, ru⟩ := rv.get ex
    obtain ⟨u2, hu2, ru2⟩ := rv2.get ey
    have zl : z < s.heap.objs.size := Heap.lt_size st.z
    have five : ∀ {c : Addr} {h' : Heap}, (∀ c o, c ≠ z → c ≠ TO → c ≠ i1 → c ≠ i2 → s.heap.get? c = some o → h'.get? c = some o) → ∀ o, c ∉ [z, TI, TO, i1, i2] → s.heap.get? c = some o → h'.get? c = some o := fun {c h'} hk o hb q => by
      simp only [List.mem_cons, List.not_mem_nil, or_false, not_or] at hb
      exact hk c o hb.1 hb.2.2.1 hb.2.2.2.1 hb.2.2.2.2 q
    refine zipK_next D st p p2 (x := u) (y := u2) (by simpa using hu) (by simpa using hu2) fun h' z' t' j1 j2 hT hsz hk => ⟨_, rfl, wpAny_letOwnedTupleGo_zip (s := { s with heap := h' }) z' fun h2 z2 sb => ?_⟩
    have hT2 : h2.get? s.heap.objs.size = some { cls := .type "tuple", data := .seq #[u, u2] } := (sb.2 _ (Nat.ne_of_gt zl)).trans hT
    have new : ObjOk X.prog X.w (upd H s.heap.objs.size (.tup [x, y])) h2 s.heap.objs.size (.tup [x, y]) := ⟨show 2 ≤ sizeLine by decide, [u, u2], .cons ru (.cons ru2 .nil), ⟨_, hT2, rfl, _, rfl⟩⟩
    have I1 : Inv X pins σ (upd H s.heap.objs.size (.tup [x, y])) { s with heap := h2 } :=
      I.turnedNew (t' := s.toks) (ch := [z, TI, TO, i1, i2]) (fun c o hb q => (sb.2 c (fun e => hb (by simp [e]))).trans (five hk o hb q)) hf (Nat.le_refl _) new
    refine ⟨.ref s.heap.objs.size, _, I1, rfl, ⟨_, x, y, rfl, I.hok.fresh (Nat.le_refl _), rfl, fun l hl => by rw [SqA.inj I hl qx]; exact ex, fun l hl => by rw [SqA.inj I hl qy]; exact ey⟩, ⟨z2, ?_, ⟨u, u2, ?_⟩, ?_, ?_⟩, fun c hm => ?_⟩
    · exact (sb.2 _ D.TIz).trans (hk _ _ D.TIz D.TITO D.TIi1 D.TIi2 st.ti)
    · exact (sb.2 _ D.TOz).trans t'
    · exact j1.at fun o q => (sb.2 _ D.i1z).trans q
    · exact j2.at fun o q => (sb.2 _ D.i2z).trans q
    · have lt : c < s.heap.objs.size := by
        have five' : c = z ∨ c = TI ∨ c = TO ∨ c = i1 ∨ c = i2 := by simpa using hm
        obtain ⟨x', y', t0⟩ := st.to
        obtain ⟨o1, g1, _⟩ := st.i1.obj
        obtain ⟨o2, g2, _⟩ := st.i2.obj
        rcases five' with rfl | rfl | rfl | rfl | rfl
        · exact zl
        · exact Heap.lt_size st.ti
        · exact Heap.lt_size t0
        · exact Heap.lt_size g1
        · exact Heap.lt_size g2
      rw [upd_ne (Nat.ne_of_lt lt)]
      exact (hf c hm).1
  done := by
    intro X; intro hP hw hK hc i pins s σ H E I hf st hg
    subst hP hw hK
    obtain ⟨xs, ys, qx, qy, hend⟩ := hg
    obtain ⟨its, rv, p, _⟩ := SqA.got I qx
    obtain ⟨jts, rv2, p2, _⟩ := SqA.got I qy
    have n1 := rv.length
    have n2 := rv2.length
    refine zipK_stop (I.ok.hd hc) D st p p2 (hend.imp (fun q => by simp; omega) fun q => by simp; omega) fun h' hk => ⟨rfl, I.turnedL (t' := s.toks) (ch := [z, TI, TO, i1, i2]) (fun c o hb q => ?_) hf⟩
    simp only [List.mem_cons, List.not_mem_nil, or_false, not_or] at hb
    exact hk c o hb.1 hb.2.2.1 hb.2.2.2.1 hb.2.2.2.2 q
  self := fun A i s Q E st h => wpAny_pyIter_zip st.z h
theorem vals_two {x y : V} {us : List Value} (r : Vals [x, y] us) : ∃ v1 v2, us = [v1, v2] ∧ RelV x v1 ∧ RelV y v2 := by
  cases r with
  | cons a r =>
    cases r with
    | cons b r => cases r; exact ⟨_, _, rfl, a, b⟩
def iZk (K : PySem.W.Frag) (ta : TA) : TI := fun σ H R => ta σ H fun vs H1 => ∃ a b xs ys k1 k2, vs = [.ref a, .ref b] ∧ SqA k1 K H1 a xs ∧ SqA k2 K H1 b ys ∧ R (Itzk k1 k2 K a b) H1
theorem pi_zipK {X : Cx} {e e2 : Expr} {ta : TA} {p pos tpos : Pos} {elts : List Expr} {kk : Nat} (hg : Gl X "zip") (hm : X.mg "zip" = none) (ha : PA X [e, e2] ta) (hs : starEach [e, e2] X.env = (false, eval e X.env) :: starEach [e2] X.env)
    (hpl : (backTo pos (starEach [e2] X.env)).any (·.1) = false) : PI X (.Tuple elts kk tpos) (.Call (.Name "zip" p) [e, e2] [] pos) (iZk X.K ta) := by
  refine ⟨fun pins s σ H R I h => Call_ (ld_blt I hg hm PyProof.Rows.boot_zip (PyProof.Rows.callWith_type1 (thn (ha.run pos pins s σ H _ I h) fun us s1 ⟨vs, H1, I1, r1, q1⟩ => ?_) hs hpl))⟩
  obtain ⟨a, b, xs, ys, k1, k2, ex, qx, qy, q⟩ := q1
  subst ex
  obtain ⟨v1, v2, eu, r, r'⟩ := vals_two r1
  subst eu
  cases r
  cases r'
  obtain ⟨its, rv, p1, la⟩ := SqA.got I1 qx
  obtain ⟨jts, rv2, p2, lb⟩ := SqA.got I1 qy
  refine call_zipK p1 p2 fun h' Z hk => wpAny_pyIter_zip Z.z ?_
  have J : Inv X pins σ H1 { s1 with heap := h' } := I1.kept (t' := s1.toks) hk
  have T := turn_zipK (P := X.prog) (w := X.w) (K := X.K) (elts := elts) (kk := kk) (tpos := tpos) (k1 := k1) (k2 := k2) (PySem.W.ktu_apart s1.heap.objs.size a b la lb)
  have F : ∀ c ∈ [s1.heap.objs.size + 4, s1.heap.objs.size + 2, s1.heap.objs.size + 3, s1.heap.objs.size, s1.heap.objs.size + 1], FpOk X pins H1 c := fun c hc => by
    have le : s1.heap.objs.size ≤ c := by
      simp only [List.mem_cons, List.not_mem_nil, or_false] at hc
      omega
    exact I1.fpOk le (I1.hok.fresh le)
  exact ⟨_, _, _, _, H1, rfl, J, T, Z, F, q⟩
end R

/-! R10: walks, comprehensions. -/
namespace R
open L2 PyProof.Rows PySem.Spec PySem
/-- J walks the values xs, wherever Keep holds -/
def WalkD (T : Tb) (J : It) (xs : List D) (Keep : Wd → Hp → Prop) : Prop := ∀ w H κ, Wok T w H κ → Keep w H →
  (∀ i, i < xs.length → J.go i H ∧ ∀ v H2, J.yld i H v H2 → ∃ w2 d, xs[i]? = some d ∧ Ext w H w2 H2 ∧ Wok T w2 H2 κ ∧ RV T w2 v d) ∧ J.stop xs.length H
/-- Keep lasts: by expressions; where the borrowed slots are only read -/
structure Lasts (T : Tb) (w : Wd) (H : Hp) (σV : L2.St) (σ : Sl) (bs : List Nat) (Keep : Wd → Hp → Prop) : Prop where
  ext : ∀ w' H', Ext w H w' H' → Same w'.F H' → Keep w' H'
  slots : ∀ w' H' σV' σ', Le w w' → Same w'.F H' → RS T w' H' σV' σ' → (∀ i ∈ bs, σV'[i]? = σV[i]? ∧ ∃ o, σ[i]? = some (some o) ∧ σ'[i]? = some (some (o.read i))) → Keep w' H'
def GI (T : Tb) (σV : L2.St) (σ : Sl) (R : It → Hp → Prop) : (List D × List Nat) × Cells → Wd → Hp → Prop := fun r w H => ∀ J Keep, Keep w H → WalkD T J r.1.1 Keep → Lasts T w H σV σ r.1.2 Keep → R J H
def tI (T : Tb) (Γ : Cxt) (e : E) (W : WX) : TI := fun σV H R => ∃ w σ κ, Wok T w H κ ∧ RS T w H σV σ ∧ Post T w H (evIt Γ e σ κ) (fun c d H' => W c d σV H') (GI T σV σ R)
theorem PI.or {X : Cx} {tg e : Expr} {a b : TI} (h : PI X tg e a) (k : PI X tg e b) : PI X tg e (fun σ H R => a σ H R ∨ b σ H R) := ⟨fun pins s σ H R I q => q.elim (h.run pins s σ H R I) (k.run pins s σ H R I)⟩
section
variable {T : Tb} {S : Sg} {Γ : Cxt} {N : List Str} {n : Nat} {w : Wd} {H : Hp} {κ : Cells} {σV : L2.St} {σ : Sl}
/-- a list or tuple, as it is read -/
structure SqRd (T : Tb) (k : Bool) (w : Wd) (H : Hp) (a : Addr) (ds : List D) : Prop where
  at_ : ∃ vs, SqA k T.K H a vs ∧ RVs T w vs ds
theorem sq_fz {v : V} {d : D} {ds : List D} (le : Same w.F H) (h : RV T w v d) (e : seqD d = some ds) : ∃ a k, v = .ref a ∧ SqRd T k w H a ds ∧ ∀ w' H', Le w w' → Same w'.F H' → SqRd T k w' H' a ds := by
  cases d <;> simp only [seqD, reduceCtorEq, Option.some.injEq] at e
  · subst e
    cases h with
    | tup q r => exact ⟨_, false, rfl, ⟨_, sqT_mono le q, r⟩, fun w' H' l sm => ⟨_, sqT_mono (l.F.trans sm) q, r.mono l⟩⟩
  · subst e
    cases h with
    | lst q r => exact ⟨_, true, rfl, ⟨_, SqL.of (le _ _ q), r⟩, fun w' H' l sm => ⟨_, SqL.of (sm _ _ (l.F _ _ q)), r.mono l⟩⟩
  · subst e
    cases h with
    | scr q r => exact ⟨_, true, rfl, ⟨_, le.seq q, r⟩, fun w' H' l sm => ⟨_, (l.F.trans sm).seq q, r.mono l⟩⟩
/-- giving away changes no other value -/
theorem RO.give2 {v : V} {o : O} {d : D} (h : RO T w H v o) (k : Wok T w H κ) (e : o.frz = some d) {w₀ : Wd} {H₀ : Hp} (x : Ext w₀ H₀ w H) (y : Young H₀ v o) :
    ∃ w', Wok T w' H κ ∧ Ext w₀ H₀ w' H ∧ (Le w w' ∧ w'.θ = w.θ) ∧ RV T w' v d ∧ ∀ v' o', RO T w H v' o' → (o.place = true → o'.place = true → v' ≠ v) → RO T w' H v' o' := by
  cases hp : o.place with
  | false =>
    cases o with
    | fz d' => cases e; exact ⟨w, k, x, ⟨Le.rfl' w, rfl⟩, h, fun v' o' h' _ => h'⟩
    | _ => cases hp
  | true =>
    obtain ⟨a, u, rfl, h1, n1, f1⟩ := h.addr hp
    have key : ∀ {c : HO}, H a = some c → RV T (w.put a c) (.ref a) d → ∃ w', Wok T w' H κ ∧ Ext w₀ H₀ w' H ∧ (Le w w' ∧ w'.θ = w.θ) ∧ RV T w' (.ref a) d ∧ ∀ v' o', RO T w H v' o' → (true = true → o'.place = true → v' ≠ V.ref a) → RO T w' H v' o' := fun {c} hc rv =>
      ⟨w.put a c, k.give hc n1 f1, x.give (y hp a rfl) f1, ⟨le_put _ f1, rfl⟩, rv, fun v' o' h' ne => h'.move (le_put _ f1) fun a' u' ev pl hu => by
        obtain ⟨a2, u2, e2, h2, n2, f2⟩ := h'.addr pl
        rw [ev] at e2; cases e2
        refine ⟨hu, n2, ?_⟩
        show upd w.F a c a' = none
        rw [upd_ne (fun z => ne rfl pl (by rw [ev, z]))]
        exact f2⟩
    cases o with
    | fz d' => cases hp
    | ol b xs =>
      cases b with
      | some i => cases e
      | none =>
        cases e
        obtain ⟨a', vs, ea, h1, r, n, f⟩ := h
        cases ea
        exact key h1 (.lst (by show upd _ _ _ _ = _; exact upd_same) (r.mono (le_put _ f)))
    | od b xs =>
      cases b with
      | some i => cases e
      | none =>
        cases e
        obtain ⟨a', vs, ea, h1, r, n, f⟩ := h
        cases ea
        obtain ⟨ks, us, es, rfl, rfl, el, r⟩ := r.unzip
        exact key h1 (.dK (by show upd _ _ _ _ = _; exact upd_same) el (r.mono (le_put _ f)))
    | ot b xs =>
      cases b with
      | some i => cases e
      | none =>
        cases e
        obtain ⟨a', vs, ea, h1, r, n, f⟩ := h
        cases ea
        obtain ⟨ks, us, es, rfl, rfl, el, r⟩ := r.unzip
        exact key h1 (.dT (by show upd _ _ _ _ = _; exact upd_same) el (r.mono (le_put _ f)))
/-- where a value came from: the slot that it is borrowed from -/
def Src (σ : Sl) (o : O) : Prop := ∀ i, o.tag = some i → ∃ o', σ[i]? = some (some o') ∧ o = o'.read i
/-- what lies at a through all that is to come -/
structure Stays (T : Tb) (k : Bool) (σV : L2.St) (σ : Sl) (bs : List Nat) (w : Wd) (H : Hp) (a : Addr) (ds : List D) : Prop where
  now : SqRd T k w H a ds
  ext : ∀ w' H', Le w w' → Same w'.F H' → (∀ a o, H a = some o → a ∉ w.θ → H' a = some o) → SqRd T k w' H' a ds
  slots : ∀ w' H' σV' σ', Le w w' → Same w'.F H' → RS T w' H' σV' σ' → (∀ i ∈ bs, σV'[i]? = σV[i]? ∧ ∃ o, σ[i]? = some (some o) ∧ σ'[i]? = some (some (o.read i))) → SqRd T k w' H' a ds
theorem Stays.fz {v : V} {d : D} {ds : List D} {bs : List Nat} (le : Same w.F H) (h : RV T w v d) (e : seqD d = some ds) : ∃ a k, v = .ref a ∧ Stays T k σV σ bs w H a ds := by
  obtain ⟨a, k, ea, rd, last⟩ := sq_fz le h e
  exact ⟨a, k, ea, rd, fun w' H' l sm _ => last w' H' l sm, fun w' H' _ _ l sm _ _ => last w' H' l sm⟩
theorem Stays.later {k : Bool} {bs : List Nat} {a : Addr} {ds : List D} {w' : Wd} (h : Stays T k σV σ bs w H a ds) (l : Le w w') (e : w'.θ = w.θ) (sm : Same w'.F H) : Stays T k σV σ bs w' H a ds :=
  ⟨h.ext _ _ l sm fun _ _ q _ => q, fun w2 H2 l2 sm2 kp => h.ext _ _ (l.trans l2) sm2 fun a o q n => kp a o q (by rw [e]; exact n), fun w2 H2 a b l2 => h.slots w2 H2 a b (l.trans l2)⟩
theorem Stays.lasts {k : Bool} {bs bs' : List Nat} {a : Addr} {ds : List D} (h : Stays T k σV σ bs w H a ds) (hb : ∀ i ∈ bs, i ∈ bs') : Lasts T w H σV σ bs' fun w H => SqRd T k w H a ds :=
  ⟨fun w' H' x sm => h.ext w' H' x.le sm x.keep, fun w' H' σV' σ' l sm rs hl => h.slots w' H' σV' σ' l sm rs fun i hi => hl i (hb i hi)⟩
theorem Lasts.and {bs : List Nat} {Ka Kb : Wd → Hp → Prop} (h : Lasts T w H σV σ bs Ka) (k : Lasts T w H σV σ bs Kb) : Lasts T w H σV σ bs fun w H => Ka w H ∧ Kb w H :=
  ⟨fun w' H' x sm => ⟨h.ext w' H' x sm, k.ext w' H' x sm⟩, fun w' H' σV' σ' l sm rs hl => ⟨h.slots w' H' σV' σ' l sm rs hl, k.slots w' H' σV' σ' l sm rs hl⟩⟩
/-- a sequence that is to be walked: what is one's own is given away, what is borrowed stays in its slot -/
theorem seq_walk {w₀ : Wd} {H₀ : Hp} {v : V} {o : O} {ds : List D} (x0 : Ext w₀ H₀ w H) (hw : Wok T w H κ) (h : RO T w H v o) (hb : Bor σV v o) (hy : o.tag = none → Young H₀ v o) (hsrc : Src σ o) (e : seqD o.d = some ds) :
    ∃ w2 a k, v = .ref a ∧ Ext w₀ H₀ w2 H ∧ Wok T w2 H κ ∧ (Le w w2 ∧ w2.θ = w.θ) ∧ Stays T k σV σ o.bor w2 H a ds ∧ ∀ v' o', RO T w H v' o' → (o.tag = none → o.place = true → o'.place = true → v' ≠ v) → RO T w2 H v' o' := by
  have frozen : ∀ d : D, o.frz = some d → seqD d = some ds → o.tag = none → ∃ w2 a k, v = .ref a ∧ Ext w₀ H₀ w2 H ∧ Wok T w2 H κ ∧ (Le w w2 ∧ w2.θ = w.θ) ∧ Stays T k σV σ o.bor w2 H a ds ∧ ∀ v' o', RO T w H v' o' → (o.tag = none → o.place = true → o'.place = true → v' ≠ v) → RO T w2 H v' o' := fun d ef es et => by
    obtain ⟨w2, k2, e2, l2, rv, oth⟩ := h.give2 hw ef x0 (hy et)
    obtain ⟨a, k, ea, st⟩ := Stays.fz (σV := σV) (σ := σ) (bs := o.bor) k2.le rv es
    exact ⟨w2, a, k, ea, e2, k2, l2, st, fun v' o' h' ne => oth v' o' h' (ne et)⟩
  cases o with
  | fz d => exact frozen d rfl e rfl
  | ol b xs =>
    cases b with
    | none => exact frozen _ rfl e rfl
    | some i =>
      simp only [O.d, seqD, Option.some.injEq] at e
      subst e
      obtain ⟨a, vs, rfl, h1, r, n1, n2⟩ := id h
      refine ⟨w, a, true, rfl, x0, hw, ⟨Le.rfl' w, rfl⟩, ⟨⟨vs, SqL.of h1, r⟩, fun w' H' l sm kp => ⟨vs, SqL.of (kp _ _ h1 n1), r.mono l⟩, fun w' H' σV' σ' l sm rs hl => ?_⟩, fun v' o' h' _ => h'⟩
      obtain ⟨e1, o', e2, e3⟩ := hl i (by simp [O.bor])
      obtain ⟨o'', e4, e5⟩ := hsrc i rfl
      rw [e2] at e4
      cases e4
      obtain ⟨v', g1, g2⟩ := rs.at_ i _ e3
      rw [e1, hb i rfl] at g1
      cases g1
      rw [← e5] at g2
      obtain ⟨a', vs', ea, h1', r', _⟩ := g2
      cases ea
      exact ⟨vs', SqL.of h1', r'⟩
  | od b xs => simp [O.d, seqD] at e
  | ot b xs => simp [O.d, seqD] at e
/-- the walk of a list, of a tuple -/
def Jk (k : Bool) (K : PySem.W.Frag) (a : Addr) : It := match k with
  | true => Itl K a
  | false => Itt K a
theorem walk_seq {k : Bool} {a : Addr} {ds : List D} {Keep : Wd → Hp → Prop} (h : ∀ w H, Keep w H → SqRd T k w H a ds) : WalkD T (Jk k T.K a) ds Keep := by
  intro w H κ hw hk
  obtain ⟨vs, q, r⟩ := h w H hk
  cases k
  · refine ⟨fun i hi => ?_, ⟨vs, q, by rw [r.length]; exact Nat.le_refl _⟩⟩
    have hiv : i < vs.length := by rw [r.length]; exact hi
    refine ⟨⟨vs, vs[i], q, by simp [hiv]⟩, fun v H2 y => ?_⟩
    obtain ⟨rfl, y⟩ := y
    have := y vs q
    obtain ⟨d, e, rv⟩ := r.get' this
    exact ⟨w, d, e, Ext.rfl' w _, hw, rv⟩
  · refine ⟨fun i hi => ?_, ⟨vs, q, by rw [r.length]; exact Nat.le_refl _⟩⟩
    have hiv : i < vs.length := by rw [r.length]; exact hi
    refine ⟨⟨vs, vs[i], q, by simp [hiv]⟩, fun v H2 y => ?_⟩
    obtain ⟨rfl, y⟩ := y
    have := y vs q
    obtain ⟨d, e, rv⟩ := r.get' this
    exact ⟨w, d, e, Ext.rfl' w _, hw, rv⟩
end
/-! ### what is borrowed comes of a name -/
theorem obind_ok {α β : Type} {m : Out α} {f : α → Out β} {r : β} (h : m.bind f = .ok r) : ∃ a, m = .ok a ∧ f a = .ok r := by
  cases m with
  | ok a => exact ⟨a, rfl, h⟩
  | exc c fs k => cases h
  | bad => cases h
theorem opt_ok {α : Type} {o : Option α} {a : α} (h : opt o = .ok a) : o = some a := by
  cases o with
  | none => cases h
  | some b => cases h; rfl
theorem noexc_inv {α : Type} {m : Out α} {a : α} (h : noexc m = .ok a) : m = .ok a := by
  cases m with
  | ok b => exact h
  | exc c fs k => cases (show Out.bad = Out.ok a from h)
  | bad => cases (show Out.bad = Out.ok a from h)
def NT (m : Out (O × Cells)) : Prop := ∀ r, m = .ok r → r.1.tag = none
theorem NT.bind {α : Type} {m : Out α} {f : α → Out (O × Cells)} (h : ∀ a, m = .ok a → NT (f a)) : NT (m.bind f) := fun r e => by
  obtain ⟨a, e1, e2⟩ := obind_ok e
  exact h a e1 r e2
theorem NT.ok {o : O} {κ : Cells} (h : o.tag = none) : NT (.ok (o, κ)) := fun r e => by cases e; exact h
theorem NT.bad : NT .bad := fun r e => by cases e
theorem rev_tag {x : D} {o : O} (h : revD x = some o) : o.tag = none := by
  unfold revD at h
  split at h <;> (cases h <;> rfl)
theorem ev_src (Γ : Cxt) : ∀ (e : E) (σ : Sl) (κ : Cells) (r : O × Cells), ev Γ e σ κ = .ok r → Src σ r.1 := by
  have nt : ∀ {e : E} {σ : Sl} {κ : Cells}, NT (ev Γ e σ κ) → ∀ (r : O × Cells), ev Γ e σ κ = .ok r → Src σ r.1 := fun h r e i z => by rw [h r e] at z; cases z
  intro e
  induction e with
  | var j =>
    intro σ κ r h i ht
    unfold ev at h
    split at h
    · cases h
      rename_i o eo
      have : i = j := by cases o <;> simp [O.read, O.tag] at ht <;> exact ht.symm
      subst this
      exact ⟨o, eo, rfl⟩
    · cases h
  | and a b ha hb =>
    intro σ κ r h
    unfold ev at h
    obtain ⟨x, e1, h⟩ := obind_ok h
    obtain ⟨c, e2, h⟩ := obind_ok h
    cases c with
    | true => exact hb _ _ _ h
    | false => cases h; exact ha _ _ _ e1
  | or a b ha hb =>
    intro σ κ r h
    unfold ev at h
    obtain ⟨x, e1, h⟩ := obind_ok h
    obtain ⟨c, e2, h⟩ := obind_ok h
    cases c with
    | false => exact hb _ _ _ h
    | true => cases h; exact ha _ _ _ e1
  | ite c a b hc ha hb =>
    intro σ κ r h
    unfold ev at h
    obtain ⟨x, e1, h⟩ := obind_ok h
    obtain ⟨t, e2, h⟩ := obind_ok h
    cases t with
    | false => exact hb _ _ _ h
    | true => exact ha _ _ _ h
  | lck e c _ hc =>
    intro σ κ r h
    unfold ev at h
    obtain ⟨x, e1, h⟩ := obind_ok h
    have key : ∀ n : Nat, (match (κ[n]? : Option Cell) with
        | some ⟨false, .dk co⟩ => (noexc (ev Γ c σ (κ.set n ⟨true, .dk co⟩))).bind fun y => .ok (y.1, y.2.set n ⟨false, .dk co⟩)
        | _ => ev Γ c σ κ) = Out.ok r → Src σ r.1 := by
      intro n h
      split at h
      · obtain ⟨y, e2, h⟩ := obind_ok h
        cases h
        exact hc _ _ y (noexc_inv e2)
      · exact hc _ _ _ h
    generalize x.1 = ox at h
    cases ox with
    | fz d =>
      cases d with
      | obj n => exact key n h
      | _ => exact hc _ _ _ h
    | _ => exact hc _ _ _ h
  | get d k x => exact fun σ κ => nt (by unfold ev; exact NT.bind fun _ _ => NT.bind fun _ _ => NT.bind fun _ _ => NT.bind fun _ _ => NT.bind fun _ _ => NT.bind fun _ _ => NT.bind fun _ _ => NT.ok rfl)
  | pop d k x => exact fun σ κ => nt (by unfold ev; exact NT.bind fun _ _ => NT.bind fun _ _ => NT.bind fun _ _ => NT.bind fun _ _ => NT.bind fun _ _ => NT.bind fun _ _ => NT.bind fun _ _ => NT.ok rfl)
  | dnew => exact fun σ κ => nt (by unfold ev; exact NT.ok rfl)
  | dic k x => exact fun σ κ => nt (by unfold ev; exact NT.bind fun _ _ => NT.bind fun _ _ => NT.bind fun _ _ => NT.bind fun _ _ => NT.ok rfl)
  | comp2 own tg it ifs tg2 it2 ifs2 elt => exact fun σ κ => nt (by
      unfold ev
      refine NT.bind fun x _ => NT.bind fun r _ => ?_
      show NT (if _ then _ else _)
      split
      · exact NT.ok rfl
      · exact NT.bad)
  | dcp a => exact fun σ κ => nt (by unfold ev; exact NT.bind fun _ _ => NT.bind fun _ _ => NT.ok rfl)
  | bin op a b => exact fun σ κ => nt (by unfold ev; exact NT.bind fun x _ => NT.bind fun y _ => NT.bind fun o eo => NT.ok (bin_tag (opt_ok eo)))
  | slc a lo hi => exact fun σ κ => nt (by unfold ev; exact NT.bind fun x _ => NT.bind fun y _ => NT.bind fun _ _ => NT.bind fun _ _ => NT.bind fun _ _ => NT.bind fun o eo => NT.ok (slc_tag (opt_ok eo)))
  | rev a => exact fun σ κ => nt (by unfold ev; exact NT.bind fun x _ => NT.bind fun o eo => NT.ok (rev_tag (opt_ok eo)))
  | blt1 b a => exact fun σ κ => nt (by unfold ev; exact NT.bind fun x _ => NT.bind fun o eo => NT.ok (bltC_tag (opt_ok eo)))
  | cst d => exact fun σ κ => nt (by unfold ev; exact NT.ok rfl)
  | gcn g => exact fun σ κ => nt (by unfold ev; exact NT.bind fun _ _ => NT.ok rfl)
  | exf g => exact fun σ κ => nt (by unfold ev; exact NT.bind fun _ _ => NT.ok rfl)
  | tup es => exact fun σ κ => nt (by unfold ev; exact NT.bind fun _ _ => NT.ok rfl)
  | lst es => exact fun σ κ => nt (by unfold ev; exact NT.bind fun _ _ => NT.ok rfl)
  | make c es => exact fun σ κ => nt (by unfold ev; exact NT.bind fun _ _ => NT.ok rfl)
  | neg a => exact fun σ κ => nt (by unfold ev; exact NT.bind fun _ _ => NT.bind fun _ _ => NT.ok rfl)
  | not a => exact fun σ κ => nt (by unfold ev; exact NT.bind fun _ _ => NT.bind fun _ _ => NT.ok rfl)
  | call f es => exact fun σ κ => nt (by unfold ev; exact NT.bind fun _ _ => NT.bind fun _ _ => NT.ok rfl)
  | cmp op a b => exact fun σ κ => nt (by unfold ev; exact NT.bind fun _ _ => NT.bind fun _ _ => NT.bind fun _ _ => NT.ok rfl)
  | idx a b => exact fun σ κ => nt (by unfold ev; exact NT.bind fun _ _ => NT.bind fun _ _ => NT.bind fun _ _ => NT.ok rfl)
  | blt2 op a b => exact fun σ κ => nt (by unfold ev; exact NT.bind fun _ _ => NT.bind fun _ _ => NT.bind fun _ _ => NT.ok rfl)
  | chain op op' a b c => exact fun σ κ => nt (by
      unfold ev
      refine NT.bind fun _ _ => NT.bind fun _ _ => NT.bind fun t _ => ?_
      cases t with
      | true => exact NT.bind fun _ _ => NT.bind fun _ _ => NT.ok rfl
      | false => exact NT.ok rfl)
  | fld a m => exact fun σ κ => nt (by
      unfold ev
      refine NT.bind fun x _ => ?_
      show NT (match x.1.d with | .ins c fs => _ | _ => _)
      split
      · exact NT.bind fun _ _ => NT.ok rfl
      · exact NT.bad)
  | isi a tys many => exact fun σ κ => nt (by
      unfold ev
      refine NT.bind fun x _ => ?_
      show NT (if _ then _ else _)
      split
      · exact NT.ok rfl
      · exact NT.bad)
  | eqo a b => exact fun σ κ => nt (by
      unfold ev
      refine NT.bind fun x _ => NT.bind fun y _ => NT.bind fun xd _ => NT.bind fun yd _ => ?_
      cases xd with
      | ins c fs =>
        refine NT.bind fun _ _ => ?_
        show NT (if eqoOk c yd = true then _ else _)
        split
        · refine NT.bind fun r _ => ?_
          generalize r.1 = rd
          cases rd with
          | bl t => exact NT.ok rfl
          | _ => exact NT.bad
        · exact NT.bad
      | _ => exact NT.bad)
  | cell ks es => exact fun σ κ => nt (by
      unfold ev
      refine NT.bind fun x _ => ?_
      show NT (if _ then _ else _)
      split
      · exact NT.ok rfl
      · exact NT.bad)
  | lrng it => exact fun σ κ => nt (by
      unfold ev
      refine NT.bind fun x _ => ?_
      show NT (if _ then _ else _)
      split
      · exact NT.ok rfl
      · exact NT.bad)
  | comp own tg it ifs elt => exact fun σ κ => nt (by
      unfold ev
      refine NT.bind fun x _ => NT.bind fun r _ => ?_
      show NT (if _ then _ else _)
      split
      · exact NT.ok rfl
      · exact NT.bad)
  | _ => exact fun σ κ => nt (by unfold ev; exact NT.bad)
end R

/-! R11: what a loop or a comprehension walks. -/
namespace R
open L2 PyProof.Rows PySem.Spec PySem
section
variable {T : Tb} {S : Sg} {Γ : Cxt} {N : List Str} {n : Nat}
abbrev PIok (T : Tb) (S : Sg) (Γ : Cxt) (N : List Str) (n : Nat) (e : E) : Prop := ∀ sc tg x X W, isIt S N none e sc x = true → itTg e tg = true → XG T S Γ N n sc X → Takes X W → PI X tg x (tI T Γ e W)
/-- from a state further on than the ground that the end is told from -/
theorem tE_bindB {α : Type} {W : WX} {e : E} {σV : L2.St} {H H₀ : Hp} {w w₀ : Wd} {σ : Sl} {κ : Cells} {f : O × Cells → Out (α × Cells)} {G : α × Cells → Wd → Hp → Prop} {Q : V → Hp → Prop} (x0 : Ext w₀ H₀ w H)
    (hw : Wok T w H κ) (hs : RS T w H σV σ) (p : Post T w₀ H₀ ((ev Γ e σ κ).bind f) (fun c d H' => W c d σV H') G)
    (h : ∀ r w' H' v, ev Γ e σ κ = .ok r → Ext w H w' H' → Wok T w' H' r.2 → RS T w' H' σV σ → RO T w' H' v r.1 → Bor σV v r.1 → (r.1.tag = none → Young H v r.1) → Post T w₀ H₀ (f r) (fun c d H' => W c d σV H') G → Q v H') : tE T Γ e W σV H Q := by
  refine ⟨w, σ, κ, hw, hs, ?_⟩
  cases er : ev Γ e σ κ with
  | ok r =>
    rw [er] at p
    exact fun w' H' e k v hv hb hy => h r w' H' v er e k (hs.ext e) hv hb hy p
  | exc c fs k =>
    rw [er] at p
    exact fun w' H' cls d e k r => (show Post T w₀ H₀ (.exc c fs _) _ G from p) w' H' cls d (x0.trans e) k r
  | bad => rw [er] at p; exact p
/-- what is never come to -/
theorem pi_bad {X : Cx} {tg x : Expr} {e : E} {W : WX} (h : ∀ σ κ, evIt Γ e σ κ = .bad) : PI X tg x (tI T Γ e W) :=
  ⟨fun pins s σV H R I q => by obtain ⟨w, σ, κ, hw, hs, p⟩ := q; rw [h] at p; exact p.elim⟩
theorem pe_bad {X : Cx} {x : Expr} {e : E} {W : WX} (h : ∀ σ κ, ev Γ e σ κ = .bad) : PE X x (tE T Γ e W) :=
  ⟨fun pins s σV H R I q => by obtain ⟨w, σ, κ, hw, hs, p⟩ := q; rw [h] at p; exact p.elim⟩
def iSq (K : PySem.W.Frag) (tl : TE) : TI := fun σ H R => tl σ H fun x H1 => ∃ a k xs, x = .ref a ∧ SqA k K H1 a xs ∧ R (Jk k K a) H1
theorem pi_sq {X : Cx} {tg l : Expr} {tl : TE} (hl : PE X l tl) : PI X tg l (iSq X.K tl) := by
  refine (⟨fun pins s σ H R I h => ?_⟩)
  refine (thn (hl.run pins s σ H _ I h) fun v s1 ⟨x, H1, I1, r1, q1⟩ => ?_)
  obtain ⟨a, k, xs, e, hq, q⟩ := q1
  subst e
  cases r1
  have fp : ∀ b ∈ [s1.heap.objs.size], FpOk X pins H1 b := fun b hb => by
    have e : (b = s1.heap.objs.size) := by simpa using hb
    subst e
    exact (I1.fpOk (Nat.le_refl _) (I1.hok.fresh (Nat.le_refl _)))
  cases k with
  | true =>
    obtain ⟨its, rv, p, hz⟩ := (I1.list hq)
    exact wpAny_pyIter_list p.isList ⟨s1.heap.objs.size, [s1.heap.objs.size], _, _, H1, rfl, I1.kept (t' := s1.toks) fun b o e => Heap.get?_push_of_some _ e, turn_list a _, ⟨_, Heap.get?_push_size _ rfl, rfl, rfl⟩, fp, q⟩
  | false =>
    obtain ⟨its, rv, p, hz⟩ := (I1.tuple hq)
    exact wpAny_pyIter_tuple (show s1.heap.IsTuple a its.toArray from p) ⟨s1.heap.objs.size, [s1.heap.objs.size], _, _, H1, rfl, I1.kept (t' := s1.toks) fun b o e => Heap.get?_push_of_some _ e, turn_tuple a _, ⟨_, Heap.get?_push_size _ rfl, rfl, rfl⟩, fp, q⟩
/-- the keys of a cell that is walked -/
theorem walk_cell {d : Addr} {od : Obj} {vs : List (Key × V)} {kvs : List (Key × D)} (r : PR T w vs kvs) : WalkD T (Itk d od vs) (kvs.map fun p => kD p.1) (fun w' _ => w'.F d = some (.frz od (.dK vs))) := by
  intro w' H κ hw hk
  have hl : (kvs.map fun p => kD p.1).length = vs.length := by rw [List.length_map, r.length]
  refine ⟨fun i hi => ⟨⟨hw.le _ _ hk, by rw [← hl]; exact hi⟩, fun v H2 y => ?_⟩, ⟨hw.le _ _ hk, by rw [hl]; exact Nat.le_refl _⟩⟩
  obtain ⟨rfl, k, u, e, rfl⟩ := y
  obtain ⟨d', e2, rv⟩ := (RVs.keys r).get' (i := i) (v := kV k) (by rw [List.getElem?_map, e]; rfl)
  refine ⟨w', d', e2, Ext.rfl' w' _, hw, ?_⟩
  cases k with
  | inl j =>
    cases (show RV T w (.int j) d' from rv)
    exact .int _
  | inr j =>
    cases (show RV T w (.str j) d' from rv)
    exact .str _
theorem pi_walk_ok {a : E} (ha : PEok T S Γ N n a) : PIok T S Γ N n (.walk a) := by
  intro sc tg x X W q _ g tk
  simp only [isIt] at q
  refine piI (PI.or (pi_sq (ha sc x X W q g tk)) (pi_keys (ha sc x X W q g tk))) fun σV H R h => ?_
  obtain ⟨w, σ, κ, hw, hs, p⟩ := h
  unfold evIt at p
  by_cases z : ∃ r n, ev Γ a σ κ = .ok r ∧ r.1 = .fz (.obj n)
  · obtain ⟨r0, n0, z1, z2⟩ := z
    refine .inr ?_
    refine tE_bind hw hs p fun r w1 H1 v er e k hs1 hv hb hy p => ?_
    rw [z1] at er
    cases er
    obtain ⟨ro, rk⟩ := r0
    have z2 : ro = .fz (.obj n0) := z2
    subst z2
    obtain ⟨kvs, e1, p2⟩ := (show Post T w H ((opt (lockedAt rk n0)).bind fun kvs => .ok ((kvs.map fun p => kD p.1, []), rk)) _ _ from p).opt
    cases (show RV T w1 v (.obj n0) from hv) with
    | obj hn =>
      obtain ⟨vs, od, q1, q2⟩ := k.locked hn e1
      refine ⟨_, od, rfl, .inl ⟨vs, k.le _ _ q1, ?_⟩⟩
      exact p2 w1 H1 e k _ _ q1 (walk_cell q2) ⟨fun w' H' x sm => x.F _ _ q1, fun w' H' σV' σ' l sm rs hl => l.F _ _ q1⟩
  refine .inl ?_
  refine tE_bind hw hs p fun r w1 H1 v er e k hs1 hv hb hy p => ?_
  have p : Post T w H ((opt (seqD r.1.d)).bind fun xs => .ok ((xs, r.1.bor), r.2)) (fun c d H' => W c d σV H') (GI T σV σ R) := by
    obtain ⟨ro, rk⟩ := r
    cases ro with
    | fz d =>
      cases d with
      | obj n => exact absurd ⟨_, n, er, rfl⟩ z
      | _ => exact p
    | _ => exact p
  obtain ⟨ds, eds, p2⟩ := p.opt
  obtain ⟨w2, a', kk, ea, e2, k2, l2, st, _⟩ := seq_walk e k hv hb hy (ev_src Γ a σ κ r er) eds
  obtain ⟨vs, q1, r1⟩ := st.now.at_
  exact ⟨a', kk, vs, ea, by rw [g.hK]; exact q1, by rw [g.hK]; exact p2 w2 H1 e2 k2 _ _ st.now (walk_seq fun w H h => h) (st.lasts fun _ h => h)⟩
/-- lo, lo + 1, .. -/
theorem walk_rng {lo hi : Int} {ds : List D} (h : rangeD lo hi = some ds) : WalkD T (Itr lo (hi - lo).toNat) ds fun _ _ => True := by
  unfold rangeD at h
  split at h
  · cases h
    intro w H κ hw _
    simp only [List.length_range, List.length_map]
    refine ⟨fun i hi' => ⟨hi', fun v H2 y => ?_⟩, Nat.le_refl _⟩
    obtain ⟨rfl, rfl⟩ := y
    refine ⟨w, .int (lo + i), ?_, Ext.rfl' w _, hw, .int _⟩
    rw [List.getElem?_map, List.getElem?_range hi']
    rfl
  · cases h
theorem rng_small {lo hi : Int} {ds : List D} (h : rangeD lo hi = some ds) : -(2 ^ 62) ≤ lo ∧ lo < 2 ^ 62 ∧ -(2 ^ 62) ≤ hi ∧ hi < 2 ^ 62 := by
  unfold rangeD at h
  split at h
  · rename_i q
    simp only [decide_eq_true_eq, Bool.and_eq_true] at q
    exact ⟨q.1.1.1, q.1.1.2, q.1.2, q.2⟩
  · cases h
theorem Lasts.all {w : Wd} {H : Hp} {σV : L2.St} {σ : Sl} {bs : List Nat} : Lasts T w H σV σ bs fun _ _ => True := ⟨fun _ _ _ _ => trivial, fun _ _ _ _ _ _ _ _ => trivial⟩
theorem pi_rng1_ok {a : E} (ha : PEok T S Γ N n a) : PIok T S Γ N n (.rng1 a) := by
  intro sc tg x X W q _ g tk
  cases x <;> try (simp [isIt] at q; done)
  rename_i fn args kws pos
  cases fn <;> try (simp [isIt] at q; done)
  rename_i nm np
  match args, kws, q with
  | [y], [], q =>
    simp only [isIt, Bool.and_eq_true, decide_eq_true_eq] at q
    obtain ⟨⟨rfl, q1⟩, q2⟩ := q
    refine piI (pi_range1 (gl_of q1 g.hsc) (g.bi_of _) (pa_cons (ha sc _ X W q2 g tk) pa_nil (notStar q2 X.env [])) (notStar q2 X.env [])) fun σV H R h => ?_
    obtain ⟨w, σ, κ, hw, hs, p⟩ := h
    unfold evIt at p
    refine tE_bind hw hs p fun r w1 H1 v er e k hs1 hv hb hy p => ?_
    generalize ed : r.1.d = dx at p
    have p := p.step e
    cases dx with
    | int j =>
      obtain ⟨ds, eds, p2⟩ := (show Post T w1 H1 ((opt (rangeD 0 j)).bind fun xs => _) _ _ from p).opt
      cases rd_int hv ed
      have sm := rng_small eds
      exact ⟨j, rfl, sm.2.2.1, sm.2.2.2, by simpa using p2.ok k _ _ trivial (walk_rng eds) Lasts.all⟩
    | _ => exact p.elim
  | [], _, q => simp [isIt] at q
  | _ :: _ :: _, _, q => simp [isIt] at q
  | [_], _ :: _, q => simp [isIt] at q
theorem pi_rng2_ok {a b : E} (ha : PEok T S Γ N n a) (hb' : PEok T S Γ N n b) : PIok T S Γ N n (.rng2 a b) := by
  intro sc tg x X W q _ g tk
  cases x <;> try (simp [isIt] at q; done)
  rename_i fn args kws pos
  cases fn <;> try (simp [isIt] at q; done)
  rename_i nm np
  match args, kws, q with
  | [y, z], [], q =>
    simp only [isIt, Bool.and_eq_true, decide_eq_true_eq] at q
    obtain ⟨⟨⟨rfl, q1⟩, q2⟩, q3⟩ := q
    have st2 := notStar q3 X.env []
    refine piI (pi_range2 (gl_of q1 g.hsc) (g.bi_of _) (pa_cons (ha sc _ X W q2 g tk) (pa_cons (hb' sc _ X W q3 g tk) pa_nil st2) (notStar q2 X.env [z])) (by rw [notStar q2 X.env [z], st2]; rfl) st2) fun σV H R h => ?_
    obtain ⟨w, σ, κ, hw, hs, p⟩ := h
    unfold evIt at p
    refine tE_bind hw hs p fun r w1 H1 v er e k hs1 hv hb hy p => ?_
    refine tE_bind k hs1 (p.step e) fun r2 w2 H2 v2 er2 e2 k2 hs2 hv2 hbr2 hy2 p2 => ?_
    have p2 := p2.step e2
    generalize ed : r.1.d = dx at p2
    generalize ed2 : r2.1.d = dy at p2
    cases dx with
    | int i =>
      cases dy with
      | int j =>
        obtain ⟨ds, eds, p3⟩ := (show Post T w2 H2 ((opt (rangeD i j)).bind fun xs => _) _ _ from p2).opt
        cases rd_int hv ed
        cases rd_int hv2 ed2
        have sm := rng_small eds
        exact ⟨i, j, rfl, ⟨sm.1, sm.2.1, sm.2.2.1, sm.2.2.2⟩, p3.ok k2 _ _ trivial (walk_rng eds) Lasts.all⟩
      | _ => exact p2.elim
    | _ => exact p2.elim
  | [], _, q => simp [isIt] at q
  | [_], _, q => simp [isIt] at q
  | _ :: _ :: _ :: _, _, q => simp [isIt] at q
  | [_, _], _ :: _, q => simp [isIt] at q
/-! ### zip -/
theorem zipD_get : ∀ {xs ys : List D} {i : Nat}, i < (zipD xs ys).length → ∃ x y, xs[i]? = some x ∧ ys[i]? = some y ∧ (zipD xs ys)[i]? = some (.tup [x, y])
  | [], _, _, h => by simp [zipD] at h
  | _ :: _, [], _, h => by simp [zipD] at h
  | x :: xs, y :: ys, 0, _ => ⟨x, y, rfl, rfl, rfl⟩
  | x :: xs, y :: ys, i + 1, h => by
    obtain ⟨a, b, h1, h2, h3⟩ := zipD_get (xs := xs) (ys := ys) (i := i) (by simpa [zipD] using h)
    exact ⟨a, b, by simpa using h1, by simpa using h2, by simpa [zipD] using h3⟩
theorem zipD_len : ∀ (xs ys : List D), (zipD xs ys).length = min xs.length ys.length
  | [], _ => by simp [zipD]
  | _ :: _, [] => by simp [zipD]
  | x :: xs, y :: ys => by simp [zipD, zipD_len xs ys]
theorem walk_zip {k1 k2 : Bool} {a b : Addr} {xs ys : List D} : WalkD T (Itzk k1 k2 T.K a b) (zipD xs ys) fun w H => SqRd T k1 w H a xs ∧ SqRd T k2 w H b ys := by
  intro w H κ hw hk
  obtain ⟨⟨vs, q1, r1⟩, ⟨us, q2, r2⟩⟩ := And.intro hk.1.at_ hk.2.at_
  refine ⟨fun i hi => ?_, ⟨vs, us, q1, q2, ?_⟩⟩
  · obtain ⟨x, y, ex, ey, ez⟩ := zipD_get hi
    obtain ⟨v, ev', rv⟩ := r1.get ex
    obtain ⟨u, eu', ru⟩ := r2.get ey
    refine ⟨⟨vs, us, v, u, q1, q2, ev', eu'⟩, fun t H2 yl => ?_⟩
    obtain ⟨p, v', u', rfl, hp, rfl, h1, h2⟩ := yl
    have e1 := h1 vs q1
    have e2 := h2 us q2
    rw [ev'] at e1; rw [eu'] at e2
    cases e1; cases e2
    have z := hw.laid (.tup [v, u]) hp
    have le := le_put (w := w) (.tup [v, u]) (hw.noF hp)
    exact ⟨_, _, ez, z.2, z.1, .tup (.inl (.inl (by show upd _ _ _ _ = _; exact upd_same))) (.cons (rv.mono le) (.one (ru.mono le)))⟩
  · rw [zipD_len, r1.length, r2.length]; omega
theorem pi_zip_ok {a b : E} (ha : PEok T S Γ N n a) (hb' : PEok T S Γ N n b) : PIok T S Γ N n (.zip a b) := by
  intro sc tg x X W q qt g tk
  cases x <;> try (simp [isIt] at q; done)
  rename_i fn args kws pos
  cases fn <;> try (simp [isIt] at q; done)
  rename_i nm np
  cases tg <;> try (simp [itTg] at qt; done)
  match args, kws, q with
  | [y, z], [], q =>
    simp only [isIt, Bool.and_eq_true, decide_eq_true_eq] at q
    obtain ⟨⟨⟨rfl, q1⟩, q2⟩, q3⟩ := q
    have st2 := notStar q3 X.env []
    refine piI (pi_zipK (gl_of q1 g.hsc) (g.bi_of _) (pa_cons (ha sc _ X W q2 g tk) (pa_cons (hb' sc _ X W q3 g tk) pa_nil st2) (notStar q2 X.env [z])) (notStar q2 X.env [z]) (by rw [st2]; rfl)) fun σV H R h => ?_
    obtain ⟨w, σ, κ, hw, hs, p⟩ := h
    unfold evIt at p
    refine tE_bind hw hs p fun r w1 H1 v er e k hs1 hv hb hy p => ?_
    refine tE_bindB e k hs1 p fun r2 w2 H2 v2 er2 e2 k2 hs2 hv2 hbr2 hy2 p2 => ?_
    obtain ⟨xs, exs, p3⟩ := p2.opt
    obtain ⟨ys, eys, p4⟩ := p3.opt
    obtain ⟨w3, a1, k1, rfl, e3, kk3, l3, st1, oth⟩ := seq_walk (e.trans e2) k2 (hv.ext e2) hb hy (ev_src Γ a σ κ r er) exs
    have hv3 : RO T w3 H2 v2 r2.1 := oth v2 r2.1 hv2 fun t pl pl2 z => by
      obtain ⟨a', u, ea, ha', _⟩ := hv.addr pl
      cases ea
      cases ht : r2.1.tag with
      | none => rw [hy2 ht pl2 _ z] at ha'; cases ha'
      | some i =>
        obtain ⟨o', eo, eo2⟩ := ev_src Γ b σ r.2 r2 er2 i ht
        obtain ⟨v', ev', rv'⟩ := hs.at_ i o' eo
        rw [hbr2 i ht] at ev'
        cases ev'
        rw [eo2] at pl2
        obtain ⟨a'', u', ea', ha'', _⟩ := (rv'.retag i).addr pl2
        rw [z] at ea'; cases ea'
        rw [hy t pl _ rfl] at ha''; cases ha''
    obtain ⟨w4, a2, kb, rfl, e4, kk4, l4, st2, _⟩ := seq_walk e3 kk3 hv3 hbr2 (fun t pl a' ea => e.dom a' (hy2 t pl a' ea)) (ev_src Γ b σ r.2 r2 er2) eys
    have st1' := st1.later l4.1 l4.2 kk4.le
    obtain ⟨vs1, q1', _⟩ := st1'.now.at_
    obtain ⟨vs2, q2', _⟩ := st2.now.at_
    refine ⟨a1, a2, vs1, vs2, k1, kb, rfl, by rw [g.hK]; exact q1', by rw [g.hK]; exact q2', ?_⟩
    rw [g.hK]
    exact p4 w4 H2 e4 kk4 _ _ ⟨st1'.now, st2.now⟩ walk_zip ((st1'.lasts fun i h => List.mem_append_left _ h).and (st2.lasts fun i h => List.mem_append_right _ h))
  | [], _, q => simp [isIt] at q
  | [_], _, q => simp [isIt] at q
  | _ :: _ :: _ :: _, _, q => simp [isIt] at q
  | [_, _], _ :: _, q => simp [isIt] at q
end
end R

/-! R12: slots that are stored, targets, comprehensions. -/
namespace R
open L2 PyProof.Rows PySem.Spec PySem
theorem get_set {α : Type} {l : List α} {i j : Nat} {a b : α} (h : (l.set i a)[j]? = some b) : (j = i ∧ a = b ∧ i < l.length) ∨ (j ≠ i ∧ l[j]? = some b) := by
  by_cases e : i = j
  · subst e
    by_cases hl : i < l.length
    · rw [List.getElem?_set_self hl] at h
      cases h
      exact .inl ⟨rfl, rfl, hl⟩
    · rw [List.getElem?_eq_none (by simpa using hl)] at h; cases h
  · rw [List.getElem?_set_ne e] at h
    exact .inr ⟨fun z => e z.symm, h⟩
section
variable {T : Tb} {w : Wd} {H : Hp} {σV : L2.St} {σ : Sl}
theorem RS.set {i : Nat} {v : Option V} {o : Option O} (h : RS T w H σV σ)
    (ho : ∀ u, o = some u → ∃ x, v = some x ∧ RO T w H x u ∧ (∀ j, u.tag = some j → j = i) ∧ ∀ j o', j ≠ i → σ[j]? = some (some o') → σV[j]? = some (some x) → u.place = false ∨ o'.place = false) : RS T w H (σV.set i v) (σ.set i o) := by
  refine ⟨by simp [h.len], fun j u q => ?_, fun j k u u' x ne q q' p p' => ?_, fun j k u q t => ?_⟩
  · rcases get_set q with ⟨rfl, e, hl⟩ | ⟨ne, q⟩
    · obtain ⟨x, rfl, r, _⟩ := ho u e
      exact ⟨x, by rw [List.getElem?_set_self (by rw [h.len]; exact hl)], r⟩
    · obtain ⟨x, e, r⟩ := h.at_ j u q
      exact ⟨x, by rw [List.getElem?_set_ne (fun z => ne z.symm)]; exact e, r⟩
  · rcases get_set q with ⟨rfl, e, hl⟩ | ⟨n1, q1⟩
    · obtain ⟨y, rfl, r, _, ap⟩ := ho u e
      rcases get_set q' with ⟨rfl, _, _⟩ | ⟨n2, q2⟩
      · exact absurd rfl ne
      · rcases get_set p with ⟨_, z, _⟩ | ⟨n3, _⟩
        · cases z
          rcases get_set p' with ⟨z, _, _⟩ | ⟨_, p2⟩
          · exact absurd z n2
          · exact ap k u' n2 q2 p2
        · exact absurd rfl n3
    · rcases get_set q' with ⟨rfl, e, hl⟩ | ⟨n2, q2⟩
      · obtain ⟨y, rfl, r, _, ap⟩ := ho u' e
        rcases get_set p' with ⟨_, z, _⟩ | ⟨n3, _⟩
        · cases z
          rcases get_set p with ⟨z, _, _⟩ | ⟨_, p2⟩
          · exact absurd z n1
          · exact (ap j u n1 q1 p2).symm
        · exact absurd rfl n3
      · rcases get_set p with ⟨z, _, _⟩ | ⟨_, p1⟩
        · exact absurd z n1
        · rcases get_set p' with ⟨z, _, _⟩ | ⟨_, p2⟩
          · exact absurd z n2
          · exact h.apart j k u u' x ne q1 q2 p1 p2
  · rcases get_set q with ⟨rfl, e, hl⟩ | ⟨ne, q⟩
    · obtain ⟨x, _, _, tg, _⟩ := ho u e
      exact tg k t
    · exact h.tag j k u q t
theorem RS.setFz {i : Nat} {v : V} {d : D} (h : RS T w H σV σ) (r : RV T w v d) : RS T w H (σV.set i (some v)) (σ.set i (some (.fz d))) :=
  h.set fun u e => by cases e; exact ⟨v, rfl, r, (fun j z => by cases z), fun _ _ _ _ _ => .inl rfl⟩
theorem RS.setNo {i : Nat} (h : RS T w H σV σ) : RS T w H (σV.set i none) (σ.set i none) := h.set fun u e => by cases e
theorem RS.wiped (h : RS T w H σV σ) : ∀ vs : List Nat, RS T w H (wipe σV vs) (wipeS σ vs)
  | [] => h
  | v :: vs => (h.wiped vs).setNo
/-- what is read alone stays; nothing but is has changed -/
structure Chg (is : List Nat) (σV : L2.St) (σ : Sl) (σV' : L2.St) (σ' : Sl) : Prop where
  len : σV'.length = σV.length
  lock : ∀ (i : Nat) (o : O) (j : Nat), σ[i]? = some (some o) → o.tag = some j → σ'[i]? = some (some o) ∧ σV'[i]? = σV[i]?
  only : ∀ i, i ∉ is → σV'[i]? = σV[i]?
theorem Chg.rfl' {is : List Nat} : Chg is σV σ σV σ := ⟨rfl, fun _ _ _ h _ => ⟨h, rfl⟩, fun _ _ => rfl⟩
theorem Chg.trans {is js : List Nat} {σV1 σV2 : L2.St} {σ1 σ2 : Sl} (h : Chg is σV σ σV1 σ1) (k : Chg js σV1 σ1 σV2 σ2) : Chg (is ++ js) σV σ σV2 σ2 :=
  ⟨k.len.trans h.len, fun i o j e t => by
    obtain ⟨a, b⟩ := h.lock i o j e t
    obtain ⟨c, d⟩ := k.lock i o j a t
    exact ⟨c, d.trans b⟩, fun i n => by
    simp only [List.mem_append, not_or] at n
    exact (k.only i n.2).trans (h.only i n.1)⟩
theorem unlocked_tag {i : Nat} {o : O} (h : unlocked σ i = true) (e : σ[i]? = some (some o)) : o.tag = none := by
  unfold unlocked at h
  rw [e] at h
  cases o with
  | fz d => rfl
  | ol b xs => cases b with | none => rfl | some j => cases h
  | od b xs => cases b with | none => rfl | some j => cases h
  | ot b xs => cases b with | none => rfl | some j => cases h
theorem Chg.set {i : Nat} {v : Option V} {o : Option O} (h : ∀ u, σ[i]? = some (some u) → u.tag = none) : Chg [i] σV σ (σV.set i v) (σ.set i o) :=
  ⟨by simp, fun j u k e t => by
    have ne : i ≠ j := fun z => by subst z; rw [h u e] at t; cases t
    exact ⟨by rw [List.getElem?_set_ne ne]; exact e, by rw [List.getElem?_set_ne ne]⟩, fun j n => by
    have ne : i ≠ j := fun z => n (by simp [z])
    rw [List.getElem?_set_ne ne]⟩
theorem setAt_ok {i : Nat} {o : Option O} {σ' : Sl} (h : setAt σ i o = some σ') : unlocked σ i = true ∧ σ' = σ.set i o := by
  unfold setAt at h
  split at h
  · rename_i q; cases h; exact ⟨q, rfl⟩
  · cases h
theorem wipe_get (σV : L2.St) (i : Nat) : ∀ vs : List Nat, (wipe σV vs)[i]? = if i ∈ vs ∧ i < σV.length then some none else σV[i]?
  | [] => by simp [wipe]
  | v :: vs => by
    unfold wipe
    by_cases e : v = i
    · subst e
      by_cases hl : v < σV.length
      · rw [List.getElem?_set_self (by rw [wipe_length]; exact hl), if_pos ⟨by simp, hl⟩]
      · rw [if_neg (fun z => hl z.2), List.getElem?_eq_none (by rw [List.length_set, wipe_length]; omega), List.getElem?_eq_none (by omega)]
    · rw [List.getElem?_set_ne e, wipe_get σV i vs]
      have : (i ∈ v :: vs) ↔ i ∈ vs := by
        rw [List.mem_cons]
        exact ⟨fun z => z.elim (fun q => absurd q.symm e) id, .inr⟩
      simp only [this]
theorem wipe_back {vs is : List Nat} {σV' : L2.St} {σ1 σ' : Sl} (h : Chg is (wipe σV vs) σ1 σV' σ') (hs : ∀ i ∈ is, i ∈ vs) : wipe σV' vs = wipe σV vs := by
  refine List.ext_getElem? fun i => ?_
  have hl : σV'.length = σV.length := by rw [h.len, wipe_length]
  rw [wipe_get, wipe_get, hl]
  by_cases e : i ∈ vs ∧ i < σV.length
  · rw [if_pos e, if_pos e]
  · rw [if_neg e, if_neg e]
    by_cases hi : i < σV.length
    · have : i ∉ vs := fun z => e ⟨z, hi⟩
      rw [h.only i fun z => this (hs i z), wipe_get, if_neg e]
    · rw [List.getElem?_eq_none (by omega), List.getElem?_eq_none (by omega)]
end
/-! ### targets -/
section
variable {T : Tb} {N : List Str} {sc orig : Scope} {X : Cx} {w : Wd} {H : Hp}
def gNames : List Nat → TGs
  | [] => gNil
  | i :: is => gCons (gName i) (gNames is)
structure Sto (N : List Str) (sc orig : Scope) (X : Cx) : Prop where
  hN : X.N = N
  nd : N.Nodup
  hsc : X.env.scope = sc
  fn : ∀ x, orig.names.lookup x = some .cell → X.fn x = true
theorem sto_of {i : Nat} {x : Str} (h : stoB N sc orig i x = true) (g : Sto N sc orig X) : X.N[i]? = some x ∧ L2.Loc X.env.scope x ∧ (X.fn x = true ∨ X.env.scope.names.lookup x = some .local) := by
  unfold stoB at h
  simp only [decide_eq_true_eq, Bool.and_eq_true] at h
  obtain ⟨h1, h2⟩ := h
  refine ⟨by rw [g.hN]; exact h1, ?_⟩
  rw [g.hsc]
  unfold L2.Loc
  cases e : sc.names.lookup x with
  | none => (rw [e] at h2; cases h2)
  | some k =>
    rw [e] at h2
    cases k <;> try (cases h2; done)
    · exact ⟨.inl rfl, .inr rfl⟩
    · refine ⟨.inr rfl, .inl (g.fn x ?_)⟩
      cases e2 : orig.names.lookup x with
      | none => (rw [e2] at h2; cases h2)
      | some k2 => rw [e2] at h2; cases k2 <;> first | rfl | cases h2
theorem pg_nm {i : Nat} {x : Str} {p : Pos} (h : stoB N sc orig i x = true) (g : Sto N sc orig X) : PG X (.Name x p) (gName i) := by
  obtain ⟨h1, h2, h3⟩ := sto_of h g
  exact pg_name (by rw [g.hN]; exact g.nd) h1 h2 h3
theorem pgs_nms (g : Sto N sc orig X) : ∀ {is : List Nat} {es : List Expr}, tgsB N sc orig is es = true → PGs X es (gNames is) ∧ (assignEach es X.env).length = is.length ∧ (assignEach es X.env).findIdx? (·.1) = none
  | [], [], _ => ⟨pgs_nil, rfl, rfl⟩
  | [], _ :: _, h => by simp [tgsB] at h
  | _ :: _, [], h => by simp [tgsB] at h
  | i :: is, e :: es, h => by
    cases e <;> try (simp [tgsB] at h; done)
    simp only [tgsB, Bool.and_eq_true] at h
    obtain ⟨a, b, c⟩ := pgs_nms g h.2
    refine ⟨pgs_cons (pg_nm h.1 g) a, congrArg (· + 1) b, ?_⟩
    show List.findIdx? _ ((false, _) :: assignEach es X.env) = none
    rw [List.findIdx?_cons]
    simp [c]
theorem names_sem {Q : L2.St → Hp → Prop} : ∀ {is : List Nat} {vs : List V} {ds : List D} {σV : L2.St} {σ σ' : Sl}, RS T w H σV σ → RVs T w vs ds → assign1 is ds σ = some σ' → (∀ σV', RS T w H σV' σ' → Chg is σV σ σV' σ' → Q σV' H) → gNames is vs σV H Q
  | [], _, [], σV, σ, σ', hs, r, e, h => by
    cases r
    simp only [assign1, Option.some.injEq] at e
    subst e
    exact ⟨rfl, h σV hs Chg.rfl'⟩
  | [], _, _ :: _, _, _, _, _, _, e, _ => by simp [assign1] at e
  | _ :: _, _, [], _, _, _, _, _, e, _ => by simp [assign1] at e
  | i :: is, _, d :: ds, σV, σ, σ', hs, .cons (v := v) (vs := vs) a r, e, h => by
    simp only [assign1] at e
    cases e1 : setAt σ i (some (.fz d)) with
    | none => rw [e1] at e; cases e
    | some σ1 =>
      rw [e1] at e
      obtain ⟨ul, rfl⟩ := setAt_ok e1
      refine ⟨v, vs, rfl, ?_⟩
      refine names_sem (hs.setFz a) r e fun σV' hs' c => h σV' hs' ?_
      exact (Chg.set fun u q => unlocked_tag ul q).trans c
/-- a target's end: the value stored -/
def gT (T : Tb) (tg : Tg) : TG := fun v σV H Q => ∃ w σ κ d σ', Wok T w H κ ∧ RS T w H σV σ ∧ RV T w v d ∧ assignT tg d σ = some σ' ∧ ∀ σV', RS T w H σV' σ' → Chg tg.ix σV σ σV' σ' → Q σV' H
theorem pgI {X : Cx} {e : Expr} {t t' : TG} (h : PG X e t) (k : ∀ v σ H Q, t' v σ H Q → t v σ H Q) : PG X e t' := ⟨fun pins s σ H v u Q I r q => h.run pins s σ H v u Q I r (k _ _ _ _ q)⟩
theorem pg_ok {tg : Tg} {t : Expr} (h : tgB N sc orig tg t = true) (g : Sto N sc orig X) (hK : X.K = T.K) (hc : X.calm = true) : PG X t (gT T tg) := by
  cases tg with
  | v i =>
    cases t <;> try (simp [tgB] at h; done)
    refine pgI (pg_nm h g) fun v σV H Q q => ?_
    obtain ⟨w, σ, κ, d, σ', hw, hs, r, e, k⟩ := q
    obtain ⟨ul, rfl⟩ := setAt_ok (show setAt σ i (some (.fz d)) = some σ' from e)
    exact k _ (hs.setFz r) (Chg.set fun u q => unlocked_tag ul q)
  | t is =>
    cases t <;> try (simp [tgB] at h; done)
    obtain ⟨a, b, c⟩ := pgs_nms g h
    refine pgI (pg_tup hc a b c) fun v σV H Q q => ?_
    obtain ⟨w, σ, κ, d, σ', hw, hs, r, e, k⟩ := q
    cases d with
    | tup ds =>
      have e : assign1 is ds σ = some σ' := e
      cases r with
      | tup q r =>
        have ln : ∀ {is : List Nat} {ds : List D} {σ : Sl}, assign1 is ds σ = some σ' → ds.length = is.length := by
          intro is
          induction is with
          | nil => intro ds σ e; cases ds with | nil => rfl | cons _ _ => simp [assign1] at e
          | cons i is ih =>
            intro ds σ e
            cases ds with
            | nil => simp [assign1] at e
            | cons d ds =>
              simp only [assign1] at e
              cases e1 : setAt σ i (some (.fz d)) with
              | none => rw [e1] at e; cases e
              | some σ1 => rw [e1] at e; simp [ih e]
        refine ⟨_, _, rfl, by rw [hK]; exact sqT_mono hw.le q, by rw [r.length]; exact ln e, names_sem hs r e k⟩
    | _ => cases e
end
end R

/-! R13: tests; comprehensions. -/
namespace R
open L2 PyProof.Rows PySem.Spec PySem
theorem pwI {X : Cx} {e : Expr} {t t' : TT} (h : PW X e t) (k : ∀ σ H Q, t' σ H Q → t σ H Q) : PW X e t' := ⟨fun wh pins s σ H Q I q => h.run wh pins s σ H Q I (k _ _ _ q)⟩
section
variable {T : Tb} {S : Sg} {Γ : Cxt} {N : List Str} {n : Nat}
/-- an expression whose test is its value's truth -/
def PlainT (x : Expr) : Prop := ∀ (env : Env) (whole : Sem Value), isTrue x env whole = (do let v ← whole; standAt x.pos; holding [v] (truthy v))
theorem pt_plain {e : E} (he : PEok T S Γ N n e) {sc : Scope} {x : Expr} {X : Cx} {W : WX} (q : isE S N none e sc x = true) (g : XG T S Γ N n sc X) (tk : Takes X W) (hx : PlainT x) : PT X x (tT T Γ e W) := by
  refine ptI (pt_truth (he sc x X W q g tk) fun wh => hx X.env wh) fun σV H Q h => ?_
  obtain ⟨w, σ, κ, hw, hs, p⟩ := h
  unfold evT at p
  refine tE_bind hw hs p fun r w1 H1 v er e k hs1 hv hbr hy p => ?_
  obtain ⟨b, eb, p2⟩ := (p.step e).opt
  exact ⟨b, tru_D g.hK k hv eb, p2.ok k⟩
theorem evT_def (e : E) (σ : Sl) (κ : Cells) : evT Γ e σ κ = (ev Γ e σ κ).bind fun x => (opt (truD x.1.d)).bind fun b => .ok (b, x.2) := rfl
theorem evT_not (a : E) (σ : Sl) (κ : Cells) : evT Γ (.not a) σ κ = (evT Γ a σ κ).bind fun t => .ok (!t.1, t.2) := by
  unfold evT
  conv => lhs; unfold ev
  cases ev Γ a σ κ with
  | ok r =>
    simp only [Out.bind]
    cases eb : truD r.1.d with
    | none => rfl
    | some t => rfl
  | _ => rfl
theorem evT_and (a b : E) (σ : Sl) (κ : Cells) : evT Γ (.and a b) σ κ = (evT Γ a σ κ).bind fun t => if t.1 = true then evT Γ b σ t.2 else .ok (false, t.2) := by
  unfold evT
  conv => lhs; unfold ev
  cases ev Γ a σ κ with
  | ok r =>
    simp only [Out.bind]
    cases eb : truD r.1.d with
    | none => rfl
    | some t => cases t <;> simp [opt, eb]
  | _ => rfl
theorem evT_or (a b : E) (σ : Sl) (κ : Cells) : evT Γ (.or a b) σ κ = (evT Γ a σ κ).bind fun t => if t.1 = true then .ok (true, t.2) else evT Γ b σ t.2 := by
  unfold evT
  conv => lhs; unfold ev
  cases ev Γ a σ κ with
  | ok r =>
    simp only [Out.bind]
    cases eb : truD r.1.d with
    | none => rfl
    | some t => cases t <;> simp [opt, eb]
  | _ => rfl
theorem evT_ite (c a b : E) (σ : Sl) (κ : Cells) : evT Γ (.ite c a b) σ κ = (evT Γ c σ κ).bind fun t => if t.1 = true then evT Γ a σ t.2 else evT Γ b σ t.2 := by
  unfold evT
  conv => lhs; unfold ev
  cases ev Γ c σ κ with
  | ok r =>
    simp only [Out.bind]
    cases eb : truD r.1.d with
    | none => rfl
    | some t => cases t <;> simp [opt]
  | _ => rfl
/-- tests, one behind another -/
theorem tT_step {e : E} {W : WX} {σV : L2.St} {H : Hp} {w : Wd} {σ : Sl} {κ : Cells} {f : Bool × Cells → Out (Bool × Cells)} {Q Q' : Bool → Hp → Prop} (hw : Wok T w H κ) (hs : RS T w H σV σ)
    (p : Post T w H ((evT Γ e σ κ).bind f) (fun c d H' => W c d σV H') (GT Q)) (h : ∀ t w' H', Wok T w' H' t.2 → RS T w' H' σV σ → Post T w' H' (f t) (fun c d H' => W c d σV H') (GT Q) → Q' t.1 H') : tT T Γ e W σV H Q' :=
  ⟨w, σ, κ, hw, hs, p.bind.imp fun t w1 H1 _ e k p2 => h t w1 H1 k (hs.ext e) p2⟩
theorem pt_not_ok {a : E} (ha : PTok T S Γ N n a) : PTok T S Γ N n (.not a) := by
  intro sc x X W q g tk
  cases x <;> try (simp [isE] at q; done)
  rename_i op y pos
  cases op <;> try (simp [isE] at q; done)
  refine ptI (pt_not (ha sc _ X W q g tk)) fun σV H Q h => ?_
  obtain ⟨w, σ, κ, hw, hs, p⟩ := h
  rw [evT_not] at p
  exact tT_step hw hs p fun t w1 H1 k hs1 p2 => Post.ok (r := (!t.1, t.2)) p2 k
abbrev PWok (T : Tb) (S : Sg) (Γ : Cxt) (N : List Str) (n : Nat) (e : E) : Prop := ∀ sc op xs pos X W, isE S N none e sc (.BoolOp op xs pos) = true → XG T S Γ N n sc X → Takes X W → PW X (.BoolOp op xs pos) (tT T Γ e W)
theorem pw_and_ok {a b : E} (ha : PTok T S Γ N n a) (hb : PTok T S Γ N n b) (hb' : PWok T S Γ N n b) : PWok T S Γ N n (.and a b) := by
  intro sc op ys pos X W q g tk
  have fin : ∀ {tb : TT}, (∀ σ H Q, tT T Γ b W σ H Q → tb σ H Q) → ∀ σV H Q, tT T Γ (.and a b) W σV H Q → tAnd (tT T Γ a W) tb σV H Q := fun {tb} hm σV H Q h => by
    obtain ⟨w, σ, κ, hw, hs, p⟩ := h
    rw [evT_and] at p
    refine tT_step hw hs p fun t w1 H1 k hs1 p2 => ?_
    cases ht : t.1 with
    | true => rw [if_pos rfl]; rw [if_pos ht] at p2; exact hm _ _ _ ⟨w1, σ, t.2, k, hs1, p2⟩
    | false => rw [if_neg (by simp)]; rw [if_neg (by simp [ht])] at p2; exact Post.ok (r := (false, t.2)) p2 k
  cases op <;> try (simp [isE] at q; done)
  match ys, q with
  | [x1, y1], q =>
    simp only [isE, Bool.and_eq_true] at q
    exact pwI (pw_and (ha sc _ X W q.1 g tk) (pw_and1 (hb sc _ X W q.2 g tk))) (fin fun _ _ _ z => z)
  | x1 :: y1 :: z1 :: r, q =>
    simp only [isE, Bool.and_eq_true] at q
    exact pwI (pw_and (ha sc _ X W q.1 g tk) (hb' sc _ _ _ X W q.2 g tk)) (fin fun _ _ _ z => z)
  | [], q => simp [isE] at q
  | [_], q => simp [isE] at q
theorem pw_or_ok {a b : E} (ha : PTok T S Γ N n a) (hb : PTok T S Γ N n b) (hb' : PWok T S Γ N n b) : PWok T S Γ N n (.or a b) := by
  intro sc op ys pos X W q g tk
  have fin : ∀ {tb : TT}, (∀ σ H Q, tT T Γ b W σ H Q → tb σ H Q) → ∀ σV H Q, tT T Γ (.or a b) W σV H Q → tOr (tT T Γ a W) tb σV H Q := fun {tb} hm σV H Q h => by
    obtain ⟨w, σ, κ, hw, hs, p⟩ := h
    rw [evT_or] at p
    refine tT_step hw hs p fun t w1 H1 k hs1 p2 => ?_
    cases ht : t.1 with
    | false => rw [if_neg (by simp)]; rw [if_neg (by simp [ht])] at p2; exact hm _ _ _ ⟨w1, σ, t.2, k, hs1, p2⟩
    | true => rw [if_pos rfl]; rw [if_pos ht] at p2; exact Post.ok (r := (true, t.2)) p2 k
  cases op <;> try (simp [isE] at q; done)
  match ys, q with
  | [x1, y1], q =>
    simp only [isE, Bool.and_eq_true] at q
    exact pwI (pw_or (ha sc _ X W q.1 g tk) (pw_or1 (hb sc _ X W q.2 g tk))) (fin fun _ _ _ z => z)
  | x1 :: y1 :: z1 :: r, q =>
    simp only [isE, Bool.and_eq_true] at q
    exact pwI (pw_or (ha sc _ X W q.1 g tk) (hb' sc _ _ _ X W q.2 g tk)) (fin fun _ _ _ z => z)
  | [], q => simp [isE] at q
  | [_], q => simp [isE] at q
theorem pt_and_ok {a b : E} (h : PWok T S Γ N n (.and a b)) : PTok T S Γ N n (.and a b) := by
  intro sc x X W q g tk
  cases x <;> try (simp [isE] at q; done)
  exact (h sc _ _ _ X W q g tk).pt
theorem pt_or_ok {a b : E} (h : PWok T S Γ N n (.or a b)) : PTok T S Γ N n (.or a b) := by
  intro sc x X W q g tk
  cases x <;> try (simp [isE] at q; done)
  exact (h sc _ _ _ X W q g tk).pt
def tIfT (t u v : TT) : TT := fun σ H Q => t σ H fun c H1 => if c = true then u σ H1 Q else v σ H1 Q
theorem pt_ifx {X : Cx} {c a b : Expr} {pos : Pos} {t u v : TT} (hc : PT X c t) (ha : PT X a u) (hb : PT X b v) : PT X (.IfExp c a b pos) (tIfT t u v) := by
  refine (⟨fun pins s σ H Q I h => ?_⟩)
  have e : ∀ wh, isTrue (.IfExp c a b pos) X.env wh = (do if ← isTrue c X.env (eval c X.env) then isTrue a X.env (eval a X.env) else isTrue b X.env (eval b X.env)) := fun _ => rfl
  rw [e]
  refine wpAny_bind (thn (hc.run pins s σ H _ I h) fun k s1 ⟨H1, I1, q1⟩ => ?_)
  cases k with
  | true => (exact ha.run pins s1 σ H1 Q I1 q1)
  | false => (exact hb.run pins s1 σ H1 Q I1 q1)
theorem pt_ite_ok {c a b : E} (hc : PTok T S Γ N n c) (ha : PTok T S Γ N n a) (hb : PTok T S Γ N n b) : PTok T S Γ N n (.ite c a b) := by
  intro sc x X W q g tk
  cases x <;> simp only [isE, Bool.and_eq_true, Bool.false_eq_true] at q
  obtain ⟨⟨q0, q1⟩, q2⟩ := q
  refine ptI (pt_ifx (hc sc _ X W q0 g tk) (ha sc _ X W q1 g tk) (hb sc _ X W q2 g tk)) fun σV H Q h => ?_
  obtain ⟨w, σ, κ, hw, hs, p⟩ := h
  rw [evT_ite] at p
  refine tT_step hw hs p fun t w1 H1 k hs1 p2 => ?_
  cases ht : t.1 with
  | true => rw [if_pos rfl]; rw [if_pos ht] at p2; exact ⟨w1, σ, t.2, k, hs1, p2⟩
  | false => rw [if_neg (by simp)]; rw [if_neg (by simp [ht])] at p2; exact ⟨w1, σ, t.2, k, hs1, p2⟩
theorem pt_cmp_ok (op : Cop) {a b : E} (ha : PEok T S Γ N n a) (hb : PEok T S Γ N n b) : PTok T S Γ N n (.cmp op a b) := by
  intro sc x X W q g tk
  cases x <;> try (simp [isE] at q; done)
  rename_i l ops cs pos
  match ops, cs, q with
  | [o], [r], q =>
    simp only [isE, Bool.and_eq_true, decide_eq_true_eq] at q
    obtain ⟨⟨rfl, q1⟩, q2⟩ := q
    refine ptI (pt_cmpR (op_cmp g.hK g.hu op) (ha sc _ X W q1 g tk) (hb sc _ X W q2 g tk) (marks_of (notSet_of q2))) fun σV H Q h => ?_
    obtain ⟨w, σ, κ, hw, hs, p⟩ := h
    unfold evT ev at p
    simp only [tTest, tOp]
    have p' : Post T w H ((ev Γ a σ κ).bind fun x => (ev Γ b σ x.2).bind fun y => (opt (cmpC y.2 op x.1.d y.1.d)).bind fun c => .ok (c, y.2)) (fun c d H' => W c d σV H') (GT Q) := by
      cases er : ev Γ a σ κ with
      | ok r =>
        rw [er] at p
        simp only [Out.bind] at p ⊢
        cases er2 : ev Γ b σ r.2 with
        | ok r2 =>
          rw [er2] at p
          simp only [Out.bind] at p ⊢
          cases ec : cmpC r2.2 op r.1.d r2.1.d with
          | none => rw [ec] at p; exact p
          | some c => rw [ec] at p; exact p
        | _ => rw [er2] at p; exact p
      | _ => rw [er] at p; exact p
    refine tE_bind hw hs p' fun r w1 H1 v er e k hs1 hv hbr hy p => ?_
    refine tE_bind k hs1 (p.step e) fun r2 w2 H2 v2 er2 e2 k2 hs2 hv2 hbr2 hy2 p2 => ?_
    obtain ⟨o, eo, p3⟩ := (p2.step e2).opt
    exact ⟨w2, r2.2, r.1, r2.1, o, k2, hv.ext e2, hv2, eo, o, rfl, p3.ok k2⟩
  | [], _, q => simp [isE] at q
  | _ :: _ :: _, _, q => simp [isE] at q
  | [_], [], q => simp [isE] at q
  | [_], _ :: _ :: _, q => simp [isE] at q
end
end R

/-! R14: comprehensions. -/
namespace R
open L2 PyProof.Rows PySem.Spec PySem
/-- no exception is taken -/
def W0 : WX := fun _ _ _ _ => False
def tIf (T : Tb) (Γ : Cxt) (e : E) : TT := fun σV H Q => ∃ w σ κ, Wok T w H κ ∧ RS T w H σV σ ∧ Post T w H (evIf Γ e σ κ) (fun _ _ _ => False) (GT Q)
section
variable {T : Tb} {S : Sg} {Γ : Cxt} {N : List Str} {n : Nat} {w w' : Wd} {H H' : Hp} {κ : Cells}
/-- a place that the ground does not know is written -/
theorem Wok.poke (k : Wok T w H κ) {p : Addr} (o : HO) (n : p ∉ w.θ) (f : w.F p = none) : Wok T w (upd H p o) κ := by
  refine ⟨fun a u e => ?_, k.nd, k.len, fun m a e => ?_⟩
  · rw [upd_ne (fun z => by rw [z, f] at e; cases e)]
    exact k.le a u e
  · obtain ⟨u, c, e1, r, at_⟩ := k.cell m a e
    exact ⟨u, c, e1, r, at_.move rfl (upd_ne fun z => n (by rw [← z]; exact List.mem_of_getElem? e))⟩
theorem Ext.poke (x : Ext w H w' H') {p : Addr} (o : HO) (h : H p = none) : Ext w H w' (upd H' p o) := by
  refine ⟨fun a u e q => ?_, fun a e => ?_, x.F, x.new, x.θ⟩
  · rw [upd_ne (ne_of_none e h)]
    exact x.keep a u e q
  · unfold upd at e
    split at e
    · cases e
    · exact x.dom a e
theorem frz_tag {o : O} {d : D} (h : o.frz = some d) : o.tag = none := by
  cases o with
  | fz d => rfl
  | ol b xs => cases b with | none => rfl | some i => simp [O.frz] at h
  | od b xs => cases b with | none => rfl | some i => simp [O.frz] at h
  | ot b xs => cases b with | none => rfl | some i => simp [O.frz] at h
theorem noexc_ok {α β : Type} {m : Out α} {f : α → Out β} {r : β} (h : (noexc m).bind f = .ok r) : ∃ a, m = .ok a ∧ f a = .ok r := by
  cases m with
  | ok a => exact ⟨a, rfl, h⟩
  | exc c fs k => cases h
  | bad => cases h
theorem Post.noexc {α β : Type} {m : Out α} {f : α → Out (β × Cells)} {X : XW} {G : β × Cells → Wd → Hp → Prop} (p : Post T w H ((R.noexc m).bind f) X G) : ∃ a, m = .ok a ∧ Post T w H (f a) X G := by
  cases m with
  | ok a => exact ⟨a, rfl, p⟩
  | exc c fs k => exact p.elim
  | bad => exact p.elim
abbrev stepC (Γ : Cxt) (own : List Nat) (tg : Tg) (ifs elt : E) (σ : Sl) : D → Cells → Out (List D × Cells) := fun x κ => (opt (assignT tg x (wipeS σ own))).bind fun σ' => (noexc (evIf Γ ifs σ' κ)).bind fun t =>
  if t.1 then (noexc (ev Γ elt σ' t.2)).bind fun y => (opt y.1.frz).bind fun d => .ok ([d], y.2) else .ok ([], t.2)
theorem post_ok {α : Type} {m : Out (α × Cells)} {r : α × Cells} {X : XW} {G : α × Cells → Wd → Hp → Prop} (h : m = .ok r) (g : ∀ w' H', Ext w H w' H' → Wok T w' H' r.2 → G r w' H') : Post T w H m X G := by
  rw [h]; exact g
theorem comp_sem {own : List Nat} {tg : Tg} {it ifs elt : E} {W : WX} (hin : tgIn own tg = true) : ∀ σV H Q, tE T Γ (.comp own tg it ifs elt) W σV H Q → tLc (tI T Γ it W) (gT T tg) (tIf T Γ ifs) (tE T Γ elt W0) own σV H Q := by
  intro σV H Q h
  obtain ⟨w, σ, κ, hw, hs, p⟩ := h
  unfold ev at p
  refine ⟨w, σ, κ, hw, hs, ?_⟩
  cases er : evIt Γ it σ κ with
  | bad => rw [er] at p; exact p
  | exc c fs k => rw [er] at p; exact p
  | ok r =>
    rw [er] at p
    intro w1 H1 e1 k1 J Keep hk wd la D hD
    obtain ⟨rr, er2, p2⟩ := (show Post T w H ((noexc (compLoop (stepC Γ own tg ifs elt σ) r.1.1 r.2)).bind _) _ _ from p).noexc
    have hlen : rr.1.length < sizeLine ∧ Post T w H (.ok (O.ol none rr.1, rr.2)) (fun c d H' => W c d σV H') (GE T H σV Q) := by
      by_cases z : rr.1.length < sizeLine
      · rw [if_pos z] at p2; exact ⟨z, p2⟩
      · rw [if_neg z] at p2; exact p2.elim
    obtain ⟨hlen, p3⟩ := hlen
    have hD0 : H D = none := e1.dom D hD
    refine ⟨fun i m H' => m = r.1.1.length - i ∧ i ≤ r.1.1.length ∧ ∃ w2 κ2 accD accV zs, Ext w1 H1 w2 H' ∧ Wok T w2 H' κ2 ∧ H' D = some (.lst accV) ∧ RVs T w2 accV accD ∧ D ∉ w2.θ ∧ w2.F D = none ∧ compLoop (stepC Γ own tg ifs elt σ) (r.1.1.drop i) κ2 = .ok (zs, rr.2) ∧ rr.1 = accD ++ zs, ⟨r.1.1.length, ?_⟩, ?_⟩
    · have z := k1.own (.lst []) hD
      exact ⟨by simp, Nat.zero_le _, w1, r.2, [], [], rr.1, z.2, z.1, upd_same, .nil, k1.offθ hD, k1.noF hD, by simpa using er2, rfl⟩
    · intro i m H' inv
      obtain ⟨rfl, hi, w2, κ2, accD, accV, zs, x2, k2, hDl, rv, nθ, nF, ez, eq⟩ := inv
      have hkeep := la.ext w2 H' x2 k2.le
      obtain ⟨walk, stop⟩ := wd w2 H' κ2 k2 hkeep
      by_cases hlt : i < r.1.1.length
      · obtain ⟨go, yld⟩ := walk i hlt
        refine .inr ⟨go, fun H'' => (∃ w2 κ2 accD accV zs, Ext w1 H1 w2 H'' ∧ Wok T w2 H'' κ2 ∧ H'' D = some (.lst accV) ∧ RVs T w2 accV accD ∧ D ∉ w2.θ ∧ w2.F D = none ∧ compLoop (stepC Γ own tg ifs elt σ) (r.1.1.drop (i + 1)) κ2 = .ok (zs, rr.2) ∧ rr.1 = accD ++ zs), fun H'' q => ⟨r.1.1.length - (i + 1), by omega, rfl, by omega, q⟩, fun v H3 y => ?_⟩
        obtain ⟨w3, d, ed, x3, k3, rd⟩ := yld v H3 y
        have hdrop : r.1.1.drop i = d :: r.1.1.drop (i + 1) := by
          rw [(List.drop_eq_getElem_cons hlt)]
          rw [List.getElem?_eq_getElem hlt] at ed
          cases ed
          rfl
        rw [hdrop] at ez
        simp only [compLoop] at ez
        obtain ⟨y1, ey1, ez⟩ := obind_ok ez
        obtain ⟨z1, ez1, ez⟩ := obind_ok ez
        simp only [Out.ok.injEq, Prod.mk.injEq] at ez
        obtain ⟨rfl, ez2⟩ := ez
        have ez1 : compLoop (stepC Γ own tg ifs elt σ) (r.1.1.drop (i + 1)) y1.2 = .ok (z1.1, rr.2) := by rw [← ez2]; exact ez1
        obtain ⟨σ', eσ, ey1⟩ := obind_ok ey1
        have eσ := opt_ok eσ
        obtain ⟨t, et, ey1⟩ := noexc_ok ey1
        have x13 := x2.trans x3
        refine ⟨w3, wipeS σ own, κ2, d, σ', k3, ((hs.ext e1).ext x13).wiped own, rd, eσ, fun σ2V hs2 chg => ⟨wipe_back chg fun j hj => ?_, ?_⟩⟩
        · cases tg with
          | v j' =>
            have : j = j' := by simpa [Tg.ix] using hj
            subst this
            simpa [tgIn] using hin
          | t is =>
            simp only [tgIn, List.all_eq_true, decide_eq_true_eq] at hin
            exact hin j hj
        refine ⟨w3, σ', κ2, k3, hs2, post_ok et fun w4 H4 e4 k4 => ?_⟩
        have x14 := x13.trans e4
        have hD4 : H4 D = some (.lst accV) := (x3.trans e4).keep D _ hDl nθ
        have nθ4 : D ∉ w4.θ := (x3.trans e4).offθ hDl nθ
        have nF4 : w4.F D = none := (x3.trans e4).offF hDl nF nθ
        have rv4 := rv.mono (x3.trans e4).le
        show if t.1 = true then _ else _
        cases ht : t.1 with
        | false =>
          rw [if_neg (by simp [ht])] at ey1
          cases ey1
          rw [if_neg (by simp)]
          exact ⟨w4, t.2, accD, accV, z1.1, x14, k4, hD4, rv4, nθ4, nF4, ez1, by simpa using eq⟩
        | true =>
          rw [if_pos ht] at ey1
          obtain ⟨y5, ey5, ey1⟩ := noexc_ok ey1
          obtain ⟨dy, edy, ey1⟩ := obind_ok ey1
          have edy := opt_ok edy
          cases ey1
          rw [if_pos rfl]
          refine ⟨w4, σ', t.2, k4, hs2.ext e4, post_ok ey5 fun w5 H5 e5 k5 v5 hv5 hb5 hy5 => ?_⟩
          obtain ⟨w6, k6, e6, l6, rv6⟩ := hv5.give k5 edy e5 (hy5 (frz_tag edy))
          have hD6 : H5 D = some (.lst accV) := e6.keep D _ hD4 nθ4
          have nθ6 := e6.offθ hD4 nθ4
          have nF6 := e6.offF hD4 nF4 nθ4
          refine ⟨accV, hD6, ?_, w6, y5.2, accD ++ [dy], accV ++ [v5], z1.1, (x14.trans e6).poke _ hD, k6.poke _ nθ6 nF6, upd_same, (rv4.mono e6.le).append (.one rv6), nθ6, nF6, ez1, by rw [eq]; simp⟩
          have := rv.length
          have : rr.1.length = accD.length + (1 + z1.1.length) := by rw [eq]; simp; omega
          omega
      · have e : i = r.1.1.length := by omega
        subst e
        refine .inl ⟨stop, ?_⟩
        rw [List.drop_length] at ez
        cases ez
        rw [List.append_nil] at eq
        rw [eq] at p3
        exact GE.own (p3 w2 H' (e1.trans x2) k2) hDl rv nθ nF hD0
/-! ### the block's context -/
theorem XG.blk {sc : Scope} {X : Cx} (g : XG T S Γ N n sc X) (s : Shared) (H : Hp) (scope : Scope) (C : Addr) (cl : List (Str × Addr)) (fp : List Addr) : XG T S Γ N n (relS scope sc) (X.blk s H scope (compEnvC scope cl C X.env) fp) where
  hK := g.hK
  hN := g.hN
  nd := g.nd
  hsc := by rw [← g.hsc]; rfl
  calm := g.calm
  gd := g.gd
  room := g.room
  lv := g.lv
  bi := g.bi
  gcd := g.gcd
  gl := g.gl
  call := g.call
  ins := g.ins
  ins2 := g.ins2
  insAll := g.insAll
  mkC := g.mkC
  eqF := g.eqF
theorem takes0 {X : Cx} : Takes X W0 := fun u s' ⟨a, B, sI, pins, σ, H, cls, d, e, I, nb, up, sky, na, os, ag, w⟩ => w.elim
abbrev PFok (T : Tb) (S : Sg) (Γ : Cxt) (N : List Str) (n : Nat) (e : E) : Prop := ∀ sc xs X, isEs S N none e sc xs = true → XG T S Γ N n sc X → PTs X xs (tIf T Γ e)
theorem ptsI {X : Cx} {e : List Expr} {t t' : TT} (h : PTs X e t) (k : ∀ σ H Q, t' σ H Q → t σ H Q) : PTs X e t' := ⟨fun pins s σ H Q I q => h.run pins s σ H Q I (k _ _ _ q)⟩
theorem pf_nil_ok : PFok T S Γ N n .nil := by
  intro sc xs X q g
  cases xs with
  | cons _ _ => simp [isEs] at q
  | nil =>
    refine ptsI pts_nil fun σV H Q h => ?_
    obtain ⟨w, σ, κ, hw, hs, p⟩ := h
    unfold evIf at p
    exact p.ok hw
theorem pts_bad {X : Cx} {e : E} {xs : List Expr} (h : ∀ σ κ, evIf Γ e σ κ = .bad) : PTs X xs (tIf T Γ e) :=
  ⟨fun pins s σV H Q I q => by obtain ⟨w, σ, κ, hw, hs, p⟩ := q; rw [h] at p; exact p.elim⟩
theorem pf_cons_ok {e es : E} (he : PTok T S Γ N n e) : PFok T S Γ N n (.cons e es) := by
  intro sc xs X q g
  cases es with
  | nil =>
    match xs, q with
    | [x], q =>
      simp only [isEs, Bool.and_eq_true] at q
      refine ptsI (pts_one (he sc x X W0 q.1 g takes0)) fun σV H Q h => ?_
      obtain ⟨w, σ, κ, hw, hs, p⟩ := h
      unfold evIf at p
      exact ⟨w, σ, κ, hw, hs, p⟩
    | [], q => simp [isEs] at q
    | _ :: _ :: _, q => simp [isEs] at q
  | _ => exact pts_bad fun σ κ => by unfold evIf; rfl
theorem folded_of {e : E} {sc : Scope} {x : Expr} (q : isIt S N none e sc x = true) (hn : notSet x = true) (env : Env) (v : Value) : foldedSetIterable x env v = pure v := by
  cases x <;> first | rfl | cases hn
theorem fn_blk {X : Cx} {s : Shared} {H : Hp} {scope : Scope} {cenv : Env} {fp : List Addr} : ∀ x, scope.names.lookup x = some .cell → (X.blk s H scope cenv fp).fn x = true := fun x h => by
  show (scope.names.lookup x == some .cell) = true
  rw [h]; rfl
theorem pe_comp_ok {own : List Nat} {tg : Tg} {it ifs elt : E} (hit : PIok T S Γ N n it) (hif : PFok T S Γ N n ifs) (hel : PEok T S Γ N n elt) : PEok T S Γ N n (.comp own tg it ifs elt) := by
  intro sc x X W q g tk
  cases x <;> try (simp [isE] at q; done)
  rename_i x gens scope pos
  cases gens with
  | nil => simp [isE] at q
  | cons gn rest =>
  cases rest with
  | cons _ _ => simp [isE] at q
  | nil =>
  obtain ⟨t, i, is, asy⟩ := gn
  by_cases hz : asy = 0
  case neg => simp [isE, hz] at q
  subst hz
  simp only [isE, Bool.and_eq_true, decide_eq_true_eq] at q
  obtain ⟨⟨⟨⟨⟨⟨⟨⟨q1, q2⟩, q3⟩, q4⟩, q5⟩, q6⟩, q7⟩, q8⟩, q9⟩ := q
  have ok : BlkOk X.N X.env.scope scope (ownN N own) := by rw [g.hN, g.hsc]; exact blkOk_by q1
  have hl := pe_lc (wi := tI T Γ it W) (g := gT T tg) (tt := tIf T Γ ifs) (te := tE T Γ elt W0) (pos := pos) g.calm (by rw [g.hN]; exact g.nd) (hit sc t i X W q4 q6 g tk) ok
    (fun s H C cl fp => pg_ok q3 ⟨g.hN, g.nd, (g.blk s H scope C cl fp).hsc, fn_blk⟩ g.hK g.calm) (fun s H C cl fp => hif _ is _ q8 (g.blk s H scope C cl fp)) (fun s H C cl fp => hel _ x _ W0 q9 (g.blk s H scope C cl fp) takes0) (folded_of q4 q5 X.env)
  rw [q2] at hl
  exact peI hl (comp_sem q7)
end
end R

/-! RC2: comprehensions of two clauses. -/
namespace R
open L2 PyProof.Rows PySem.Spec PySem
section
variable {T : Tb} {Γ : Cxt} {w₀ w w' : Wd} {H₀ H H' : Hp} {σ σ' : Sl} {κ κ' : Cells} {σV σV' : L2.St} {W : WX}
theorem read_place (o : O) (i : Nat) : (o.read i).place = o.place := by cases o <;> rfl
theorem read_tag {o : O} {i : Nat} (h : o.place = true) : (o.read i).tag = some i := by cases o <;> first | rfl | cases h
theorem tag_place {o : O} {i : Nat} (h : o.tag = some i) : o.place = true := by cases o <;> first | rfl | cases h
theorem bor_tag {o : O} {i : Nat} (h : i ∈ o.bor) : o.tag = some i := by
  cases o with
  | fz d => simp [O.bor] at h
  | ol b xs => cases b <;> simp [O.bor] at h; subst h; rfl
  | od b xs => cases b <;> simp [O.bor] at h; subst h; rfl
  | ot b xs => cases b <;> simp [O.bor] at h; subst h; rfl
/-- the same slots under other marks -/
theorem RS.mark {i : Nat} {o o2 : O} (h : RS T w H σV σ) (e : σ[i]? = some (some o)) (hr : ∀ v, RO T w H v o → RO T w H v o2) (hp : o2.place = o.place) (ht : ∀ j, o2.tag = some j → j = i) : RS T w H σV (σ.set i (some o2)) := by
  obtain ⟨v, ev, r⟩ := h.at_ i o e
  have hl : i < σV.length := (List.getElem?_eq_some_iff.mp ev).1
  have z := h.set (i := i) (v := some v) (o := some o2) fun u eu => by
    cases eu
    exact ⟨v, rfl, hr v r, ht, fun j o' ne e1 e2 => by
      rw [hp]
      exact h.apart i j o o' v (fun z => ne z.symm) e e1 ev e2⟩
  have e2 : σV.set i (some v) = σV := by
    refine (List.ext_getElem? fun j => ?_)
    by_cases hj : i = j
    · subst hj; rw [List.getElem?_set_self hl, ev]
    · rw [List.getElem?_set_ne hj]
  rwa [e2] at z
/-- what was read alone is not touched by marks -/
theorem lock_same : ∀ {is : List Nat} {σ : Sl} {i : Nat} {o : O} {j : Nat}, σ[i]? = some (some o) → o.tag = some j → (lockAll σ is)[i]? = some (some o)
  | [], _, _, _, _, e, _ => e
  | k :: is, σ, i, o, j, e, t => by
    have ne : ∀ {u : O}, σ[k]? = some (some u) → u.tag = none → k ≠ i := fun {u} e1 t1 z => by
      subst z; rw [e] at e1; cases e1; rw [t1] at t; cases t
    unfold lockAll
    split
    · rename_i xs e1; exact lock_same (by rw [List.getElem?_set_ne (ne e1 rfl)]; exact e) t
    · rename_i xs e1; exact lock_same (by rw [List.getElem?_set_ne (ne e1 rfl)]; exact e) t
    · rename_i xs e1; exact lock_same (by rw [List.getElem?_set_ne (ne e1 rfl)]; exact e) t
    · exact lock_same e t
/-- the locked ones are marked -/
theorem lock_spec : ∀ {is : List Nat} {σ : Sl} {i : Nat} {o : O}, (∀ (i j : Nat) (o : O), σ[i]? = some (some o) → o.tag = some j → j = i) → i ∈ is → σ[i]? = some (some o) → o.place = true → (lockAll σ is)[i]? = some (some (o.read i))
  | [], _, _, _, _, h, _, _ => by (simp at h)
  | k :: is, σ, i, o, tg, h, e, pl => by
    have hl : i < σ.length := (List.getElem?_eq_some_iff.mp e).1
    by_cases hk : k = i
    · subst hk
      unfold lockAll
      split
      · rename_i xs e1; rw [e] at e1; cases e1; exact lock_same (j := k) (by rw [List.getElem?_set_self hl]; rfl) rfl
      · rename_i xs e1; rw [e] at e1; cases e1; exact lock_same (j := k) (by rw [List.getElem?_set_self hl]; rfl) rfl
      · rename_i xs e1; rw [e] at e1; cases e1; exact lock_same (j := k) (by rw [List.getElem?_set_self hl]; rfl) rfl
      · rename_i n1 n2 n3
        have ht : ∃ j, o.tag = some j := by
          cases o with
          | fz d => cases pl
          | ol b xs => cases b with | none => exact absurd e (n1 xs) | some j => exact ⟨j, rfl⟩
          | od b xs => cases b with | none => exact absurd e (n2 xs) | some j => exact ⟨j, rfl⟩
          | ot b xs => cases b with | none => exact absurd e (n3 xs) | some j => exact ⟨j, rfl⟩
        obtain ⟨j, ht⟩ := ht
        have hj := tg k j o e ht
        subst hj
        have er : o.read j = o := by cases o <;> simp [O.tag] at ht <;> subst ht <;> rfl
        rw [er]
        exact lock_same e ht
    · have hi : i ∈ is := by
        rcases (List.mem_cons.mp h) with z | z
        · exact absurd z.symm hk
        · exact z
      have step : ∀ {u : O}, (∀ j, u.tag = some j → j = k) → (lockAll (σ.set k (some u)) is)[i]? = some (some (o.read i)) := fun {u} hu => lock_spec (fun a b c e1 t1 => by
        rcases get_set e1 with ⟨rfl, z, _⟩ | ⟨_, e2⟩
        · cases z; exact hu b t1
        · exact tg a b c e2 t1) hi (by rw [List.getElem?_set_ne hk]; exact e) pl
      unfold lockAll
      split
      · exact step fun j z => by cases z; rfl
      · exact step fun j z => by cases z; rfl
      · exact step fun j z => by cases z; rfl
      · exact lock_spec tg hi e pl
/-- what a walk borrows stands in slots -/
theorem src_bor {e : E} {r : O × Cells} {i : Nat} (er : ev Γ e σ κ = .ok r) (h : i ∈ r.1.bor) : ∃ o, σ[i]? = some (some o) ∧ o.place = true := by
  obtain ⟨o', eo, e2⟩ := ev_src Γ e σ κ r er i (bor_tag h)
  exact ⟨o', eo, by rw [← read_place o' i, ← e2]; exact tag_place (bor_tag h)⟩
theorem it_src {it : E} {r : (List D × List Nat) × Cells} (h : evIt Γ it σ κ = .ok r) : ∀ i ∈ r.1.2, ∃ o, σ[i]? = some (some o) ∧ o.place = true := by
  cases it <;> try (unfold evIt at h; cases h; done)
  · rename_i a
    unfold evIt at h
    obtain ⟨x, e1, h⟩ := obind_ok h
    by_cases z : ∃ n, x.1 = .fz (.obj n)
    · obtain ⟨n, z⟩ := z
      rw [z] at h
      obtain ⟨xs, e2, h⟩ := obind_ok (show (opt (lockedAt x.2 n)).bind _ = .ok r from h)
      cases h
      exact fun i hi => by simp at hi
    · have h : ((opt (seqD x.1.d)).bind fun xs => .ok ((xs, x.1.bor), x.2)) = Out.ok r := by
        generalize x.1 = ox at h z
        cases ox with
        | fz d =>
          cases d with
          | obj n => exact absurd ⟨n, rfl⟩ z
          | _ => exact h
        | _ => exact h
      obtain ⟨xs, e2, h⟩ := obind_ok h
      cases h
      exact fun i hi => src_bor e1 hi
  · rename_i a
    unfold evIt at h
    obtain ⟨x, e1, h⟩ := obind_ok h
    generalize x.1.d = dx at h
    cases dx with
    | int j => obtain ⟨xs, e2, h⟩ := obind_ok (show (opt (rangeD 0 j)).bind _ = .ok r from h); cases h; exact fun i hi => by simp at hi
    | _ => cases h
  · rename_i a b
    unfold evIt at h
    obtain ⟨x, e1, h⟩ := obind_ok h
    obtain ⟨y, e2, h⟩ := obind_ok h
    generalize x.1.d = dx at h
    generalize y.1.d = dy at h
    cases dx with
    | int i =>
      cases dy with
      | int j => obtain ⟨xs, e2, h⟩ := obind_ok (show (opt (rangeD i j)).bind _ = .ok r from h); cases h; exact fun i hi => by simp at hi
      | _ => cases h
    | _ => cases h
  · rename_i a b
    unfold evIt at h
    obtain ⟨x, e1, h⟩ := obind_ok h
    obtain ⟨y, e2, h⟩ := obind_ok h
    obtain ⟨xs, e3, h⟩ := obind_ok h
    obtain ⟨ys, e4, h⟩ := obind_ok h
    cases h
    intro i hi
    rcases List.mem_append.mp hi with hi | hi
    · exact src_bor e1 hi
    · exact src_bor e2 hi

theorem RS.lockAll : ∀ {is : List Nat} {σ : Sl}, RS T w H σV σ → RS T w H σV (R.lockAll σ is)
  | [], _, a => a
  | i :: is, σ, a => by
    unfold R.lockAll
    split
    · rename_i xs e; exact RS.lockAll (a.mark e (fun v r => r) rfl fun j z => by cases z; rfl)
    · rename_i xs e; exact RS.lockAll (a.mark e (fun v r => r) rfl fun j z => by cases z; rfl)
    · rename_i xs e; exact RS.lockAll (a.mark e (fun v r => r) rfl fun j z => by cases z; rfl)
    · exact RS.lockAll a
/-- one place is out of sight -/
def hide (D : Addr) (H : Hp) : Hp := fun a => if a = D then none else H a
theorem hide_self {D : Addr} : hide D H D = none := by simp [hide]
theorem hide_ne {D a : Addr} (h : a ≠ D) : hide D H a = H a := by simp [hide, h]
theorem hide_some {D a : Addr} {o : HO} (h : hide D H a = some o) : a ≠ D ∧ H a = some o := by
  unfold hide at h
  split at h
  · cases h
  · rename_i ne; exact ⟨ne, h⟩
theorem hide_none {D a : Addr} (h : H a = none) : hide D H a = none := by
  unfold hide
  split
  · rfl
  · exact h
theorem Ext.hideR {D : Addr} (x : Ext w H w' H') (h : H D = none) : Ext w H w' (hide D H') := by
  refine ⟨fun a o e n => ?_, fun a e => ?_, x.F, x.new, x.θ⟩
  · rw [hide_ne (ne_of_none e h)]; exact x.keep a o e n
  · by_cases z : a = D
    · rw [z]; exact h
    · rw [hide_ne z] at e; exact x.dom a e
theorem Ext.hideL {D : Addr} (x : Ext w H w' H') : Ext w (hide D H) w' H' := by
  refine ⟨fun a o e n => ?_, fun a e => hide_none (x.dom a e), x.F, fun a e k => ?_, ?_⟩
  · exact x.keep a o (hide_some e).2 n
  · rcases x.new a e k with z | z
    · exact .inl (hide_none z)
    · exact .inr z
  · obtain ⟨l, e, hl⟩ := x.θ
    exact ⟨l, e, fun a ha => hide_none (hl a ha)⟩
/-- a target's end, whatever the heap -/
def gT2 (T : Tb) (tg : Tg) : TG := fun v σV H Q => ∃ w σ κ d σ', Wok T w H κ ∧ RS T w H σV σ ∧ RV T w v d ∧ assignT tg d σ = some σ' ∧ ∀ σV', (∀ H2, RS T w H2 σV σ → RS T w H2 σV' σ') → Chg tg.ix σV σ σV' σ' → Q σV' H
theorem names_sem2 {Q : L2.St → Hp → Prop} : ∀ {is : List Nat} {vs : List V} {ds : List D} {σV : L2.St} {σ σ' : Sl}, RVs T w vs ds → assign1 is ds σ = some σ' → (∀ σV', (∀ H2, RS T w H2 σV σ → RS T w H2 σV' σ') → Chg is σV σ σV' σ' → Q σV' H) → gNames is vs σV H Q
  | [], _, [], σV, σ, σ', r, e, h => by
    cases r
    simp only [assign1, Option.some.injEq] at e
    subst e
    exact ⟨rfl, h σV (fun _ z => z) Chg.rfl'⟩
  | [], _, _ :: _, _, _, _, _, e, _ => by simp [assign1] at e
  | _ :: _, _, [], _, _, _, _, e, _ => by simp [assign1] at e
  | i :: is, _, d :: ds, σV, σ, σ', .cons (v := v) (vs := vs) a r, e, h => by
    simp only [assign1] at e
    cases e1 : setAt σ i (some (.fz d)) with
    | none => rw [e1] at e; cases e
    | some σ1 =>
      rw [e1] at e
      obtain ⟨ul, rfl⟩ := setAt_ok e1
      refine ⟨v, vs, rfl, ?_⟩
      refine names_sem2 r e fun σV' hf c => h σV' (fun H2 hs => hf H2 (hs.setFz a)) ?_
      exact (Chg.set fun u q => unlocked_tag ul q).trans c
theorem pg_ok2 {N : List Str} {sc orig : Scope} {X : Cx} {tg : Tg} {t : Expr} (h : tgB N sc orig tg t = true) (g : Sto N sc orig X) (hK : X.K = T.K) (hc : X.calm = true) : PG X t (gT2 T tg) := by
  cases tg with
  | v i =>
    cases t <;> try (simp [tgB] at h; done)
    refine pgI (pg_nm h g) fun v σV H Q q => ?_
    obtain ⟨w, σ, κ, d, σ', hw, hs, r, e, k⟩ := q
    obtain ⟨ul, rfl⟩ := setAt_ok (show setAt σ i (some (.fz d)) = some σ' from e)
    exact k _ (fun H2 hs => hs.setFz r) (Chg.set fun u q => unlocked_tag ul q)
  | t is =>
    cases t <;> try (simp [tgB] at h; done)
    obtain ⟨a, b, c⟩ := pgs_nms g h
    refine pgI (pg_tup hc a b c) fun v σV H Q q => ?_
    obtain ⟨w, σ, κ, d, σ', hw, hs, r, e, k⟩ := q
    cases d with
    | tup ds =>
      have e : assign1 is ds σ = some σ' := e
      cases r with
      | tup q r =>
        have ln : ∀ {is : List Nat} {ds : List D} {σ : Sl}, assign1 is ds σ = some σ' → ds.length = is.length := by
          intro is
          induction is with
          | nil => intro ds σ e; cases ds with | nil => rfl | cons _ _ => simp [assign1] at e
          | cons i is ih =>
            intro ds σ e
            cases ds with
            | nil => simp [assign1] at e
            | cons d ds =>
              simp only [assign1] at e
              cases e1 : setAt σ i (some (.fz d)) with
              | none => rw [e1] at e; cases e
              | some σ1 => rw [e1] at e; simp [ih e]
        refine ⟨_, _, rfl, by rw [hK]; exact sqT_mono hw.le q, by rw [r.length]; exact ln e, names_sem2 r e k⟩
    | _ => cases e
end
section
variable {T : Tb} {S : Sg} {Γ : Cxt} {N : List Str} {n : Nat} {w w' : Wd} {H H' : Hp} {κ : Cells}
abbrev stepC2 (Γ : Cxt) (own : List Nat) (tg : Tg) (ifs : E) (tg2 : Tg) (it2 ifs2 elt : E) (σ : Sl) : D → Cells → Out (List D × Cells) := fun x κ => (opt (assignT tg x (wipeS σ own))).bind fun σ1 => (noexc (evIf Γ ifs σ1 κ)).bind fun t =>
  if t.1 then (noexc (evIt Γ it2 σ1 t.2)).bind fun r2 => compLoop (stepC Γ tg2.ix tg2 ifs2 elt σ1) r2.1.1 r2.2 else .ok ([], t.2)
theorem tgIn_ix {own : List Nat} {tg : Tg} (h : tgIn own tg = true) : ∀ i ∈ tg.ix, i ∈ own := fun j hj => by
  cases tg with
  | v j' =>
    have : j = j' := by simpa [Tg.ix] using hj
    subst this
    simpa [tgIn] using h
  | t is =>
    simp only [tgIn, List.all_eq_true, decide_eq_true_eq] at h
    exact h j hj
theorem drop_at {α : Type} {l : List α} {i : Nat} {d : α} (hlt : i < l.length) (ed : l[i]? = some d) : l.drop i = d :: l.drop (i + 1) := by
  rw [(List.drop_eq_getElem_cons hlt)]
  rw [List.getElem?_eq_getElem hlt] at ed
  cases ed
  rfl
/-- the inner loop, from where its walk is known -/
theorem inner_sem {tg2 : Tg} {ifs2 elt : E} {σV : L2.St} {σ1 : Sl} {D : Addr} {w4 : Wd} {H4 : Hp} {κ4 κ5 : Cells} {xs zs accD : List R.D} {accV : List V} {J : It} {bs : List Nat} {Keep : Wd → Hp → Prop} {w1 : Wd} {H1 : Hp} {Nx : Hp → Prop}
    (rs : RS T w4 (hide D H4) σV σ1) (k4 : Wok T w4 H4 κ4) (hD4 : H4 D = some (.lst accV)) (rv : RVs T w4 accV accD) (nθ : D ∉ w4.θ) (nF : w4.F D = none) (hk : Keep w4 H4) (wd : WalkD T J xs Keep) (la : Lasts T w4 H4 σV σ1 bs Keep)
    (hbs : ∀ i ∈ bs, ∃ o, σ1[i]? = some (some o) ∧ o.place = true) (hlim : accD.length + zs.length < sizeLine) (x14 : Ext w1 H1 w4 (hide D H4)) (ez : compLoop (stepC Γ tg2.ix tg2 ifs2 elt σ1) xs κ4 = .ok (zs, κ5))
    (fin : ∀ w2 H2 accV2, Ext w1 H1 w2 H2 → Wok T w2 H2 κ5 → H2 D = some (.lst accV2) → RVs T w2 accV2 (accD ++ zs) → D ∉ w2.θ → w2.F D = none → Nx H2) :
    ∃ W1 : Nat → Nat → Hp → Prop, (∃ m, W1 0 m H4) ∧ ∀ j k H, W1 j k H → (J.stop j H ∧ Nx H) ∨ (J.go j H ∧ ∃ Nx1 : Hp → Prop, (∀ H', Nx1 H' → ∃ k', k' < k ∧ W1 (j + 1) k' H') ∧ ∀ x H', J.yld j H x H' → gT2 T tg2 x (wipe σV tg2.ix) H' fun σ3 H5 => wipe σ3 tg2.ix = wipe σV tg2.ix ∧ tIf T Γ ifs2 σ3 H5 fun b H6 =>
        if b = true then tE T Γ elt W0 σ3 H6 fun y H7 => ∃ acc, H7 D = some (.lst acc) ∧ acc.length < sizeLine ∧ Nx1 (upd H7 D (.lst (acc ++ [y]))) else Nx1 H6) := by
  refine ⟨fun i m H' => m = xs.length - i ∧ i ≤ xs.length ∧ ∃ w2 κ2 accD2 accV2 zs2, Ext w4 (hide D H4) w2 H' ∧ Wok T w2 H' κ2 ∧ H' D = some (.lst accV2) ∧ RVs T w2 accV2 accD2 ∧ D ∉ w2.θ ∧ w2.F D = none ∧ compLoop (stepC Γ tg2.ix tg2 ifs2 elt σ1) (xs.drop i) κ2 = .ok (zs2, κ5) ∧ accD ++ zs = accD2 ++ zs2, ⟨xs.length, ?_⟩, ?_⟩
  · exact ⟨by simp, Nat.zero_le _, w4, κ4, accD, accV, zs, (Ext.rfl' w4 H4).hideL, k4, hD4, rv, nθ, nF, by simpa using ez, rfl⟩
  · intro i m H' inv
    obtain ⟨rfl, hi, w2, κ2, accD2, accV2, zs2, x2, k2, hDl, rv2, nθ2, nF2, ez, eq⟩ := inv
    have hkeep : Keep w2 H' := la.slots w2 H' σV (lockAll σ1 bs) x2.le k2.le (rs.ext x2).lockAll fun i hi => by
      obtain ⟨o, eo, pl⟩ := hbs i hi
      exact ⟨rfl, o, eo, lock_spec rs.tag hi eo pl⟩
    obtain ⟨walk, stop⟩ := wd w2 H' κ2 k2 hkeep
    by_cases hlt : i < xs.length
    · obtain ⟨go, yld⟩ := walk i hlt
      refine .inr ⟨go, fun H'' => (∃ w2 κ2 accD2 accV2 zs2, Ext w4 (hide D H4) w2 H'' ∧ Wok T w2 H'' κ2 ∧ H'' D = some (.lst accV2) ∧ RVs T w2 accV2 accD2 ∧ D ∉ w2.θ ∧ w2.F D = none ∧ compLoop (stepC Γ tg2.ix tg2 ifs2 elt σ1) (xs.drop (i + 1)) κ2 = .ok (zs2, κ5) ∧ accD ++ zs = accD2 ++ zs2), fun H'' q => ⟨xs.length - (i + 1), by omega, rfl, by omega, q⟩, fun v H3 y => ?_⟩
      obtain ⟨w3, d, ed, x3, k3, rd⟩ := yld v H3 y
      rw [drop_at hlt ed] at ez
      simp only [compLoop] at ez
      obtain ⟨y1, ey1, ez⟩ := obind_ok ez
      obtain ⟨z1, ez1, ez⟩ := obind_ok ez
      simp only [Out.ok.injEq, Prod.mk.injEq] at ez
      obtain ⟨rfl, ez2⟩ := ez
      have ez1 : compLoop (stepC Γ tg2.ix tg2 ifs2 elt σ1) (xs.drop (i + 1)) y1.2 = .ok (z1.1, κ5) := by rw [← ez2]; exact ez1
      obtain ⟨σ', eσ, ey1⟩ := obind_ok ey1
      have eσ := opt_ok eσ
      obtain ⟨t, et, ey1⟩ := noexc_ok ey1
      have x13 := x2.trans x3
      refine ⟨w3, wipeS σ1 tg2.ix, κ2, d, σ', k3, (rs.ext x13).wiped _, rd, eσ, fun σ2V hf chg => ⟨wipe_back chg fun j hj => hj, ?_⟩⟩
      have hs2 := hf H3 ((rs.ext x13).wiped _)
      refine ⟨w3, σ', κ2, k3, hs2, post_ok et fun w5 H5 e5 k5 => ?_⟩
      have x35 := x3.trans e5
      have x15 := x13.trans e5
      have hD5 : H5 D = some (.lst accV2) := x35.keep D _ hDl nθ2
      have nθ5 : D ∉ w5.θ := x35.offθ hDl nθ2
      have nF5 : w5.F D = none := x35.offF hDl nF2 nθ2
      have rv5 := rv2.mono x35.le
      show if t.1 = true then _ else _
      cases ht : t.1 with
      | false =>
        rw [if_neg (by simp [ht])] at ey1
        cases ey1
        rw [if_neg (by simp)]
        exact ⟨w5, t.2, accD2, accV2, z1.1, x15, k5, hD5, rv5, nθ5, nF5, ez1, by simpa using eq⟩
      | true =>
        rw [if_pos ht] at ey1
        obtain ⟨y5, ey5, ey1⟩ := noexc_ok ey1
        obtain ⟨dy, edy, ey1⟩ := obind_ok ey1
        have edy := opt_ok edy
        cases ey1
        rw [if_pos rfl]
        refine ⟨w5, σ', t.2, k5, hs2.ext e5, post_ok ey5 fun w6 H6 e6 k6 v6 hv6 hb6 hy6 => ?_⟩
        obtain ⟨w7, k7, e7, l7, rv7⟩ := hv6.give k6 edy e6 (hy6 (frz_tag edy))
        have hD7 : H6 D = some (.lst accV2) := e7.keep D _ hD5 nθ5
        have nθ7 := e7.offθ hD5 nθ5
        have nF7 := e7.offF hD5 nF5 nθ5
        refine ⟨accV2, hD7, ?_, w7, y5.2, accD2 ++ [dy], accV2 ++ [v6], z1.1, (x15.trans e7).poke _ hide_self, k7.poke _ nθ7 nF7, upd_same, (rv5.mono e7.le).append (.one rv7), nθ7, nF7, ez1, by rw [eq]; simp⟩
        have h1 := rv2.length
        have h2 := congrArg List.length eq
        simp only [List.length_append, List.length_cons, List.length_nil] at h2
        omega
    · have e : (i = xs.length) := by omega
      subst e
      refine .inl ⟨stop, ?_⟩
      rw [List.drop_length] at ez
      cases ez
      rw [List.append_nil] at eq
      exact fin w2 H' accV2 (x14.trans x2) k2 hDl (by rw [eq]; exact rv2) nθ2 nF2
theorem comp2_sem {own : List Nat} {tg tg2 : Tg} {it ifs it2 ifs2 elt : E} {W : WX} (hin : tgIn own tg = true) : ∀ σV H Q, tE T Γ (.comp2 own tg it ifs tg2 it2 ifs2 elt) W σV H Q → tLc2 (tI T Γ it W) (gT2 T tg) (tIf T Γ ifs) (tI T Γ it2 W0) (gT2 T tg2) (tIf T Γ ifs2) (tE T Γ elt W0) own tg2.ix σV H Q := by
  intro σV H Q h
  obtain ⟨w, σ, κ, hw, hs, p⟩ := h
  unfold ev at p
  refine ⟨w, σ, κ, hw, hs, ?_⟩
  cases er : evIt Γ it σ κ with
  | bad => rw [er] at p; exact p
  | exc c fs k => rw [er] at p; exact p
  | ok r =>
    rw [er] at p
    intro w1 H1 e1 k1 J Keep hk wd la D hD
    obtain ⟨rr, er2, p2⟩ := (show Post T w H ((noexc (compLoop (stepC2 Γ own tg ifs tg2 it2 ifs2 elt σ) r.1.1 r.2)).bind _) _ _ from p).noexc
    have hlen : rr.1.length < sizeLine ∧ Post T w H (.ok (O.ol none rr.1, rr.2)) (fun c d H' => W c d σV H') (GE T H σV Q) := by
      by_cases z : rr.1.length < sizeLine
      · rw [if_pos z] at p2; exact ⟨z, p2⟩
      · rw [if_neg z] at p2; exact p2.elim
    obtain ⟨hlen, p3⟩ := hlen
    have hD0 : H D = none := e1.dom D hD
    refine ⟨fun i m H' => m = r.1.1.length - i ∧ i ≤ r.1.1.length ∧ ∃ w2 κ2 accD accV zs, Ext w1 H1 w2 H' ∧ Wok T w2 H' κ2 ∧ H' D = some (.lst accV) ∧ RVs T w2 accV accD ∧ D ∉ w2.θ ∧ w2.F D = none ∧ compLoop (stepC2 Γ own tg ifs tg2 it2 ifs2 elt σ) (r.1.1.drop i) κ2 = .ok (zs, rr.2) ∧ rr.1 = accD ++ zs, ⟨r.1.1.length, ?_⟩, ?_⟩
    · have z := k1.own (.lst []) hD
      exact ⟨by simp, Nat.zero_le _, w1, r.2, [], [], rr.1, z.2, z.1, upd_same, .nil, k1.offθ hD, k1.noF hD, by simpa using er2, rfl⟩
    · intro i m H' inv
      obtain ⟨rfl, hi, w2, κ2, accD, accV, zs, x2, k2, hDl, rv, nθ, nF, ez, eq⟩ := inv
      have hkeep := la.ext w2 H' x2 k2.le
      obtain ⟨walk, stop⟩ := wd w2 H' κ2 k2 hkeep
      by_cases hlt : i < r.1.1.length
      · obtain ⟨go, yld⟩ := walk i hlt
        refine .inr ⟨go, fun H'' => (∃ w2 κ2 accD accV zs, Ext w1 H1 w2 H'' ∧ Wok T w2 H'' κ2 ∧ H'' D = some (.lst accV) ∧ RVs T w2 accV accD ∧ D ∉ w2.θ ∧ w2.F D = none ∧ compLoop (stepC2 Γ own tg ifs tg2 it2 ifs2 elt σ) (r.1.1.drop (i + 1)) κ2 = .ok (zs, rr.2) ∧ rr.1 = accD ++ zs), fun H'' q => ⟨r.1.1.length - (i + 1), by omega, rfl, by omega, q⟩, fun v H3 y => ?_⟩
        obtain ⟨w3, d, ed, x3, k3, rd⟩ := yld v H3 y
        rw [drop_at hlt ed] at ez
        simp only [compLoop] at ez
        obtain ⟨y1, ey1, ez⟩ := obind_ok ez
        obtain ⟨z1, ez1, ez⟩ := obind_ok ez
        simp only [Out.ok.injEq, Prod.mk.injEq] at ez
        obtain ⟨rfl, ez2⟩ := ez
        have ez1 : compLoop (stepC2 Γ own tg ifs tg2 it2 ifs2 elt σ) (r.1.1.drop (i + 1)) y1.2 = .ok (z1.1, rr.2) := by rw [← ez2]; exact ez1
        obtain ⟨σ1, eσ, ey1⟩ := obind_ok ey1
        have eσ := opt_ok eσ
        obtain ⟨t, et, ey1⟩ := noexc_ok ey1
        have x13 := x2.trans x3
        refine ⟨w3, wipeS σ own, κ2, d, σ1, k3, ((hs.ext e1).ext x13).wiped own, rd, eσ, fun σ2V hf chg => ⟨wipe_back chg (tgIn_ix hin), ?_⟩⟩
        have hs2 := hf H3 (((hs.ext e1).ext x13).wiped own)
        have hs2h := hf (hide D H3) (((hs.ext e1).ext (x13.hideR hD)).wiped own)
        refine ⟨w3, σ1, κ2, k3, hs2, post_ok et fun w4 H4 e4 k4 => ?_⟩
        have x14 := x13.trans e4
        have hD4 : H4 D = some (.lst accV) := (x3.trans e4).keep D _ hDl nθ
        have nθ4 : D ∉ w4.θ := (x3.trans e4).offθ hDl nθ
        have nF4 : w4.F D = none := (x3.trans e4).offF hDl nF nθ
        have rv4 := rv.mono (x3.trans e4).le
        show if t.1 = true then _ else _
        cases ht : t.1 with
        | false =>
          rw [if_neg (by simp [ht])] at ey1
          cases ey1
          rw [if_neg (by simp)]
          exact ⟨w4, t.2, accD, accV, z1.1, x14, k4, hD4, rv4, nθ4, nF4, ez1, by simpa using eq⟩
        | true =>
          rw [if_pos ht] at ey1
          obtain ⟨r2, er5, ey1⟩ := noexc_ok ey1
          rw [if_pos rfl]
          refine ⟨w4, σ1, t.2, k4, hs2.ext e4, post_ok er5 fun w5 H5 e5 k5 J1 Keep1 hk1 wd1 la1 => ?_⟩
          have x35 := (x3.trans e4).trans e5
          have x45 := e4.trans e5
          have h2 := congrArg List.length eq
          simp only [List.length_append] at h2
          have hl : accV.length = accD.length := rv.length
          refine inner_sem (w1 := w1) (H1 := H1) (κ5 := y1.2) (zs := y1.1) (accD := accD) (hs2h.ext (x45.hideL.hideR hide_self)) k5 (x35.keep D _ hDl nθ) (rv.mono x35.le) (x35.offθ hDl nθ) (x35.offF hDl nF nθ) hk1 wd1 la1 (it_src er5) (by omega) ((x14.trans e5).hideR hD) ey1 fun w6 H6 accV6 x6 k6 hD6 rv6 nθ6 nF6 => ?_
          exact ⟨w6, y1.2, accD ++ y1.1, accV6, z1.1, x6, k6, hD6, rv6, nθ6, nF6, ez1, by rw [eq]; simp⟩
      · have e : i = r.1.1.length := by omega
        subst e
        refine .inl ⟨stop, ?_⟩
        rw [List.drop_length] at ez
        cases ez
        rw [List.append_nil] at eq
        rw [eq] at p3
        exact GE.own (p3 w2 H' (e1.trans x2) k2) hDl rv nθ nF hD0
theorem pe_comp2_ok {own : List Nat} {tg tg2 : Tg} {it ifs it2 ifs2 elt : E} (hit : PIok T S Γ N n it) (hif : PFok T S Γ N n ifs) (hit2 : PIok T S Γ N n it2) (hif2 : PFok T S Γ N n ifs2) (hel : PEok T S Γ N n elt) : PEok T S Γ N n (.comp2 own tg it ifs tg2 it2 ifs2 elt) := by
  intro sc x X W q g tk
  cases x <;> try (simp [isE] at q; done)
  rename_i x gens scope pos
  match gens, q with
  | [⟨t, i, is, asy⟩, ⟨t2, i2, is2, asy2⟩], q =>
    by_cases hz : asy = 0
    case neg => simp [isE, hz] at q
    by_cases hz2 : asy2 = 0
    case neg => simp [isE, hz2] at q
    subst hz hz2
    simp only [isE, Bool.and_eq_true, decide_eq_true_eq] at q
    obtain ⟨⟨⟨⟨⟨⟨⟨⟨⟨⟨⟨⟨⟨⟨q1, q2⟩, q3⟩, q4⟩, q5⟩, q6⟩, q7⟩, q8⟩, q9⟩, q10⟩, q11⟩, q12⟩, q13⟩, q14⟩, q15⟩ := q
    have ok : BlkOk X.N X.env.scope scope (ownN N own) := by rw [g.hN, g.hsc]; exact blkOk_by q1
    have hl := pe_lc2 (wi := tI T Γ it W) (g := gT2 T tg) (tt := tIf T Γ ifs) (wi1 := tI T Γ it2 W0) (g1 := gT2 T tg2) (tt1 := tIf T Γ ifs2) (te := tE T Γ elt W0) (vs1 := tg2.ix) (pos := pos) g.calm (by rw [g.hN]; exact g.nd) (hit sc t i X W q4 q6 g tk) ok (by rw [q2]; exact tgIn_ix q13)
      (fun s H C cl fp => pg_ok2 q3 ⟨g.hN, g.nd, (g.blk s H scope C cl fp).hsc, fn_blk⟩ g.hK g.calm) (fun s H C cl fp => hif _ is _ q8 (g.blk s H scope C cl fp))
      (fun s H C cl fp => hit2 _ t2 i2 _ W0 q10 q12 (g.blk s H scope C cl fp) takes0)
      (fun s H C cl fp => pg_ok2 q9 ⟨g.hN, g.nd, (g.blk s H scope C cl fp).hsc, fn_blk⟩ g.hK g.calm) (fun s H C cl fp => hif2 _ is2 _ q14 (g.blk s H scope C cl fp))
      (fun s H C cl fp => hel _ x _ W0 q15 (g.blk s H scope C cl fp) takes0) (folded_of q4 q5 X.env) (fun env x => folded_of q10 q11 env x)
    rw [q2] at hl
    exact peI hl (comp2_sem q7)
  | [], q => simp [isE] at q
  | [_], q => simp [isE] at q
  | _ :: _ :: _ :: _, q => simp [isE] at q
end
end R

/-! RT: a tuple turned round, t[::-1]. -/
namespace R
open L2 PyProof.Rows PySem.Spec PySem
theorem rev_picks (xs : Array Value) : ∀ k : Nat, k ≤ xs.size → ((List.range k).filterMap fun (m : Nat) => xs[((xs.size : Int) - 1 + (m : Int) * (-1)).toNat]?) = (xs.toList.reverse).take k := by
  intro k
  induction k with
  | zero => intro _; simp
  | succ k ih =>
    intro hk
    rw [List.range_succ, List.filterMap_append, ih (by omega), List.take_succ]
    congr 1
    have e : ((xs.size : Int) - 1 + ((k : Nat) : Int) * (-1)).toNat = xs.size - 1 - k := by omega
    simp only [List.filterMap_cons, List.filterMap_nil, e]
    rw [List.getElem?_reverse (by simpa using (show k < xs.size by omega)), Array.length_toList, Array.getElem?_toList]
    have hl : xs.size - 1 - k < xs.size := by omega
    rw [Array.getElem?_eq_getElem hl]
    rfl
section
variable {prog : Program}
variable {w : World} {A : Around} {E : Value → Shared → Prop} {s : Shared}
theorem revApplied {sl : Addr} {vk : Value} {n : Nat} {Q : Int × Int × Nat → Shared → Prop} (hs : s.heap.IsSliceOf sl .none .none vk) (pk : IsPart vk (some (-1)))
    (h : Q ((n : Int) - 1, -1, n) s) : wpAny (model prog w) A (Builtin.Slice.sliceApplied (.ref sl) (pure (n : Int))) Q E s := by
  obtain ⟨os, ho, hc, hd⟩ := id hs
  unfold Builtin.Slice.sliceApplied; unfold Builtin.Slice.sliceFields
  refine wpAny_bind (wpAny_bind (wpAny_field ho hd (x := .none) rfl (wpAny_bind (wpAny_field ho hd (x := .none) rfl (wpAny_bind (wpAny_field ho hd (x := vk) rfl (wpAny_pure ?_)))))))
  refine wpAny_bind (HT.slicePart_ pk ?_)
  show wpAny _ _ (if ((-1 : Int) == 0) = true then _ else _) _ _ s
  rw [if_neg (by decide)]
  refine wpAny_bind (slicePart_none (wpAny_bind (slicePart_none (wpAny_bind (wpAny_pure ?_)))))
  show wpAny _ _ (match Builtin.Slice.sliceAdjust none none (-1) (n : Int) with | (lo, hi) => pure (lo, (-1 : Int), Builtin.Slice.slicePlaces lo hi (-1))) _ _ s
  have e : Builtin.Slice.sliceAdjust none none (-1) (n : Int) = ((n : Int) - 1, -1) := rfl
  rw [e]
  have e2 : Builtin.Slice.slicePlaces ((n : Int) - 1) (-1) (-1) = n := by
    delta Builtin.Slice.slicePlaces
    rw [if_neg (by decide)]
    by_cases hn : n = 0
    · subst hn; rfl
    · rw [if_pos (by omega)]
      have : ((n : Int) - 1 - -1 - 1) / -(-1) + 1 = n := by
        rw [Int.neg_neg, Int.ediv_one]; omega
      rw [this]
      rfl
  show wpAny _ _ (pure ((n : Int) - 1, (-1 : Int), Builtin.Slice.slicePlaces ((n : Int) - 1) (-1) (-1))) _ _ s
  rw [e2]
  exact wpAny_pure h
theorem item_rev {t sl : Addr} {its : Array Value} {vk : Value} {Q : Value → Shared → Prop} (ht : IsTup s.heap t its) (hs : s.heap.IsSliceOf sl .none .none vk) (pk : IsPart vk (some (-1)))
    (h : Q (.ref s.heap.objs.size) { s with heap := s.heap.push { cls := .type "tuple", data := .seq its.toList.reverse.toArray } }) (hz : its.size ≤ sizeLine) : wpAny (model prog w) A (getItem (.ref t) (.ref sl)) Q E s := by
  have hk : sizeOk (.seq its.toList.reverse.toArray) := by
    show its.toList.reverse.toArray.size ≤ sizeLine
    simpa using hz
  obtain ⟨os, hos, hcs, hds⟩ := (id hs)
  have hty : s.TypeIs (.ref sl) "slice" := ⟨os, hos, hcs⟩
  unfold getItem
  refine wpAny_holding (wpAny_bind (wpAny_sequenceKey ht.typeIs (by decide) ?_))
  refine wpAny_bind (wpAny_callSpecial?_slot (name := Str.ofString "__getitem__") ht.typeIs slot_tuple_getitem (wpAny_call_entry slot_tuple_getitem ht.typeIs entry_tuple_getitem ?_ (args_tuple_getitem _ _)))
  show (wpAny _ _ (Builtin.Tuple.tupleItemsOf (.ref t) >>= _) _ _ s)
  refine wpAny_bind (tupleItemsOf_ ht (wpAny_bind (wpAny_typeOf hty ?_)))
  rw [if_pos (by decide)]
  refine wpAny_bind (revApplied (n := its.size) hs pk ?_)
  have no : ¬ ((((its.size : Int) - 1 == 0) && (-1 : Int) == 1 && its.size == its.size) = true) := by
    intro q
    rw [(Bool.and_eq_true), Bool.and_eq_true] at q
    exact absurd (eq_of_beq q.1.2) (by decide)
  show wpAny _ _ (if (((its.size : Int) - 1 == 0) && (-1 : Int) == 1 && its.size == its.size) = true then _ else _) _ _ s
  rw [if_neg no, rev_picks its its.size (Nat.le_refl _), List.take_of_length_le (by simp)]
  first
    | exact wpAny_bind (m := Builtin.Tuple.tupleExact _) (wpAny_newObj_type (wpAny_pure ⟨_, rfl, wpAny_pure h⟩) hk)
    | exact wpAny_bind (wpAny_bind (m := Builtin.Tuple.tupleExact _) (wpAny_newObj_type (wpAny_pure ⟨_, rfl, wpAny_pure h⟩) hk))
    | exact wpAny_bind (m := Builtin.Tuple.tupleExact _) (wpAny_newObj_type (wpAny_bind (wpAny_pure (wpAny_pure ⟨_, rfl, wpAny_pure h⟩))) hk)
    | exact wpAny_bind (wpAny_bind (m := Builtin.Tuple.tupleExact _) (wpAny_newObj_type (wpAny_pure (wpAny_pure ⟨_, rfl, wpAny_pure h⟩)) hk))
end
def tRevT (K : PySem.W.Frag) (te : TE) : TE := fun σ H Q => te σ H fun x H1 => ∃ a xs k, x = .ref a ∧ SqA k K H1 a xs ∧ ∀ p, H1 p = none → Q (.ref p) (upd H1 p (match k with | true => .lst xs.reverse | false => .tup xs.reverse))
/-- e[::-1], a list's or a tuple's -/
theorem pe_revA {X : Cx} {e : Expr} {te : TE} {k : Nat} {p1 p2 p3 pos : Pos} (he : PE X e te) : PE X (.Subscript e (.Slice none none (some (.UnaryOp .USub (.Constant (.int 1) k p1) p2)) p3) pos) (tRevT X.K te) := by
  refine ⟨fun pins s σ H Q I h => Subscript_ (thn (he.run pins s σ H _ I h) fun v s1 ⟨x, H1, I1, r1, q1⟩ => ?_)⟩
  obtain ⟨a, xs, kk, rfl, hx, q⟩ := q1
  cases r1
  have step : PO X (some (.UnaryOp .USub (.Constant (.int 1) k p1) p2)) (tPart (tUn (rU fun i => .int (-i)) (tC (.int 1)))) := po_some (pe_un un_neg pe_int)
  refine wpAny_Slice (thn (po_none.run pins s1 σ H1 (fun o G => o = none ∧ G = H1) I1 ⟨rfl, rfl⟩) fun vl s2 ⟨l, H2, I2, pl, el, e2⟩ => ?_)
  subst el e2
  refine thn (po_none.run pins s2 σ H2 (fun o G => o = none ∧ G = H2) I2 ⟨rfl, rfl⟩) fun vu s3 ⟨u, H3, I3, pu, eu, e3⟩ => ?_
  subst eu e3
  refine thn (step.run pins s3 σ H3 (fun o G => o = some (-1) ∧ G = H3) I3 ⟨1, rfl, -1, rfl, rfl, rfl⟩) fun vs s4 ⟨o, H4, I4, ps, eo, e4⟩ => ?_
  subst eo e4
  have I5 : Inv X pins σ H4 { s4 with heap := s4.heap.push { cls := .type "slice", data := .fields #[vl, vu, vs] } } := I4.kept (t' := s4.toks) fun b u z => Heap.get?_push_of_some _ z
  show wpAny (model X.prog X.w) X.A (subscriptTail e (.Slice none none (some (.UnaryOp .USub (.Constant (.int 1) k p1) p2)) p3) (.ref a) (.ref s4.heap.objs.size)) (EP X pins σ Q) X.xe _
  cases kk with
  | true =>
    obtain ⟨its, r, ht, hz⟩ := (I5.list hx)
    have hlen := r.length
    refine (tail_any (ops := [.ref a, .ref s4.heap.objs.size]) ht.isList.typeIs (PySem.slot_list_getitem.lookup) ?_ (by with_unfolding_all rfl))
    refine (wpAny_getItem_list_slice ht.isList (Heap.IsSliceOf.new _ vl vu vs) pl pu ps (by decide) ?_ (by rw [List.size_toArray]; omega))
    rw [PySem.W.krv_pick]
    refine ⟨.ref _, _, I5.laid (t' := s4.toks) (o := .lst xs.reverse) (fun b u z => Heap.get?_push_of_some _ z) (Nat.le_refl _) ?_, rfl, q _ (I5.hok.fresh (Nat.le_refl _))⟩
    exact (⟨by rw [List.length_reverse]; exact hz, _, 0, r.reverse, Heap.get?_push_size _ rfl⟩)
  | false =>
    obtain ⟨its, r, ht, hz⟩ := I5.tuple hx
    have hlen := r.length
    cases pl
    cases pu
    refine tail_any (ops := [.ref a, .ref s4.heap.objs.size]) ht.typeIs (PyProof.Rows.slot_tuple_getitem.lookup) ?_ (by with_unfolding_all rfl)
    refine item_rev ht (Heap.IsSliceOf.new _ _ _ vs) ps ?_ (by rw [List.size_toArray]; omega)
    refine ⟨.ref _, _, I5.laid (t' := s4.toks) (o := .tup xs.reverse) (fun b u z => Heap.get?_push_of_some _ z) (Nat.le_refl _) ?_, rfl, q _ (I5.hok.fresh (Nat.le_refl _))⟩
    exact ⟨by rw [List.length_reverse]; exact hz, _, r.reverse, IsTup.new _ _⟩
end R

/-! R15: fields, isinstance, own calls, making. -/
namespace R
open L2 PyProof.Rows PySem.Spec PySem
section
variable {T : Tb} {S : Sg} {Γ : Cxt} {N : List Str} {n : Nat}
theorem pe_rev_ok {a : E} (ha : PEok T S Γ N n a) : PEok T S Γ N n (.rev a) := by
  intro sc x X W q g tk
  cases x <;> try (simp [isE] at q; done)
  rename_i y sl pos
  cases sl <;> try (simp [isE] at q; done)
  rename_i l u st p2
  cases l <;> try (simp [isE] at q; done)
  cases u <;> try (simp [isE] at q; done)
  cases st <;> try (simp [isE] at q; done)
  rename_i st
  cases st <;> try (simp [isE] at q; done)
  rename_i op z p3
  cases op <;> try (simp [isE] at q; done)
  cases z <;> try (simp [isE] at q; done)
  rename_i c kk p4
  cases c <;> try (simp [isE] at q; done)
  rename_i i
  by_cases hi : i = 1
  case neg => simp [isE, hi] at q
  subst hi
  simp only [isE] at q
  refine peI (pe_revA (ha sc _ X W q g tk)) fun σV H Q h => ?_
  obtain ⟨w, σ, κ, hw, hs, p⟩ := h
  unfold ev at p
  refine tE_bind hw hs p fun r w1 H1 v er e k hs1 hv hb hy p => ?_
  obtain ⟨o, eo, p2⟩ := p.opt
  generalize ed : r.1.d = dx at eo
  unfold revD at eo
  rw [g.hK]
  split at eo
  · cases eo
    obtain ⟨a', vs, rfl, qt, rv⟩ := rd_tup hv k ed
    refine ⟨a', vs, false, rfl, qt, fun p hp => ?_⟩
    have z := k.laid (.tup vs.reverse) hp
    exact GE.fz (p2 _ _ (e.trans z.2) z.1) (.tup (.inl (.inl (by show upd _ _ _ _ = _; exact upd_same))) (rv.reverse.mono (le_put _ (k.noF hp))))
  · cases eo
    obtain ⟨a', vs, rfl, qt, rv⟩ := rd_lst hv k ed
    refine ⟨a', vs, true, rfl, SqL.of qt, fun p hp => ?_⟩
    have z := k.own (.lst vs.reverse) hp
    exact GE.own (p2 _ _ (e.trans z.2) z.1) upd_same rv.reverse (k.offθ hp) (k.noF hp) (e.dom p hp)
  · cases eo
/-! ### fields -/
theorem look_zip {α : Type} {f : Str} : ∀ {nms : List Str} {vs : List α} {j : Nat} {v : α}, nms.Nodup → nms[j]? = some f → vs[j]? = some v → (nms.zip vs).lookup f = some v
  | [], _, _, _, _, h, _ => by (simp at h)
  | _ :: _, [], _, _, _, _, h => by (simp at h)
  | a :: nms, b :: vs, 0, v, nd, h, k => by
    simp at h k
    subst h k
    simp [List.lookup]
  | a :: nms, b :: vs, j + 1, v, nd, h, k => by
    have h' : nms[j]? = some f := by simpa using h
    have k' : vs[j]? = some v := by simpa using k
    obtain ⟨n1, n2⟩ := (List.nodup_cons.mp nd)
    have ne : f ≠ a := fun z => n1 (by rw [← z]; exact List.mem_of_getElem? h')
    rw [List.zip_cons_cons, List.lookup_cons]
    rw [show (f == a) = false from by simpa using ne]
    exact look_zip n2 h' k'
theorem lookup_mem {c j : Nat} : ∀ {m : List (Nat × Nat)}, m.lookup c = some j → (c, j) ∈ m
  | [], h => by simp at h
  | (a, b) :: m, h => by
    rw [List.lookup_cons] at h
    cases e : (c == a) with
    | true =>
      rw [e] at h
      have e := eq_of_beq e
      simp only [Option.some.injEq, id] at h
      subst e h
      exact List.mem_cons_self
    | false => rw [e] at h; exact List.mem_cons_of_mem _ (lookup_mem h)
theorem base_of {x : Expr} (h : notCall x = true) (f : Str) (env : Env) : attributeBase x f env (eval x env) = eval x env := by
  cases x <;> first | rfl | cases h
theorem pe_fld_ok {a : E} {m : List (Nat × Nat)} (ha : PEok T S Γ N n a) : PEok T S Γ N n (.fld a m) := by
  intro sc x X W q g tk
  cases x <;> try (simp [isE] at q; done)
  rename_i y f pos
  simp only [isE, Bool.and_eq_true, List.all_eq_true] at q
  obtain ⟨⟨q1, q2⟩, q3⟩ := q
  refine peI (pe_fld (ha sc y X W q1 g tk) (base_of q2 f X.env)) fun σV H Q h => ?_
  obtain ⟨w, σ, κ, hw, hs, p⟩ := h
  unfold ev at p
  refine tE_bind hw hs p fun r w1 H1 v er e k hs1 hv hb hy p => ?_
  have p := p.step e
  generalize ed : r.1.d = dx at p
  cases dx with
  | ins c fs =>
    obtain ⟨d, ed2, p2⟩ := (show Post T w1 H1 ((opt ((m.lookup c).bind fun j => fs[j]?)).bind fun d => _) _ _ from p).opt
    rw [Option.bind_eq_some_iff] at ed2
    obtain ⟨j, ej, efs⟩ := ed2
    have hv : RV T w1 v (.ins c fs) := rd_fz hv ed (by cases ho : r.1 <;> simp_all [O.d, O.place])
    cases hv with
    | @ins a' _ C dx nms vs _ hc hF hl rs =>
      obtain ⟨ok, ⟨xn, hx, _⟩, nd, na⟩ := g.ins c C nms hc
      obtain ⟨u, eu, ru⟩ := rs.get efs
      have q4 := q3 (c, j) (lookup_mem ej)
      simp only [hx, decide_eq_true_eq] at q4
      rw [g.hK]
      exact ⟨a', C, dx, _, u, rfl, k.le _ _ hF, ok.cl, na f (List.mem_of_getElem? q4), look_zip nd q4 eu, GE.fz (p2.ok k) ru⟩
  | _ => exact p.elim
/-! ### isinstance -/
theorem pe_bty {X : Cx} {x : Str} {ty : String} {pos : Pos} (hg : Gl X x) (hm : X.mg x = none) (hv : bootBuiltins x = some (.type ty)) (hn : x ≠ "__name__") (hd : (x == ("__debug__" : Str)) = false) : PE X (.Name x pos) (tC (.ty ty)) :=
  ⟨fun pins s σ H Q I h => ld_blt I hg hm hv ⟨.ty ty, H, I, rfl, h⟩ hn hd⟩
/-- the type's name; the object of an own class -/
def tyV (T : Tb) : Ty → Option V
  | .int => some (.ty "int") | .bool => some (.ty "bool") | .str => some (.ty "str") | .tuple => some (.ty "tuple") | .list => some (.ty "list")
  | .cls c => (T.ins c).map fun p => .ref p.1
theorem pe_ty {sc : Scope} {X : Cx} {ty : Ty} {x : Str} {pos : Pos} (g : XG T S Γ N n sc X) (h : ty.okB S x = true) (hg : glB sc x = true) (hd : notDbg x = true) : ∃ v, tyV T ty = some v ∧ PE X (.Name x pos) (tC v) := by
  have hgl := gl_of hg g.hsc
  cases ty <;> simp only [Ty.okB, decide_eq_true_eq] at h
  · subst h; exact ⟨_, rfl, pe_bty hgl (g.bi_of _) (by decide +kernel) (by decide) (by decide)⟩
  · subst h; exact ⟨_, rfl, pe_bty hgl (g.bi_of _) (by decide +kernel) (by decide) (by decide)⟩
  · subst h; exact ⟨_, rfl, pe_bty hgl (g.bi_of _) (by decide +kernel) (by decide) (by decide)⟩
  · subst h; exact ⟨_, rfl, pe_bty hgl (g.bi_of _) (by decide +kernel) (by decide) (by decide)⟩
  · subst h; exact ⟨_, rfl, pe_bty hgl (g.bi_of _) (by decide +kernel) (by decide) (by decide)⟩
  · rename_i c
    cases ec : S.cls[c]? with
    | none => rw [ec] at h; cases h
    | some p =>
      rw [ec] at h
      simp only [decide_eq_true_eq, Bool.and_eq_true] at h
      obtain ⟨C, nms, hc⟩ := g.insAll c h.2
      obtain ⟨_, ⟨xn, hx, hm⟩, _⟩ := g.ins c C nms hc
      rw [ec] at hx
      cases hx
      simp only at h
      rw [h.1] at hm
      exact ⟨.ref C, by simp [tyV, hc], pe_glob hgl hm rfl (dbg_of hd).1⟩
/-- the built-in types' own table -/
theorem kit_tab {K : PySem.W.Frag} : PySem.W.kitOne K (.type "NoneType") (.type "int") = some false := kit_ty (by decide +kernel)
theorem isi_D {sc : Scope} {X : Cx} {w : Wd} {H : Hp} {κ : Cells} {v vt : V} {d : D} {ty : Ty} (g : XG T S Γ N n sc X) (k : Wok T w H κ) {o : O} (hv : RO T w H v o) (ed : o.d = d) (ht : hasTy d = true) (hty : tyV T ty = some vt) :
    ∃ (t u : Value), ClsV vt u ∧ TyX T.K H v t ∧ PySem.W.kitOne T.K t u = some (isTy d ty) := by
  have ok : ∀ c C nms, T.ins c = some (C, nms) → InsOk T.K C := fun c C nms h => (g.ins c C nms h).1
  have base : ∀ (t : String), t ∈ (["NoneType", "int", "bool", "str", "tuple", "list"] : List String) → TyX T.K H v (.type t) → (∀ u, tyV T ty = some (.ty u) → kitB t u = some (isTy d ty)) → (∀ c, ty = .cls c → isTy d ty = false) → ∃ (t u : Value), ClsV vt u ∧ TyX T.K H v t ∧ PySem.W.kitOne T.K t u = some (isTy d ty) := fun t hm hx h1 h2 => by
    cases ty with
    | cls c =>
      simp only [tyV, Option.map_eq_some_iff] at hty
      obtain ⟨⟨C, nms⟩, hc, rfl⟩ := hty
      exact ⟨_, _, .own C, hx, by rw [h2 c rfl]; exact (ok c C nms hc).of t hm⟩
    | _ => cases hty; exact ⟨_, _, .ty _, hx, kit_ty (h1 _ rfl)⟩
  have fz : o.place = false → RV T w v d := rd_fz hv ed
  cases d with
  | non =>
    have hv := fz (by cases o <;> simp_all [O.d, O.place])
    cases hv
    exact base "NoneType" (by decide) (.base .non) (fun u e => by cases ty <;> simp [tyV] at e <;> subst e <;> first | exact (show kitB _ _ = some false by decide +kernel) | exact (show kitB _ _ = some true by decide +kernel)) fun c e => rfl
  | bl b =>
    have hv := fz (by cases o <;> simp_all [O.d, O.place])
    cases hv
    exact base "bool" (by decide) (.base (.bl b)) (fun u e => by cases ty <;> simp [tyV] at e <;> subst e <;> first | exact (show kitB _ _ = some false by decide +kernel) | exact (show kitB _ _ = some true by decide +kernel)) fun c e => by subst e; rfl
  | int i =>
    have hv := fz (by cases o <;> simp_all [O.d, O.place])
    cases hv
    exact base "int" (by decide) (.base (.int i)) (fun u e => by cases ty <;> simp [tyV] at e <;> subst e <;> first | exact (show kitB _ _ = some false by decide +kernel) | exact (show kitB _ _ = some true by decide +kernel)) fun c e => by subst e; rfl
  | str x =>
    have hv := fz (by cases o <;> simp_all [O.d, O.place])
    cases hv
    exact base "str" (by decide) (.base (.str x)) (fun u e => by cases ty <;> simp [tyV] at e <;> subst e <;> first | exact (show kitB _ _ = some false by decide +kernel) | exact (show kitB _ _ = some true by decide +kernel)) fun c e => by subst e; rfl
  | tup xs =>
    obtain ⟨a, vs, rfl, qt, _⟩ := rd_tup hv k ed
    have hx : TyX T.K H (.ref a) (.type "tuple") := by
      rcases qt with (h | ⟨o, h⟩) | ⟨o, its, m, h, c, _⟩
      · exact .base (.tup h)
      · exact .fTuple h
      · exact .kTuple h c
    exact base "tuple" (by decide) hx (fun u e => by cases ty <;> simp [tyV] at e <;> subst e <;> first | exact (show kitB _ _ = some false by decide +kernel) | exact (show kitB _ _ = some true by decide +kernel)) fun c e => by subst e; rfl
  | lst xs =>
    obtain ⟨a, vs, rfl, qt, _⟩ := rd_lst hv k ed
    exact base "list" (by decide) (.base (.lst qt)) (fun u e => by cases ty <;> simp [tyV] at e <;> subst e <;> first | exact (show kitB _ _ = some false by decide +kernel) | exact (show kitB _ _ = some true by decide +kernel)) fun c e => by subst e; rfl
  | ins c fs =>
    have hv := fz (by cases o <;> simp_all [O.d, O.place])
    cases hv with
    | @ins a _ C dx nms vs _ hc hF hl rs =>
      have kk := ok c C nms hc
      have hx : TyX T.K H (.ref a) (.ref C) := .base (.ins (k.le _ _ hF) kk.cl kk.ha kk.hn kk.htk kk.hm)
      cases ty with
      | cls c' =>
        simp only [tyV, Option.map_eq_some_iff] at hty
        obtain ⟨⟨C', nms'⟩, hc', rfl⟩ := hty
        refine ⟨_, _, .own C', hx, ?_⟩
        by_cases hcc : c = c'
        · subst hcc
          rw [hc] at hc'
          cases hc'
          rw [kk.self]
          simp [isTy]
        · rw [g.ins2 c c' C C' nms nms' hcc hc hc']
          simp [isTy, hcc]
      | _ => cases hty; exact ⟨_, _, .ty _, hx, kk.to _ (by decide)⟩
  | _ => cases ht
theorem pe_isi_ok {a : E} {tys : List Ty} {many : Bool} (ha : PEok T S Γ N n a) : PEok T S Γ N n (.isi a tys many) := by
  intro sc x X W q g tk
  cases x <;> try (simp [isE] at q; done)
  rename_i fn args kws pos
  cases fn <;> try (simp [isE] at q; done)
  rename_i nm np
  match args, kws, q with
  | [y, t], [], q =>
    simp only [isE, Bool.and_eq_true, decide_eq_true_eq] at q
    obtain ⟨⟨⟨rfl, q1⟩, q2⟩, q3⟩ := q
    cases many with
    | true => cases t <;> simp [tysOne] at q3
    | false =>
      cases t <;> try (simp [tysOne] at q3; done)
      rename_i tn tp
      simp only [tysOne, Bool.and_eq_true, beq_iff_eq] at q3
      obtain ⟨q3, q4⟩ := q3
      match tys, q3 with
      | [ty], _ =>
        simp only [tysB, Bool.and_eq_true, Bool.and_true] at q4
        obtain ⟨⟨h1, h2⟩, h3⟩ := q4
        obtain ⟨vt, hvt, hpt⟩ := pe_ty (pos := tp) g h1 h2 h3
        refine peI (pe_callB call_isi (gl_of q1 g.hsc) (g.bi_of _) (by decide +kernel) (pa_cons (ha sc y X W q2 g tk) (pa_cons hpt pa_nil rfl) (notStar q2 X.env _)) (by decide) (by decide) (notStar q2 X.env _) rfl) fun σV H Q h => ?_
        obtain ⟨w, σ, κ, hw, hs, p⟩ := h
        unfold ev at p
        refine tE_bind hw hs p fun r w1 H1 v er e k hs1 hv hb hy p => ?_
        have p := p.step e
        by_cases ht : hasTy r.1.d = true
        · rw [if_pos ht] at p
          obtain ⟨t, u, c1, c2, c3⟩ := isi_D g k hv rfl ht hvt
          have z : ([ty].any (isTy r.1.d)) = isTy r.1.d ty := by simp
          rw [z] at p
          exact ⟨v, vt, t, u, _, rfl, c1, by rw [g.hK]; exact c2, by rw [g.hK]; exact c3, GE.fz (p.ok k) (.bl _)⟩
        · rw [if_neg ht] at p; exact p.elim
  | [], _, q => simp [isE] at q
  | [_], _, q => simp [isE] at q
  | _ :: _ :: _ :: _, _, q => simp [isE] at q
  | [_, _], _ :: _, q => simp [isE] at q
end
end R

/-! R16: own calls, making. -/
namespace R
open L2 PyProof.Rows PySem.Spec PySem
section
variable {X : Cx} {k : Nat} {f C : Addr} {fd : FuncData} {ps : List Str} {sp : Sp} {W : WX} {pins : List (Addr × Obj)} {σ : L2.St} {H : Hp} {s : Shared} {Q : VK} {us : List Value} {vs : List V}
/-- the callee runs -/
theorem run_G (F : FnG X.prog X.w X.K X.mg X.base k f fd ps sp) (hr : Room k X.A) (hgd : X.A.guards = some []) (hb : Binds X.K fd ps []) (tk : Takes X W) (I : Inv X pins σ H s) (r : Vals vs us) (h : sp vs H Q (fun c d H' => W c d σ H')) :
    (wpAny (model X.prog X.w) X.A (call (.ref f) us) (EP X pins σ Q) X.xe s) := by
  have hl : (us.length = ps.length) := by rw [← r.length]; exact F.len _ _ _ _ h
  have hb' := hb s us I.kIn (by rw [List.append_nil]; exact hl)
  rw [List.append_nil] at hb'
  refine wpAny_call (codeAny_mono (F.run X.A X.stack s H ⟨us, []⟩ us vs Q _ hr hgd I.env0 hb' r h) fun z s' hq => ?_)
  cases z with
  | error e => exact tk e s' (XE.of_call I (fun _ _ _ h => h) hq)
  | ok fl =>
    cases fl with
    | ret u => exact I.after hq
    | next => exact hq.elim
    | brk => exact hq.elim
    | cont => exact hq.elim
def tCallG (sp : Sp) (W : WX) (t : TA) : TE := fun σ H Q => t σ H fun vs H1 => sp vs H1 Q (fun c d H' => W c d σ H')
theorem pe_callG {S : Sg} {N : List Str} {es : E} {sc : Scope} {x : Str} {p pos : Pos} {xs : List Expr} {t : TA} (F : FnG X.prog X.w X.K X.mg X.base k f fd ps sp) (hr : Room k X.A) (hgd : X.A.guards = some []) (hg : Gl X x) (hm : X.mg x = some (.ref f)) (hk : PySem.W.keepIn X.K (.ref f) = true) (hb : Binds X.K fd ps [])
    (tk : Takes X W) (ha : PA X xs t) (hs : ∀ env y ys, xs = y :: ys → starEach xs env = (false, eval y env) :: starEach ys env ∧ (backTo pos (starEach ys env)).any (·.1) = false) (hdb : (x == ("__debug__" : Str)) = false) (h0 : ∀ σ H Q, xs = [] → t σ H Q → Q [] H) :
    PE X (.Call (.Name x p) xs [] pos) (tCallG sp W t) := by
  refine (⟨fun pins s σ H Q I h => ?_⟩)
  refine (wpAny_Call_Name_kw (ld_glob I hg hm ?_ hdb))
  cases xs with
  | nil => exact PySem.W.callWith_K0 I.kIn hk (run_G (us := []) F hr hgd hb tk I .nil (h0 _ _ _ rfl h))
  | cons y ys =>
    obtain ⟨h1, h2⟩ := hs X.env y ys rfl
    exact PySem.W.callWith_K (h₀ := X.base) I.ok.mod.kin hk (thn (ha.run pos pins s σ H _ I h) fun us s1 ⟨vs, H1, I1, r, q⟩ => ⟨I1.kIn, run_G F hr hgd hb tk I1 r q⟩) h1 h2
theorem run_mkG (M : Mk X.K C f) (F : FnG X.prog X.w X.K X.mg X.base 1 f fd ps sp) (hr : Room 2 X.A) (hgd : X.A.guards = some []) (hb : Binds X.K fd ps []) (tk : Takes X W) (I : Inv X pins σ H s) (r : Vals vs us)
    (h : ∀ x dx, H x = none → H dx = none → dx ≠ x → sp (.ref x :: vs) (upd (upd H dx (.own x)) x (.ins C dx [])) (fun v H2 => v = .non ∧ Q (.ref x) H2) (fun c d H' => W c d σ H')) :
    (wpAny (model X.prog X.w) X.A (call (.ref C) us) (EP X pins σ Q) X.xe s) := by
  have hq := (h (s.heap.objs.size + 1) s.heap.objs.size (I.hok.fresh (Nat.le_succ _)) (I.hok.fresh (Nat.le_refl _)) (Nat.ne_of_lt (Nat.lt_succ_self _)))
  have I2 := (Inv.made (C := C) I)
  have r2 : Vals (V.ref (s.heap.objs.size + 1) :: vs) (Value.ref (s.heap.objs.size + 1) :: us) := (.cons rfl r)
  have hl : (Value.ref (s.heap.objs.size + 1) :: us).length = ps.length := by rw [← r2.length]; exact F.len _ _ _ _ hq
  have hb' := hb _ (Value.ref (s.heap.objs.size + 1) :: us) I2.kIn (by rw [List.append_nil]; exact hl)
  rw [List.append_nil] at hb'
  refine wpAny_call (make_map (f := f) I.kIn M.makes M.init (beq_iff_eq.mp M.fn) (codeAny_mono (F.run _ X.stack _ _ ⟨Value.ref (s.heap.objs.size + 1) :: us, []⟩ (Value.ref (s.heap.objs.size + 1) :: us) _ _ _ (hr.make C us [])
    (by exact hgd) (I2.env0.make C us []) hb' r2 hq) fun z s' hq' => ?_))
  cases z with
  | error e => exact tk e s' (XE.of_call I2 (fun _ _ _ h => h) hq')
  | ok fl =>
    cases fl with
    | ret u =>
      obtain ⟨v, H', I3, rv, ev, q3⟩ := (I2.after hq')
      subst ev
      exact (⟨rv, ⟨V.ref (s.heap.objs.size + 1), H', I3, rfl, q3⟩⟩)
    | next => exact hq'.elim
    | brk => exact hq'.elim
    | cont => exact hq'.elim
def tMakeG (C : Addr) (sp : Sp) (W : WX) (t : TA) : TE := fun σ H Q => t σ H fun vs H1 => ∀ x dx, H1 x = none → H1 dx = none → dx ≠ x → sp (.ref x :: vs) (upd (upd H1 dx (.own x)) x (.ins C dx [])) (fun v H2 => v = .non ∧ Q (.ref x) H2) (fun c d H' => W c d σ H')
theorem pe_makeG {x : Str} {p pos : Pos} {y : Expr} {ys : List Expr} {t : TA} (M : Mk X.K C f) (F : FnG X.prog X.w X.K X.mg X.base 1 f fd ps sp) (hr : Room 2 X.A) (hgd : X.A.guards = some []) (hg : Gl X x) (hm : X.mg x = some (.ref C)) (hb : Binds X.K fd ps [])
    (tk : Takes X W) (ha : PA X (y :: ys) t) (hs : starEach (y :: ys) X.env = (false, eval y X.env) :: starEach ys X.env) (hpl : (backTo pos (starEach ys X.env)).any (·.1) = false) (hdb : (x == ("__debug__" : Str)) = false) : PE X (.Call (.Name x p) (y :: ys) [] pos) (tMakeG C sp W t) := by
  refine (⟨fun pins s σ H Q I h => ?_⟩)
  refine (wpAny_Call_Name_kw (ld_glob I hg hm ?_ hdb))
  exact PySem.W.callWith_K (h₀ := X.base) I.ok.mod.kin M.kp (thn (ha.run pos pins s σ H _ I h) fun us s1 ⟨vs, H1, I1, r, q⟩ => ⟨I1.kIn, run_mkG M F hr hgd hb tk I1 r q⟩) hs hpl
end
section
variable {T : Tb} {S : Sg} {Γ : Cxt} {N : List Str} {n : Nat}
theorem isEs_cons {e : E} {sc : Scope} {y : Expr} {ys : List Expr} (h : isEs S N none e sc (y :: ys) = true) : ∃ a b, e = .cons a b ∧ isE S N none a sc y = true ∧ isEs S N none b sc ys = true := by
  cases e <;> try (simp [isEs] at h; done)
  rename_i a b
  simp only [isEs, Bool.and_eq_true] at h
  exact ⟨a, b, rfl, h.1, h.2⟩
theorem star_of {e : E} {sc : Scope} {xs : List Expr} {pos : Pos} (h : isEs S N none e sc xs = true) : ∀ env y ys, xs = y :: ys → starEach xs env = (false, eval y env) :: starEach ys env ∧ (backTo pos (starEach ys env)).any (·.1) = false := fun env y ys z => by
  subst z
  obtain ⟨a, b, rfl, h1, h2⟩ := isEs_cons h
  exact ⟨notStar h1 env ys, plain_star h2⟩
theorem evs_nil {es : E} {sc : Scope} {W : WX} (h : isEs S N none es sc [] = true) : ∀ σ H Q, tA T Γ es W σ H Q → Q [] H := fun σV H Q q => by
  cases es <;> try (simp [isEs] at h; done)
  obtain ⟨w, σ, κ, hw, hs, p⟩ := q
  unfold evs at p
  exact p.ok hw [] .nil
theorem pe_call_ok {f : Nat} {es : E} (hes : PAok T S Γ N n es) : PEok T S Γ N n (.call f es) := by
  intro sc x X W q g tk
  cases x <;> try (simp [isE] at q; done)
  rename_i fn xs kws pos
  cases fn <;> try (simp [isE] at q; done)
  rename_i nm np
  cases kws with
  | cons _ _ => simp [isE] at q
  | nil =>
  simp only [isE, Bool.and_eq_true, decide_eq_true_eq] at q
  obtain ⟨⟨⟨⟨q1, q2⟩, q3⟩, q4⟩, q0⟩ := q
  obtain ⟨a, fd, ps, hm, hk, F, hb⟩ := g.call f nm q1 q0
  refine peI (pe_callG (S := S) (N := N) (es := es) (sc := sc) F g.room g.gd (gl_of q2 g.hsc) hm hk hb tk (hes sc xs X W q4 g tk) (star_of q4) (dbg_of q3).1 fun σ H Q z => by subst z; exact evs_nil q4 σ H Q) fun σV H Q h => ?_
  obtain ⟨w, σ, κ, hw, hs, p⟩ := h
  unfold ev at p
  refine tA_bind hw hs p fun r w1 H1 vs er e k hs1 hv p => ⟨w1, r.2, r.1, hv, k, (p.step e).bind.imp fun r2 w2 H2 _ e2 k2 p2 v rv => ?_⟩
  exact GE.fz (σV := σV) (H₀ := H) (Post.ok (r := (O.fz r2.1, r2.2)) p2 k2) rv
theorem evs_count {e : E} : ∀ {sc : Scope} {xs : List Expr} {σ : Sl} {κ : Cells} {r : List D × Cells}, isEs S N none e sc xs = true → evs Γ e σ κ = .ok r → r.1.length = xs.length := by
  induction e with
  | nil =>
    intro sc xs σ κ r h er
    cases xs with
    | nil => unfold evs at er; cases er; rfl
    | cons _ _ => simp [isEs] at h
  | cons a b _ ih =>
    intro sc xs σ κ r h er
    cases xs with
    | nil => simp [isEs] at h
    | cons y ys =>
      simp only [isEs, Bool.and_eq_true] at h
      unfold evs at er
      obtain ⟨x, e1, er⟩ := obind_ok er
      obtain ⟨d, e2, er⟩ := obind_ok er
      obtain ⟨z, e3, er⟩ := obind_ok er
      have e4 := ih h.2 e3
      split at er
      · cases er
        simp [e4]
      · cases er
  | _ => intro sc xs σ κ r h er; simp [isEs] at h
theorem pe_make_ok {c : Nat} {es : E} (hes : PAok T S Γ N n es) : PEok T S Γ N n (.make c es) := by
  intro sc x X W q g tk
  cases x <;> try (simp [isE] at q; done)
  rename_i fn xs kws pos
  cases fn <;> try (simp [isE] at q; done)
  rename_i nm np
  cases kws with
  | cons _ _ => simp [isE] at q
  | nil =>
  simp only [isE, Bool.and_eq_true, decide_eq_true_eq] at q
  obtain ⟨⟨⟨q1, q2⟩, q3⟩, q4⟩ := q
  cases ec : S.cls[c]? with
  | none => rw [ec] at q1; cases q1
  | some pr =>
  rw [ec] at q1
  simp only [Bool.and_eq_true, decide_eq_true_eq] at q1
  obtain ⟨⟨⟨q5, q6⟩, q7⟩, q8⟩ := q1
  obtain ⟨C, nms, hc⟩ := g.insAll c q8
  obtain ⟨ok, ⟨xn, hx, hm⟩, nd, na⟩ := g.ins c C nms hc
  obtain ⟨fI, fd, ps, M, F, hb⟩ := g.mkC c C nms hc
  rw [ec] at hx
  cases hx
  simp only at q5 q6 q7
  subst q5
  cases xs with
  | nil => simp at q7; subst q7; simp at q6
  | cons y ys =>
  obtain ⟨s1, s2⟩ := star_of (pos := pos) q4 X.env y ys rfl
  refine peI (pe_makeG M F (g.room.mono g.lv) g.gd (gl_of q2 g.hsc) hm hb tk (hes sc _ X W q4 g tk) s1 s2 (dbg_of q3).1) fun σV H Q h => ?_
  obtain ⟨w, σ, κ, hw, hs, p⟩ := h
  unfold ev at p
  refine tA_bind hw hs p fun r w1 H1 vs er e k hs1 hv p x dx hx hdx ne => ?_
  have hl : vs.length = nms.length := by rw [hv.length, evs_count q4 er, q7]
  refine ⟨x, dx, vs, rfl, hl, upd_same, ne, rfl, ?_⟩
  have z1 := k.laid (.own x) hdx
  have hx2 : upd H1 dx (.own x) x = none := by rw [upd_ne (fun z => ne z.symm)]; exact hx
  have z2 := z1.1.laid (.ins C dx (nms.zip vs)) hx2
  have le := z1.2.le.trans z2.2.le
  rw [show upd (upd (upd H1 dx (.own x)) x (.ins C dx [])) x (.ins C dx (nms.zip vs)) = upd (upd H1 dx (.own x)) x (.ins C dx (nms.zip vs)) from by funext b; unfold upd; split <;> rfl]
  exact GE.fz (p _ _ ((e.trans z1.2).trans z2.2) z2.1) (.ins hc (by show upd _ _ _ _ = _; exact upd_same) hl.symm (hv.mono le))
end
end R

/-! R17: list(range(..)), dicts as cells, own ==. -/
namespace R
open L2 PyProof.Rows PySem.Spec PySem
section
variable {T : Tb} {S : Sg} {Γ : Cxt} {N : List Str} {n : Nat}
/-! ### list(range(..)) -/
theorem rvs_rg {w : Wd} {lo hi : Int} {ds : List D} (h : rangeD lo hi = some ds) : RVs T w (rgV lo hi) ds ∧ ds.length = (hi - lo).toNat := by
  unfold rangeD at h
  split at h
  · cases h
    refine ⟨?_, by simp⟩
    unfold rgV
    generalize (hi - lo).toNat = m
    have key : ∀ l : List Nat, RVs T w (l.map fun i => V.int (lo + (i : Nat))) (l.map fun (k : Nat) => D.int (lo + (k : Int))) := fun l => by
      induction l with
      | nil => exact .nil
      | cons a l ih => exact .cons (.int _) ih
    exact key _
  · cases h
theorem pe_lrng_ok {it : E} (h1 : ∀ a, it = .rng1 a → PEok T S Γ N n a) (h2 : ∀ a b, it = .rng2 a b → PEok T S Γ N n a ∧ PEok T S Γ N n b) : PEok T S Γ N n (.lrng it) := by
  intro sc x X W q g tk
  cases x <;> try (simp [isE] at q; done)
  rename_i fn xs kws pos
  cases fn <;> try (simp [isE] at q; done)
  rename_i nm np
  match xs, kws, q with
  | [y], [], q =>
    simp only [isE, Bool.and_eq_true, decide_eq_true_eq] at q
    obtain ⟨⟨⟨rfl, q1⟩, q2⟩, q3⟩ := q
    have fin : ∀ {lo hi : Int} {ds : List D} {w : Wd} {σ : Sl} {κ : Cells} {w1 : Wd} {H H1 : Hp} {σV : L2.St} {Q : VK}, rangeD lo hi = some ds → ds.length ≤ sizeLine → Ext w H w1 H1 → Wok T w1 H1 κ → Post T w H (.ok (O.ol none ds, κ)) (fun c d H' => W c d σV H') (GE T H σV Q) → RgOk lo hi ∧ ∀ q, H1 q = none → Q (.ref q) (upd H1 q (.lst (rgV lo hi))) := fun {lo hi ds w σ κ w1 H H1 σV Q} e1 e2 x k p => by
      have sm := rng_small e1
      obtain ⟨rv, hl⟩ := rvs_rg (T := T) (w := w1) e1
      rw [hl] at e2
      have e3 := sizeLine_eq
      refine ⟨⟨sm.1, sm.2.1, sm.2.2.1, sm.2.2.2, by omega⟩, fun p' hp => ?_⟩
      have z := k.own (.lst (rgV lo hi)) hp
      exact GE.own (p _ _ (x.trans z.2) z.1) upd_same rv (k.offθ hp) (k.noF hp) (x.dom p' hp)
    cases it <;> try (cases q3; done)
    · rename_i a
      cases y <;> try (simp [isIt] at q2; done)
      rename_i fn xs kws p2
      cases fn <;> try (simp [isIt] at q2; done)
      match xs, kws, q2 with
      | [z], [], q2 =>
        simp only [isIt, Bool.and_eq_true, decide_eq_true_eq] at q2
        obtain ⟨⟨rfl, q4⟩, q5⟩ := q2
        refine peI (pe_listRg g.calm (gl_of q1 g.hsc) (g.bi_of _) (prg_1 (gl_of q4 g.hsc) (g.bi_of _) (h1 a rfl sc z X W q5 g tk) (notStar q5 X.env [])) rfl) fun σV H Q h => ?_
        obtain ⟨w, σ, κ, hw, hs, p⟩ := h
        unfold ev evIt at p
        have p : Post T w H ((ev Γ a σ κ).bind fun x => (match x.1.d with | .int j => (opt (rangeD 0 j)).bind fun xs => Out.ok ((xs, ([] : List Nat)), x.2) | _ => .bad).bind fun r => if r.1.1.length ≤ sizeLine then .ok (O.ol none r.1.1, r.2) else .bad) (fun c d H' => W c d σV H') (GE T H σV Q) := by
          cases er : ev Γ a σ κ <;> rw [er] at p <;> exact p
        refine tE_bind hw hs p fun r w1 H1 v er e k hs1 hv hb hy p => ?_
        generalize ed : r.1.d = dx at p
        cases dx with
        | int j =>
          cases er2 : rangeD 0 j with
          | none => simp only [er2, opt, Out.bind] at p; exact p.elim
          | some ds =>
            simp only [er2, opt, Out.bind] at p
            by_cases hz : ds.length ≤ sizeLine
            · rw [if_pos hz] at p
              cases rd_int hv ed
              exact ⟨j, rfl, fin (σ := σ) er2 hz e k p⟩
            · rw [if_neg hz] at p; exact p.elim
        | _ => exact p.elim
      | [], _, q2 => simp [isIt] at q2
      | _ :: _ :: _, _, q2 => simp [isIt] at q2
      | [_], _ :: _, q2 => simp [isIt] at q2
    · rename_i a b
      cases y <;> try (simp [isIt] at q2; done)
      rename_i fn xs kws p2
      cases fn <;> try (simp [isIt] at q2; done)
      match xs, kws, q2 with
      | [z, z'], [], q2 =>
        simp only [isIt, Bool.and_eq_true, decide_eq_true_eq] at q2
        obtain ⟨⟨⟨rfl, q4⟩, q5⟩, q6⟩ := q2
        obtain ⟨ha, hb⟩ := h2 a b rfl
        have st2 := notStar q6 X.env []
        refine peI (pe_listRg g.calm (gl_of q1 g.hsc) (g.bi_of _) (prg_2 (gl_of q4 g.hsc) (g.bi_of _) (ha sc z X W q5 g tk) (hb sc z' X W q6 g tk) (notStar q5 X.env _) st2 (by rw [st2]; rfl)) rfl) fun σV H Q h => ?_
        obtain ⟨w, σ, κ, hw, hs, p⟩ := h
        unfold ev evIt at p
        have p : Post T w H ((ev Γ a σ κ).bind fun x => (ev Γ b σ x.2).bind fun y => (match x.1.d, y.1.d with | .int i, .int j => (opt (rangeD i j)).bind fun xs => Out.ok ((xs, ([] : List Nat)), y.2) | _, _ => .bad).bind fun r => if r.1.1.length ≤ sizeLine then .ok (O.ol none r.1.1, r.2) else .bad) (fun c d H' => W c d σV H') (GE T H σV Q) := by
          cases er : ev Γ a σ κ with
          | ok r =>
            rw [er] at p
            simp only [Out.bind] at p ⊢
            cases er2 : ev Γ b σ r.2 <;> rw [er2] at p <;> exact p
          | _ => rw [er] at p; exact p
        refine tE_bind hw hs p fun r w1 H1 v er e k hs1 hv hb hy p => ?_
        refine tE_bindB e k hs1 p fun r2 w2 H2 v2 er2 e2 k2 hs2 hv2 hb2 hy2 p => ?_
        generalize ed : r.1.d = dx at p
        generalize ed2 : r2.1.d = dy at p
        cases dx with
        | int i =>
          cases dy with
          | int j =>
            cases er3 : rangeD i j with
            | none => simp only [er3, opt, Out.bind] at p; exact p.elim
            | some ds =>
              simp only [er3, opt, Out.bind] at p
              by_cases hz : ds.length ≤ sizeLine
              · rw [if_pos hz] at p
                cases rd_int hv ed
                cases rd_int hv2 ed2
                exact ⟨i, j, rfl, rfl, fin (σ := σ) er3 hz (e.trans e2) k2 p⟩
              · rw [if_neg hz] at p; exact p.elim
          | _ => exact p.elim
        | _ => exact p.elim
      | [], _, q2 => simp [isIt] at q2
      | [_], _, q2 => simp [isIt] at q2
      | _ :: _ :: _ :: _, _, q2 => simp [isIt] at q2
      | [_, _], _ :: _, q2 => simp [isIt] at q2
  | [], _, q => simp [isE] at q
  | _ :: _ :: _, _, q => simp [isE] at q
  | [_], _ :: _, q => simp [isE] at q
end
end R

/-! R18: dicts as cells, own ==. -/
namespace R
open L2 PyProof.Rows PySem.Spec PySem
theorem obind_assoc {α β γ : Type} (m : Out α) (f : α → Out β) (g : β → Out γ) : (m.bind f).bind g = m.bind fun x => (f x).bind g := by cases m <;> rfl
section
variable {T : Tb} {S : Sg} {Γ : Cxt} {N : List Str} {n : Nat}
def cellT (T : Tb) (Γ : Cxt) (W : WX) : List Key → E → List (TE × TE)
  | k :: ks, .cons e es => (tC (kV k), tE T Γ e W) :: cellT T Γ W ks es
  | _, _ => []
abbrev PCok (T : Tb) (S : Sg) (Γ : Cxt) (N : List Str) (n : Nat) (e : E) : Prop := ∀ sc ks keys xs X W pos, keysB ks keys = true → keys.length = xs.length → isEs S N none e sc xs = true → XG T S Γ N n sc X → Takes X W → PPs X pos keys xs (cellT T Γ W ks e)
theorem keysB_cons {k : List Key} {keys : List (Option Expr)} (h : keysB k keys = true) : (k = [] ∧ keys = []) ∨ ∃ x ks c p rest, k = .inr x :: ks ∧ keys = some (.Constant (.str x) c p) :: rest ∧ keysB ks rest = true := by
  match k, keys, h with
  | [], [], _ => exact .inl ⟨rfl, rfl⟩
  | .inr x :: ks, some (.Constant (.str y) c p) :: rest, h =>
    simp only [keysB, Bool.and_eq_true, decide_eq_true_eq] at h
    obtain ⟨rfl, h⟩ := h
    exact .inr ⟨x, ks, c, p, rest, rfl, rfl, h⟩
theorem pc_nil_ok : PCok T S Γ N n .nil := by
  intro sc ks keys xs X W pos hk hl q g tk
  cases xs with
  | cons _ _ => simp [isEs] at q
  | nil =>
    cases keys with
    | cons _ _ => simp at hl
    | nil =>
      have : cellT T Γ W ks .nil = [] := by cases ks <;> rfl
      rw [this]
      exact pps_nil
theorem pc_cons_ok {e es : E} (he : PEok T S Γ N n e) (hes : PCok T S Γ N n es) : PCok T S Γ N n (.cons e es) := by
  intro sc ks keys xs X W pos hk hl q g tk
  cases xs with
  | nil => simp [isEs] at q
  | cons y ys =>
    simp only [isEs, Bool.and_eq_true] at q
    rcases keysB_cons hk with ⟨rfl, rfl⟩ | ⟨x, ks, c, p, rest, rfl, rfl, hk'⟩
    · simp at hl
    · exact pps_cons pe_str (he sc y X W q.1 g tk) (hes sc ks rest ys X W pos hk' (by simpa using hl) q.2 g tk)
def cnt : E → Nat
  | .cons _ es => cnt es + 1
  | _ => 0
theorem cnt_of {e : E} : ∀ {sc : Scope} {xs : List Expr}, isEs S N none e sc xs = true → cnt e = xs.length := by
  induction e with
  | nil => intro sc xs h; cases xs with | nil => rfl | cons _ _ => simp [isEs] at h
  | cons a b _ ih =>
    intro sc xs h
    cases xs with
    | nil => simp [isEs] at h
    | cons y ys => simp only [isEs, Bool.and_eq_true] at h; simp [cnt, ih h.2]
  | _ => intro sc xs h; simp [isEs] at h
theorem keysB_len : ∀ {ks : List Key} {keys : List (Option Expr)}, keysB ks keys = true → ks.length = keys.length := by
  intro ks
  induction ks with
  | nil => intro keys h; rcases keysB_cons h with ⟨_, rfl⟩ | ⟨_, _, _, _, _, e, _⟩ <;> first | rfl | cases e
  | cons k ks ih =>
    intro keys h
    rcases keysB_cons h with ⟨e, _⟩ | ⟨_, _, _, _, _, e, rfl, h'⟩
    · cases e
    · cases e; simp [ih h']
theorem cell_sem {W : WX} {es : E} : ∀ {ks : List Key} {σV : L2.St} {H H₀ : Hp} {w w₀ : Wd} {σ : Sl} {κ : Cells} {α : Type} {f : List D × Cells → Out (α × Cells)} {G : α × Cells → Wd → Hp → Prop} {Q : List (V × V) → Hp → Prop}, ks.length = cnt es → Ext w₀ H₀ w H → Wok T w H κ → RS T w H σV σ →
    Post T w₀ H₀ ((evs Γ es σ κ).bind f) (fun c d H' => W c d σV H') G →
    (∀ r vs w' H', vs.length = ks.length → Ext w H w' H' → Wok T w' H' r.2 → RVs T w' vs r.1 → Post T w₀ H₀ (f r) (fun c d H' => W c d σV H') G → Q ((ks.zip vs).map fun kv => (kV kv.1, kv.2)) H') → tPairs (cellT T Γ W ks es) σV H Q := by
  induction es with
  | nil =>
    intro ks σV H H₀ w w₀ σ κ α f G Q hl x0 hw hs p h
    cases ks with
    | cons _ _ => simp [cnt] at hl
    | nil =>
      unfold evs at p
      exact h ([], κ) [] w H rfl (Ext.rfl' w H) hw .nil p
  | cons e es _ ih =>
    intro ks σV H H₀ w w₀ σ κ α f G Q hl x0 hw hs p h
    cases ks with
    | nil => simp [cnt] at hl
    | cons k ks =>
      have hl : ks.length = cnt es := by simpa [cnt] using hl
      unfold evs at p
      rw [obind_assoc] at p
      simp only [obind_assoc] at p
      refine tE_bindB x0 hw hs p fun r w1 H1 v er e1 k1 hs1 hv hb hy p => ?_
      obtain ⟨d, ed, p⟩ := p.opt
      obtain ⟨w2, k2, e2, l2, rv⟩ := hv.give k1 ed e1 (hy (frz_tag ed))
      refine ih hl (x0.trans e2) k2 (hs.ext e2) p fun r2 vs w3 H3 hlen e3 k3 rvs p => ?_
      by_cases hz : r2.1.length < sizeLine
      · rw [if_pos hz] at p
        exact h (d :: r2.1, r2.2) (v :: vs) w3 H3 (by simp [hlen]) (e2.trans e3) k3 (.cons (rv.mono e3.le) rvs) p
      · rw [if_neg hz] at p; exact p.elim
  | _ =>
    intro ks σV H H₀ w w₀ σ κ α f G Q hl x0 hw hs p h
    unfold evs at p
    exact p.elim
theorem PR.merge {w : Wd} : ∀ {vs : List (Key × V)} {ds : List (Key × D)} {acc : List (Key × V)} {accd : List (Key × D)}, PR T w vs ds → PR T w acc accd → PR T w (mergeK acc vs) (ds.foldl (fun a kv => putP a kv.1 kv.2) accd)
  | _, _, _, _, .nil, q => q
  | _, _, acc, accd, .cons (k := k) (v := v) (d := d) a r, q => PR.merge (acc := putK acc k v) (accd := putP accd k d) r (q.put a k)
/-- one's own becomes a cell -/
theorem Wok.toCell {w : Wd} {H : Hp} {κ : Cells} (k : Wok T w H κ) {p : Addr} {o : HO} {co : Co} (h : H p = some o) (n : p ∉ w.θ) (f : w.F p = none) (r : RC T w o co) : Wok T ⟨w.F, w.θ ++ [p]⟩ H (κ ++ [⟨false, co⟩]) := by
  have l2 : Le w ⟨w.F, w.θ ++ [p]⟩ := ⟨Same.refl _, [p], rfl⟩
  refine ⟨k.le, ?_, by simp [k.len], fun m a e => ?_⟩
  · show (w.θ ++ [p]).Nodup
    rw [List.nodup_append]
    exact ⟨k.nd, by simp, fun a ha b hb => by simp at hb; subst hb; exact fun z => n (by rw [← z]; exact ha)⟩
  · have e : (w.θ ++ [p])[m]? = some a := e
    by_cases hm : m < w.θ.length
    · rw [List.getElem?_append_left hm] at e
      obtain ⟨u, c, e1, r1, at_⟩ := k.cell m a e
      exact ⟨u, c, by rw [List.getElem?_append_left (by rw [← k.len]; exact hm)]; exact e1, r1.mono l2, at_.move rfl rfl⟩
    · have hm2 : m = w.θ.length := by
        have := (List.getElem?_eq_some_iff.mp e).1
        simp at this; omega
      subst hm2
      simp at e
      subst e
      exact ⟨o, ⟨false, co⟩, by rw [k.len]; simp, r.mono l2, f, h⟩
theorem Ext.toCell {w₀ w : Wd} {H₀ H : Hp} (e : Ext w₀ H₀ w H) {p : Addr} (h : H₀ p = none) : Ext w₀ H₀ ⟨w.F, w.θ ++ [p]⟩ H := by
  refine ⟨e.keep, e.dom, e.F, e.new, ?_⟩
  obtain ⟨l, el, hl⟩ := e.θ
  refine ⟨l ++ [p], by show w.θ ++ [p] = _; rw [el, List.append_assoc], fun a ha => ?_⟩
  rcases (List.mem_append.mp ha) with ha | ha
  · exact hl a ha
  · simp at ha
    subst ha
    exact h
/-- a cell is written -/
theorem Wok.setCell {w : Wd} {H : Hp} {κ : Cells} (k : Wok T w H κ) {m : Nat} {p : Addr} {o : HO} {co : Co} (e : w.θ[m]? = some p) (hF : w.F p = none) (r : RC T w o co) : Wok T w (upd H p o) (κ.set m ⟨false, co⟩) := by
  have hm : m < κ.length := by rw [← k.len]; exact (List.getElem?_eq_some_iff.mp e).1
  refine ⟨fun b u h => ?_, k.nd, by simp [k.len], fun j b h => ?_⟩
  · rw [upd_ne (fun z => by rw [z, hF] at h; cases h)]; exact k.le b u h
  · by_cases hj : m = j
    · subst hj
      rw [e] at h; cases h
      exact ⟨o, ⟨false, co⟩, by rw [List.getElem?_set_self hm], r, hF, upd_same⟩
    · obtain ⟨u, c, h1, h2, h3⟩ := k.cell j b h
      have nb : b ≠ p := fun z => by
        subst z
        exact hj ((List.getElem?_inj (List.getElem?_eq_some_iff.mp e).1 k.nd).mp (e.trans h.symm))
      exact ⟨u, c, by rw [List.getElem?_set_ne hj]; exact h1, h2, h3.move rfl (upd_ne nb)⟩
theorem Ext.setCell {w₀ w : Wd} {H₀ H : Hp} (x : Ext w₀ H₀ w H) {p : Addr} {o : HO} (hp : p ∈ w.θ) : Ext w₀ H₀ w (upd H p o) := by
  refine ⟨fun b u h nb => ?_, fun b h => ?_, x.F, x.new, x.θ⟩
  · have nb2 : b ≠ p := fun z => by
      subst z
      obtain ⟨l, el, hl⟩ := x.θ
      rw [el] at hp
      rcases (List.mem_append.mp hp) with z | z
      · exact nb z
      · rw [hl b z] at h; cases h
    rw [upd_ne nb2]
    exact x.keep b u h nb
  · have nb : b ≠ p := fun z => by rw [z, upd_same] at h; cases h
    rw [upd_ne nb] at h
    exact x.dom b h
theorem RS.setCell {w : Wd} {H : Hp} {σV : L2.St} {σ : Sl} (rs : RS T w H σV σ) {p : Addr} {o : HO} (hp : p ∈ w.θ) : RS T w (upd H p o) σV σ := by
  have ne : ∀ {b : Addr}, b ∉ w.θ → b ≠ p := fun hb z => hb (by rw [z]; exact hp)
  refine ⟨rs.len, fun i u h => ?_, rs.apart, rs.tag⟩
  obtain ⟨v, h1, r⟩ := rs.at_ i u h
  refine ⟨v, h1, r.move (Le.rfl' w) fun b u eb pl hb => ?_⟩
  obtain ⟨b', _, eb', _, n1, n2⟩ := r.addr pl
  rw [eb] at eb'; cases eb'
  exact ⟨by rw [upd_ne (ne n1)]; exact hb, n1, n2⟩
theorem pe_cell_ok {ks : List Key} {es : E} (hes : PCok T S Γ N n es) : PEok T S Γ N n (.cell ks es) := by
  intro sc x X W q g tk
  cases x <;> try (simp [isE] at q; done)
  rename_i keys vals pos
  simp only [isE, Bool.and_eq_true, decide_eq_true_eq, Bool.not_eq_true'] at q
  obtain ⟨⟨⟨⟨⟨q1, q2⟩, q3⟩, q4⟩, q5⟩, q6⟩ := q
  have hne : keys ≠ [] := fun z => by
    subst z
    have := keysB_len q1
    cases ks with
    | nil => simp at q2
    | cons _ _ => simp at this
  have hall : keys.all (·.isSome) = true := by
    have : ∀ {ks : List Key} {keys : List (Option Expr)}, keysB ks keys = true → keys.all (·.isSome) = true := by
      intro ks
      induction ks with
      | nil => intro keys h; rcases keysB_cons h with ⟨_, rfl⟩ | ⟨_, _, _, _, _, e, _⟩ <;> first | rfl | cases e
      | cons k ks ih =>
        intro keys h
        rcases keysB_cons h with ⟨e, _⟩ | ⟨_, _, _, _, _, e, rfl, h'⟩
        · cases e
        · cases e; simp [ih h']
    exact this q1
  refine peI (pe_disp (hes sc ks keys vals X W pos q1 q4 q6 g tk) hall q4 hne q5) fun σV H Q h => ?_
  obtain ⟨w, σ, κ, hw, hs, p⟩ := h
  unfold ev at p
  intro pa hp
  have z := hw.own (.dK []) hp
  refine cell_sem (by rw [q3, cnt_of q6]) z.2 z.1 (hs.ext z.2) p fun r vs w1 H1 hlen e1 k1 rvs p => ?_
  have nθ : pa ∉ w.θ := hw.offθ hp
  have nF : w.F pa = none := hw.noF hp
  have at1 : H1 pa = some (.dK []) := e1.keep pa _ upd_same nθ
  have nF1 : w1.F pa = none := e1.offF upd_same nF nθ
  have nθ1 : pa ∉ w1.θ := e1.offθ (by exact upd_same) nθ
  refine ⟨at1, ks.zip vs, rfl, by have := keysB_len q1; simp; omega, ?_⟩
  split at p
  case isFalse => exact p.elim
  have pr : PR T w1 (mergeK [] (ks.zip vs)) ((ks.zip r.1).foldl (fun acc kv => putP acc kv.1 kv.2) []) := PR.merge (PR.zip hlen.symm rvs) .nil
  have k2 := (k1.poke (.dK (mergeK [] (ks.zip vs))) nθ1 nF1).toCell upd_same nθ1 nF1 (.dk pr)
  have x2 : Ext w H w1 (upd H1 pa (.dK (mergeK [] (ks.zip vs)))) := by
    refine ⟨fun a u e nn => ?_, fun a e => ?_, e1.F, fun a e k => ?_, ?_⟩
    · have ne := ne_of_none e hp
      rw [upd_ne ne]
      exact e1.keep a u (by rw [upd_ne ne]; exact e) nn
    · have ne : a ≠ pa := fun z => by rw [z, upd_same] at e; cases e
      rw [upd_ne ne] at e
      have := e1.dom a e
      rw [upd_ne ne] at this
      exact this
    · have ne : a ≠ pa := fun z => k (by rw [z]; exact nF1)
      rcases e1.new a e k with z | z
      · rw [upd_ne ne] at z
        exact .inl z
      · exact .inr z
    · obtain ⟨l, el, hl⟩ := e1.θ
      refine ⟨l, el, fun a ha => ?_⟩
      have := hl a ha
      have ne : a ≠ pa := fun z => by rw [z, upd_same] at this; cases this
      rw [upd_ne ne] at this
      exact this
  exact GE.fz (p _ _ (x2.toCell hp) k2) (.obj (by show (w1.θ ++ [pa])[r.2.length]? = _; rw [← k1.len]; simp))
/-! ### own == -/
def rEqo (T : Tb) (Γ : Cxt) : R2 := fun x y H Q => ∃ w κ c fs yd f t κ', Wok T w H κ ∧ RV T w x (.ins c fs) ∧ RV T w y yd ∧ Γ.eqf c = some f ∧ eqoOk c yd = true ∧ Γ.calls f [.ins c fs, yd] κ = .ok (.bl t, κ') ∧ ∀ w' H', Ext w H w' H' → Wok T w' H' κ' → Q (.bl t) H'
theorem op_eqo {sc : Scope} {X : Cx} (g : XG T S Γ N n sc X) : OpR X (compareOp .Eq) (rEqo T Γ) := by
  intro pins; intro s σ H x y v u Q I rx ry h
  obtain ⟨w, κ, c, fs, yd, f, t, κ', hw, hx, hy, ef, ok, ec, q⟩ := h
  cases hx with
  | @ins a _ C dx nms vs _ hc hF hl rs =>
  obtain ⟨g1, fd, ps, hs, hf, F, hb, nf⟩ := g.eqF c f C nms ef hc
  cases (show (v = Value.ref a) from rx)
  have ha : H a = some (.ins C dx (nms.zip vs)) := hw.le _ _ hF
  obtain ⟨mA, J, _⟩ := (ins_get I.hok ha)
  obtain ⟨od, J, _⟩ := J.look
  obtain ⟨m, hFr⟩ := I.fr
  have run : ∀ {b : Addr} {tb : Value}, y = .ref b → PySem.W.Looks (model X.prog X.w) s.heap (typeOf (.ref b)) tb → PySem.W.notFirst X.K C tb = true → wpAny (model X.prog X.w) X.A (richCompare .Eq (.ref a) (.ref b)) (EP X pins σ Q) X.xe s := fun {b tb} ey lk nt => by
    subst ey
    refine PySem.W.cmp_K (op := .Eq) (tb := tb) g.room.units0 hFr I.ok.mod.kin J lk nt hs hf ?_
    have call := run_G (X := X) (pins := pins) (σ := σ) (H := H) (s := s) (us := [.ref a, .ref b]) (vs := [.ref a, .ref b]) (Q := Q) F g.room g.gd hb (takes0 (X := X)) I (.cons rfl (.cons rfl .nil)) ⟨w, κ, [.ins c fs, yd], .cons (.ins hc hF hl rs) (.one hy), hw, post_ok ec fun w' H' e k v rv => by cases rv; exact q w' H' e k⟩
    exact wpAny_mono call (fun z s' ⟨z', H', I', rz, qz⟩ => SlX.cmpback rz ⟨z', H', I', rz, qz⟩) fun _ _ x => x
  show wpAny (model X.prog X.w) X.A (richCompare .Eq (.ref a) u) (EP X pins σ Q) X.xe s
  cases yd with
  | ins c' gs =>
    simp only [eqoOk, decide_eq_true_eq] at ok
    subst ok
    cases hy with
    | @ins b _ C' dy nms' us _ hc' hF' hl' rs' =>
    rw [hc] at hc'
    cases hc'
    cases (show (u = Value.ref b) from ry)
    obtain ⟨mB, J', _⟩ := ins_get I.hok (hw.le _ _ hF')
    obtain ⟨od', J', _⟩ := (J'.look)
    exact run rfl J'.type (by simp [PySem.W.notFirst])
  | tup ds =>
    cases hy with
    | @tup b us _ qt rs' =>
    cases (show (u = Value.ref b) from ry)
    obtain ⟨its, r, ht, hz⟩ := I.tuple (a := b) (xs := us) (by rw [g.hK]; exact sqT_mono hw.le qt)
    obtain ⟨o, ho, hcl, _⟩ := id ht
    exact run rfl (hcl ▸ (PySem.W.Looks.ld ho).andThen .now) nf
  | _ => cases ok
theorem eqo_ev {a b : E} {σ : Sl} {κ : Cells} {w : Wd} {H : Hp} {XX : XW} {G : O × Cells → Wd → Hp → Prop} (p : Post T w H (ev Γ (.eqo a b) σ κ) XX G) : Post T w H ((ev Γ a σ κ).bind fun x => (ev Γ b σ x.2).bind fun y => (opt x.1.frz).bind fun xd => (opt y.1.frz).bind fun yd => match xd with
      | .ins c _ => (opt (Γ.eqf c)).bind fun f => if eqoOk c yd then (noexc (Γ.calls f [xd, yd] y.2)).bind fun r => (match r.1 with
        | .bl t => .ok (.fz (.bl t), r.2)
        | _ => .bad) else .bad
      | _ => .bad) XX G := by unfold ev at p; exact p
theorem eqo_fin {w0 w : Wd} {H0 H : Hp} {x y : O} {κ : Cells} {v v2 : V} {XX : XW} {G : O × Cells → Wd → Hp → Prop} {Q : VK} (x0 : Ext w0 H0 w H) (hw : Wok T w H κ) (hv : RO T w H v x) (hv2 : RO T w H v2 y) (hy : y.tag = none → Young H0 v2 y)
    (p : Post T w0 H0 ((opt x.frz).bind fun xd => (opt y.frz).bind fun yd => match xd with
      | .ins c _ => (opt (Γ.eqf c)).bind fun f => if eqoOk c yd then (noexc (Γ.calls f [xd, yd] κ)).bind fun r => (match r.1 with
        | .bl t => .ok (.fz (.bl t), r.2)
        | _ => .bad) else .bad
      | _ => .bad) XX G) (h : ∀ t κ' w' H', Ext w0 H0 w' H' → Wok T w' H' κ' → Post T w0 H0 (.ok (.fz (.bl t), κ')) XX G → Q (.bl t) H') : rEqo T Γ v v2 H Q := by
  obtain ⟨xd, ex, p⟩ := p.opt
  obtain ⟨yd, ey, p⟩ := p.opt
  cases xd with
  | ins c fs =>
    obtain ⟨f, ef, p⟩ := (show Post T w0 H0 ((opt (Γ.eqf c)).bind fun f => _) XX G from p).opt
    by_cases ok : eqoOk c yd = true
    · rw [if_pos ok] at p
      obtain ⟨r, er, p⟩ := p.noexc
      obtain ⟨rd, κ'⟩ := r
      have hx : x = .fz (.ins c fs) := by
        cases x with
        | fz d => cases ex; rfl
        | ol b xs => cases b <;> simp [O.frz] at ex
        | od b xs => cases b <;> simp [O.frz] at ex
        | ot b xs => cases b <;> simp [O.frz] at ex
      subst hx
      obtain ⟨w2, k2, e2, l2, rv⟩ := hv2.give hw ey x0 (hy (frz_tag ey))
      cases rd with
      | bl t => exact ⟨w2, κ, c, fs, yd, f, t, κ', k2, RV.mono l2 hv, rv, ef, ok, er, fun w' H' e k => h t κ' w' H' (e2.trans e) k p⟩
      | _ => exact p.elim
    · rw [if_neg ok] at p; exact p.elim
  | _ => exact p.elim
theorem eqo_sem {a b : E} {W : WX} : ∀ σV H Q, tE T Γ (.eqo a b) W σV H Q → tOp (rEqo T Γ) (tE T Γ a W) (tE T Γ b W) σV H Q := fun σV H Q h => by
  obtain ⟨w, σ, κ, hw, hs, p⟩ := h
  refine tE_bind hw hs (eqo_ev p) fun r w1 H1 v er e k hs1 hv hbr hy p => ?_
  refine tE_bindB e k hs1 p fun r2 w2 H2 v2 er2 e2 k2 hs2 hv2 hbr2 hy2 p2 => ?_
  exact eqo_fin (e.trans e2) k2 (hv.ext e2) hv2 (fun ht pl a' ea => e.dom a' (hy2 ht pl a' ea)) p2 fun t κ' w' H' x k p => GE.fz (p w' H' x k) (.bl t)
theorem pe_eqo_ok {a b : E} (ha : PEok T S Γ N n a) (hb : PEok T S Γ N n b) : PEok T S Γ N n (.eqo a b) := by
  intro sc x X W q g tk
  cases x <;> try (simp [isE] at q; done)
  rename_i l ops cs pos
  match ops, cs, q with
  | [.Eq], [r], q =>
    simp only [isE, Bool.and_eq_true] at q
    exact peI (pe_cmpR (op_eqo g) (ha sc _ X W q.1 g tk) (hb sc _ X W q.2 g tk) (marks_of (notSet_of q.2))) eqo_sem
theorem eqo_bl {a b : E} {σ : Sl} {κ : Cells} {r : O × Cells} (h : ev Γ (.eqo a b) σ κ = .ok r) : ∃ t, r.1 = .fz (.bl t) := by
  unfold ev at h
  obtain ⟨x, _, h⟩ := obind_ok h
  obtain ⟨y, _, h⟩ := obind_ok h
  obtain ⟨xd, _, h⟩ := obind_ok h
  obtain ⟨yd, _, h⟩ := obind_ok h
  cases xd with
  | ins c fs =>
    obtain ⟨f, _, h⟩ := obind_ok (show (opt (Γ.eqf c)).bind _ = .ok r from h)
    by_cases ok : eqoOk c yd = true
    · rw [if_pos ok] at h
      obtain ⟨z, _, h⟩ := noexc_ok h
      obtain ⟨rd, κ'⟩ := z
      cases rd with
      | bl t => cases h; exact ⟨t, rfl⟩
      | _ => cases h
    · rw [if_neg ok] at h; cases h
  | _ => cases h
theorem pt_eqo_ok {a b : E} (ha : PEok T S Γ N n a) (hb : PEok T S Γ N n b) : PTok T S Γ N n (.eqo a b) := by
  intro sc x X W q g tk
  cases x <;> try (simp [isE] at q; done)
  rename_i l ops cs pos
  match ops, cs, q with
  | [.Eq], [r], q =>
    simp only [isE, Bool.and_eq_true] at q
    refine ptI (pt_cmpR (op_eqo g) (ha sc _ X W q.1 g tk) (hb sc _ X W q.2 g tk) (marks_of (notSet_of q.2))) fun σV H Q h => eqo_sem σV H _ ?_
    obtain ⟨w, σ, κ, hw, hs, p⟩ := h
    rw [evT_def] at p
    refine tE_bind hw hs p fun r w1 H1 v er e k hs1 hv hbr hy p => ?_
    obtain ⟨o, κ'⟩ := r
    obtain ⟨t, rfl⟩ := eqo_bl er
    cases (show RV T w1 v (.bl t) from hv)
    exact ⟨t, rfl, (p.step e).ok (r := (t, κ')) k⟩
end
end R

/-! RD: dicts as cells: made, asked, walked. -/
namespace R
open L2 PyProof.Rows PySem.Spec PySem
section
variable {T : Tb} {S : Sg} {Γ : Cxt} {N : List Str} {n : Nat} {w w' w₀ : Wd} {H H' H₀ : Hp} {κ κ' : Cells}
theorem key_rv {v : V} {d : D} {k : Key} (h : keyOf d = some k) (r : RV T w v d) : v = kV k := by
  cases d <;> simp only [keyOf, Option.some.injEq, reduceCtorEq] at h
  · subst h; cases r; rfl
  · subst h; cases r; rfl
theorem key_ro {v : V} {o : O} {k : Key} (h : keyOf o.d = some k) (r : RO T w H v o) : v = kV k := by
  cases o with
  | fz d => exact key_rv h r
  | _ => simp [O.d, keyOf] at h
/-- a new dict is a cell -/
theorem newCell (k : Wok T w H κ) {p : Addr} {vs : List (Key × V)} {kvs : List (Key × D)} (hp : H p = none) (r : PR T w vs kvs) : Wok T ⟨w.F, w.θ ++ [p]⟩ (upd H p (.dK vs)) (κ ++ [⟨false, .dk kvs⟩]) ∧ Ext w H ⟨w.F, w.θ ++ [p]⟩ (upd H p (.dK vs)) ∧ RV T ⟨w.F, w.θ ++ [p]⟩ (.ref p) (.obj κ.length) := by
  have z := k.own (.dK vs) hp
  exact ⟨z.1.toCell upd_same (k.offθ hp) (k.noF hp) (.dk r), z.2.toCell hp, .obj (by show (w.θ ++ [p])[κ.length]? = _; rw [← k.len]; simp)⟩
theorem pe_dnew_ok : PEok T S Γ N n .dnew := by
  intro sc x X W q g tk
  cases x <;> try (simp [isE] at q; done)
  rename_i keys vals pos
  match keys, vals, q with
  | [], [], q =>
    refine peI pe_dnewK fun σV H Q h => ?_
    obtain ⟨w, σ, κ, hw, hs, p⟩ := h
    unfold ev at p
    intro pa hp
    obtain ⟨z1, z2, z3⟩ := newCell hw hp (vs := []) (kvs := []) .nil
    exact GE.fz (p _ _ z2 z1) z3
  | _ :: _, v, q => cases v <;> simp [isE] at q
  | [], _ :: _, q => simp [isE] at q
theorem pe_dic_ok {k x : E} (hk : PEok T S Γ N n k) (hx : PEok T S Γ N n x) : PEok T S Γ N n (.dic k x) := by
  intro sc y X W q g tk
  cases y <;> try (simp [isE] at q; done)
  rename_i keys vals pos
  match keys, vals, q with
  | [some e], [f], q =>
    simp only [isE, Bool.and_eq_true] at q
    refine peI (pe_disp (pps_cons (hk sc e X W q.1 g tk) (hx sc f X W q.2 g tk) pps_nil) rfl rfl (by simp) (by simp)) fun σV H Q h => ?_
    obtain ⟨w, σ, κ, hw, hs, p⟩ := h
    unfold ev at p
    intro pa hp
    have z := hw.own (.dK []) hp
    have nθ : pa ∉ w.θ := hw.offθ hp
    have nF : w.F pa = none := hw.noF hp
    refine tE_bindB z.2 z.1 (hs.ext z.2) p fun r w1 H1 v er e1 k1 hs1 hv hb hy p => ?_
    obtain ⟨kk, ek, p⟩ := p.opt
    refine tE_bindB (z.2.trans e1) k1 hs1 p fun r2 w2 H2 v2 er2 e2 k2 hs2 hv2 hb2 hy2 p => ?_
    obtain ⟨d, ed, p⟩ := p.opt
    have x2 := (z.2.trans e1).trans e2
    obtain ⟨w3, k3, x3, l3, rv⟩ := hv2.give k2 ed e2 (hy2 (frz_tag ed))
    have x13 := e1.trans x3
    have at3 : H2 pa = some (.dK []) := x13.keep pa _ upd_same nθ
    have nθ3 : pa ∉ w3.θ := x13.offθ upd_same nθ
    have nF3 : w3.F pa = none := x13.offF upd_same nF nθ
    have ex := key_ro ek (hv.ext x3)
    refine ⟨at3, [(kk, v2)], by rw [ex]; rfl, by simp, ?_⟩
    have pr : PR T w3 [(kk, v2)] [(kk, d)] := .cons rv .nil
    have k4 := (k3.poke (.dK [(kk, v2)]) nθ3 nF3).toCell upd_same nθ3 nF3 (.dk pr)
    have x4 : Ext w H w3 (upd H2 pa (.dK [(kk, v2)])) := by
      refine ⟨fun a u e nn => ?_, fun a e => ?_, (z.2.trans x13).F, (z.2.trans x13).new, (z.2.trans x13).θ⟩
      · have ne := ne_of_none e hp
        rw [upd_ne ne]
        exact (z.2.trans x13).keep a u e nn
      · have ne : a ≠ pa := fun z => by rw [z, upd_same] at e; cases e
        rw [upd_ne ne] at e
        exact (z.2.trans x13).dom a e
    exact GE.fz (p _ _ (x4.toCell hp) k4) (.obj (by show (w3.θ ++ [pa])[r2.2.length]? = _; rw [← k3.len]; simp))
  | [], _, q => simp [isE] at q
  | none :: u, v, q => cases u <;> cases v <;> simp [isE] at q
  | some _ :: _ :: _, _, q => simp [isE] at q
  | [some _], [], q => simp [isE] at q
  | [some _], _ :: _ :: _, q => simp [isE] at q
/-! ### get, pop -/
theorem cell_of {v : V} {o : O} {m : Nat} (h : cellN κ o.d = some m) (r : RO T w H v o) : ∃ a kvs, v = .ref a ∧ w.θ[m]? = some a ∧ readAt κ m = some kvs := by
  cases o with
  | fz d =>
    cases d <;> simp only [O.d, cellN, reduceCtorEq, Option.map_eq_some_iff] at h
    obtain ⟨kvs, e, rfl⟩ := h
    cases (show RV T w v _ from r) with
    | obj et => exact ⟨_, kvs, rfl, et, e⟩
  | _ => simp [O.d, cellN] at h
theorem m2_of {X : Cx} {o e f : Expr} {m : Str} {ap cp : Pos} {sc : Scope} {k x : E} (h1 : notCall o = true) (h2 : (ap.endLine == cp.line) = true) (qk : isE S N none k sc e = true) (qx : isE S N none x sc f = true) : M2 X o m ap e f cp := by
  have s2 := notStar qx X.env []
  have s1 := notStar qk X.env [f]
  have et : backTo cp (starEach [e, f] X.env) = [(false, eval e X.env), (false, eval f X.env)] := by rw [s1, s2]; rfl
  exact ⟨base_of h1 m X.env, by rw [et]; rfl, h2, et⟩
theorem pe_get_ok {d k x : E} (hd : PEok T S Γ N n d) (hk : PEok T S Γ N n k) (hx : PEok T S Γ N n x) : PEok T S Γ N n (.get d k x) := by
  intro sc y X W q g tk
  have hu := g.hu
  cases y <;> try (simp [isE] at q; done)
  rename_i fn args kws pos
  cases fn <;> try (simp [isE] at q; done)
  rename_i o m ap
  match args, kws, q with
  | [e, f], [], q =>
    simp only [isE, Bool.and_eq_true, decide_eq_true_eq] at q
    obtain ⟨⟨⟨⟨⟨rfl, q2⟩, q3⟩, q4⟩, q5⟩, q6⟩ := q
    refine peI (pe_dget2 (by omega) (hd sc o X W q4 g tk) (hk sc e X W q5 g tk) (hx sc f X W q6 g tk) (m2_of q2 q3 q5 q6)) fun σV H Q h => ?_
    obtain ⟨w, σ, κ, hw, hs, p⟩ := h
    unfold ev at p
    refine tE_bind hw hs p fun r w1 H1 v er e k1 hs1 hv hb hy p => ?_
    obtain ⟨n0, en, p⟩ := p.opt
    obtain ⟨a, kvs0, rfl, et, e0⟩ := cell_of en hv
    obtain ⟨vs0, rd0, _⟩ := k1.read et e0
    refine ⟨a, rfl, .inl ⟨vs0, rd0⟩, ?_⟩
    refine tE_bindB e k1 hs1 p fun r2 w2 H2 v2 er2 e2 k2 hs2 hv2 hbr2 hy2 p => ?_
    refine tE_bindB (e.trans e2) k2 hs2 p fun r3 w3 H3 v3 er3 e3 k3 hs3 hv3 hbr3 hy3 p => ?_
    obtain ⟨kvs, ekv, p⟩ := p.opt
    obtain ⟨kk, ek, p⟩ := p.opt
    obtain ⟨d, ed, p⟩ := p.opt
    obtain ⟨vs, rd, pr⟩ := k3.read ((e2.trans e3).le.at et) ekv
    have ex := key_ro ek (hv2.ext e3)
    refine ⟨valV vs kk, .inl ⟨vs, kk, rd, ex, rfl⟩, ?_⟩
    have x03 := (e.trans e2).trans e3
    rcases pr.look kk with ⟨l1, l2⟩ | ⟨u, d', l1, l2, ru⟩
    · rw [l2] at ed
      rw [l1]
      obtain ⟨o3, κ3⟩ := r3
      cases o3 with
      | fz d0 => cases ed; exact GE.fz (p w3 H3 x03 k3) hv3
      | _ => cases ed
    · rw [l2] at ed
      cases ed
      rw [l1]
      exact GE.fz (p w3 H3 x03 k3) ru
  | [], _, q => simp [isE] at q
  | [_], _, q => simp [isE] at q
  | _ :: _ :: _ :: _, _, q => simp [isE] at q
  | [_, _], _ :: _, q => simp [isE] at q
theorem pe_pop_ok {d k x : E} (hd : PEok T S Γ N n d) (hk : PEok T S Γ N n k) (hx : PEok T S Γ N n x) : PEok T S Γ N n (.pop d k x) := by
  intro sc y X W q g tk
  cases y <;> try (simp [isE] at q; done)
  rename_i fn args kws pos
  cases fn <;> try (simp [isE] at q; done)
  rename_i o m ap
  match args, kws, q with
  | [e, f], [], q =>
    simp only [isE, Bool.and_eq_true, decide_eq_true_eq] at q
    obtain ⟨⟨⟨⟨⟨rfl, q2⟩, q3⟩, q4⟩, q5⟩, q6⟩ := q
    refine peI (pe_dpop2 (hd sc o X W q4 g tk) (hk sc e X W q5 g tk) (hx sc f X W q6 g tk) (m2_of q2 q3 q5 q6)) fun σV H Q h => ?_
    obtain ⟨w, σ, κ, hw, hs, p⟩ := h
    unfold ev at p
    refine tE_bind hw hs p fun r w1 H1 v er e k1 hs1 hv hb hy p => ?_
    obtain ⟨n0, en, p⟩ := p.opt
    obtain ⟨a, kvs0, rfl, et, e0⟩ := cell_of en hv
    obtain ⟨vs0, rd0, _⟩ := k1.read et e0
    refine ⟨a, rfl, .inl ⟨vs0, rd0⟩, ?_⟩
    refine tE_bindB e k1 hs1 p fun r2 w2 H2 v2 er2 e2 k2 hs2 hv2 hbr2 hy2 p => ?_
    refine tE_bindB (e.trans e2) k2 hs2 p fun r3 w3 H3 v3 er3 e3 k3 hs3 hv3 hbr3 hy3 p => ?_
    obtain ⟨kvs, ekv, p⟩ := p.opt
    obtain ⟨kk, ek, p⟩ := p.opt
    obtain ⟨d, ed, p⟩ := p.opt
    have et3 := (e2.trans e3).le.at et
    obtain ⟨vs, ha, pr, hF, _⟩ := k3.open_ et3 ekv
    have ex := key_ro ek (hv2.ext e3)
    have x03 := (e.trans e2).trans e3
    refine ⟨vs, kk, ha, ex, fun u hu => ?_, fun hu => ?_⟩
    · rcases pr.look kk with ⟨l1, _⟩ | ⟨u', d', l1, l2, ru⟩
      · rw [l1] at hu; cases hu
      · rw [l1] at hu
        cases hu
        rw [l2] at ed p
        cases ed
        exact GE.fz (p w3 _ (x03.setCell (List.mem_of_getElem? et3)) (k3.setCell et3 hF (.dk (pr.drop kk)))) ru
    · rcases pr.look kk with ⟨l1, l2⟩ | ⟨u', d', l1, _⟩
      · rw [l2] at ed p
        obtain ⟨o3, κ3⟩ := r3
        cases o3 with
        | fz d0 => cases ed; exact GE.fz (p w3 H3 x03 k3) hv3
        | _ => cases ed
      · rw [l1] at hu; cases hu
  | [], _, q => simp [isE] at q
  | [_], _, q => simp [isE] at q
  | _ :: _ :: _ :: _, _, q => simp [isE] at q
  | [_, _], _ :: _, q => simp [isE] at q
/-! ### dict(x) -/
theorem pairs_rel (hl : Same w.F H) : ∀ {vs : List V} {ps : List D} {kvs : List (Key × D)}, RVs T w vs ps → pairsD ps = some kvs → ∃ (as : List Addr) (us : List (Key × V)), vs = as.map V.ref ∧ Paired (fun p kv => SqT T.K H p [kV kv.1, kv.2]) as us ∧ PR T w us kvs
  | _, _, kvs, .nil, h => by
    cases h
    exact ⟨[], [], rfl, .nil, .nil⟩
  | _, _, kvs, .cons (d := d) a r, h => by
    unfold pairsD at h
    split at h
    · cases (‹_ :: _ = ([] : List D)› : _)
    · rename_i x y r' e
      cases e
      obtain ⟨k, ek, h⟩ := Option.bind_eq_some_iff.mp h
      obtain ⟨kvs', e2, rfl⟩ := Option.map_eq_some_iff.mp h
      obtain ⟨as, us, rfl, pp, pr⟩ := pairs_rel hl r e2
      cases a with
      | tup q r2 =>
        cases r2 with
        | cons hx r3 =>
          cases r3 with
          | cons hy r4 =>
            cases r4
            cases key_rv ek hx
            exact ⟨_ :: as, (k, _) :: us, rfl, .cons (sqT_mono hl q) pp, .cons hy pr⟩
    · cases h
def rDc (T : Tb) : List V → Hp → VK → Prop := fun xs H Q => ∃ x w κ ox kvs, xs = [x] ∧ Wok T w H κ ∧ RO T w H x ox ∧ dcpD κ ox.d = some kvs ∧ ∀ p vs, H p = none → PR T w vs kvs → Q (.ref p) (upd H p (.dK vs))
theorem cr_dcp {X : Cx} (hK : X.K = T.K) (hc : X.calm = true) : CallR X (.type "dict") (rDc T) := by
  intro pins; intro s σ H xs us Q I r q
  obtain ⟨x, w, κ, ox, kvs, rfl, hw, hx, ed, q⟩ := q
  generalize eq : ox.d = dx at ed
  cases dx <;> simp only [dcpD, reduceCtorEq] at ed
  · rename_i ps
    obtain ⟨kvs0, e1, rfl⟩ := Option.map_eq_some_iff.mp ed
    obtain ⟨a, vs, rfl, ha, rv⟩ := rd_lst hx hw eq
    obtain ⟨as, ks, rfl, pp, pr⟩ := pairs_rel hw.le rv e1
    refine call_dictP hc pins s σ H _ us Q I r ⟨a, as, ks, rfl, .inl (.inl ha), by rw [hK]; exact pp, fun p hp => q p _ hp (PR.merge pr .nil)⟩
  · rename_i m
    cases (show RV T w x (.obj m) from rd_fz hx eq (by cases ox <;> simp_all [O.d, O.place])) with
    | obj et =>
      obtain ⟨vs, rd, pr⟩ := hw.read et ed
      exact call_dictD pins s σ H _ us Q I r ⟨_, vs, rfl, rd, fun p hp => q p _ hp pr⟩
theorem pe_dcp_ok {a : E} (ha : PEok T S Γ N n a) : PEok T S Γ N n (.dcp a) := by
  intro sc x X W q g tk
  cases x <;> try (simp [isE] at q; done)
  rename_i fn args kws pos
  cases fn <;> try (simp [isE] at q; done)
  rename_i nm np
  match args, kws, q with
  | [y], [], q =>
    simp only [isE, Bool.and_eq_true, decide_eq_true_eq] at q
    obtain ⟨⟨rfl, q1⟩, q2⟩ := q
    refine peI (pe_callTy (cr_dcp g.hK g.calm) (gl_of q1 g.hsc) (g.bi_of _) (by decide +kernel) (pa_cons (ha sc _ X W q2 g tk) pa_nil (notStar q2 X.env [])) (by decide) (by decide) (notStar q2 X.env [])) fun σV H Q h => ?_
    obtain ⟨w, σ, κ, hw, hs, p⟩ := h
    unfold ev at p
    refine tE_bind hw hs p fun r w1 H1 v er e k hs1 hv hbr hy p => ?_
    obtain ⟨kvs, ed, p⟩ := p.opt
    refine ⟨v, w1, r.2, r.1, kvs, rfl, k, hv, ed, fun pa vs hp pr => ?_⟩
    obtain ⟨z1, z2, z3⟩ := newCell k hp pr
    exact GE.fz (p _ _ (e.trans z2) z1) z3
  | [], _, q => simp [isE] at q
  | _ :: _ :: _, _, q => simp [isE] at q
  | [_], _ :: _, q => simp [isE] at q
/-! ### a cell is walked -/
section
variable {a : Addr} {od : Obj} {us : List (Key × V)}
theorem notUs_tup {F : Hp} (hf : F a = some (.frz od (.dK us))) {b : Addr} {vs : List V} (q : SqT T.K F b vs) : SqT T.K (hide a F) b vs := by
  rcases q with (q | ⟨o, q⟩) | q
  · exact .inl (.inl (by rw [hide_ne (fun z => by rw [z, hf] at q; cases q)]; exact q))
  · exact .inl (.inr ⟨o, by rw [hide_ne (fun z => by rw [z, hf] at q; cases q)]; exact q⟩)
  · exact .inr q
theorem notUs_lst {F : Hp} (hf : F a = some (.frz od (.dK us))) {b : Addr} {vs : List V} (q : SqL T.K F b vs) : SqL T.K (hide a F) b vs := by
  rcases q with (q | ⟨o, q⟩) | q
  · exact .inl (.inl (by rw [hide_ne (fun z => by rw [z, hf] at q; cases q)]; exact q))
  · exact .inl (.inr ⟨o, by rw [hide_ne (fun z => by rw [z, hf] at q; cases q)]; exact q⟩)
  · exact .inr q
theorem notUs {F : Hp} (hf : F a = some (.frz od (.dK us))) {b : Addr} {o : HO} (q : F b = some o) (h : ∀ od' u, o ≠ .frz od' u) : hide a F b = some o := by
  rw [hide_ne (fun z => by rw [z, hf] at q; cases q; exact h _ _ rfl)]
  exact q
def Wd.un (w : Wd) (a : Addr) : Wd := ⟨hide a w.F, w.θ⟩
mutual
theorem RV.un (hf : w.F a = some (.frz od (.dK us))) : ∀ {v : V} {d : D}, RV T w v d → RV T (w.un a) v d
  | _, _, .non => .non
  | _, _, .bl b => .bl b
  | _, _, .int i => .int i
  | _, _, .str x => .str x
  | _, _, .tup q r => .tup (notUs_tup hf q) (RVs.un hf r)
  | _, _, .lst q r => .lst (notUs hf q (by simp)) (RVs.un hf r)
  | _, _, .scr q r => .scr (notUs_lst hf q) (RVs.un hf r)
  | _, _, .dK q e r => .dK (notUs hf q (by simp)) e (RVs.un hf r)
  | _, _, .dT q e r => .dT (notUs hf q (by simp)) e (RVs.un hf r)
  | _, _, .ins c q e r => .ins c (notUs hf q (by simp)) e (RVs.un hf r)
  | _, _, .obj e => .obj e
theorem RVs.un (hf : w.F a = some (.frz od (.dK us))) : ∀ {vs : List V} {ds : List D}, RVs T w vs ds → RVs T (w.un a) vs ds
  | _, _, .nil => .nil
  | _, _, .cons a r => .cons (RV.un hf a) (RVs.un hf r)
end
theorem PR.un {κ : Type} (hf : w.F a = some (.frz od (.dK us))) : ∀ {vs : List (κ × V)} {ds : List (κ × D)}, PR T w vs ds → PR T (w.un a) vs ds
  | _, _, .nil => .nil
  | _, _, .cons a r => .cons (RV.un hf a) (PR.un hf r)
theorem RC.un {o : HO} {c : Co} (hf : w.F a = some (.frz od (.dK us))) (r : RC T w o c) : RC T (w.un a) o c := by
  cases r with
  | dk p => exact .dk (p.un hf)
  | dt p => exact .dt (p.un hf)
  | ls p => exact .ls (p.un hf)
theorem RO.un {v : V} {o : O} (hf : w.F a = some (.frz od (.dK us))) (ha : a ∈ w.θ) (r : RO T w H v o) (u : HO) : RO T (w.un a) (upd H a u) v o := by
  cases o with
  | fz d => exact RV.un hf r
  | ol b xs =>
    obtain ⟨c, vs, e, h1, r, h2, h3⟩ := r
    exact ⟨c, vs, e, by rw [upd_ne (fun z => h2 (by rw [z]; exact ha))]; exact h1, r.un hf, h2, hide_none h3⟩
  | od b xs =>
    obtain ⟨c, vs, e, h1, r, h2, h3⟩ := r
    exact ⟨c, vs, e, by rw [upd_ne (fun z => h2 (by rw [z]; exact ha))]; exact h1, r.un hf, h2, hide_none h3⟩
  | ot b xs =>
    obtain ⟨c, vs, e, h1, r, h2, h3⟩ := r
    exact ⟨c, vs, e, by rw [upd_ne (fun z => h2 (by rw [z]; exact ha))]; exact h1, r.un hf, h2, hide_none h3⟩
theorem RS.un {σV : L2.St} {σ : Sl} (hf : w.F a = some (.frz od (.dK us))) (ha : a ∈ w.θ) (r : RS T w H σV σ) (u : HO) : RS T (w.un a) (upd H a u) σV σ :=
  ⟨r.len, fun i o q => let ⟨v, h1, h2⟩ := r.at_ i o q; ⟨v, h1, h2.un hf ha u⟩, r.apart, r.tag⟩
/-- the lock -/
theorem Wok.lock {m : Nat} {kvs : List (Key × D)} (k : Wok T w H κ) (et : w.θ[m]? = some a) (e : κ[m]? = some ⟨false, .dk kvs⟩) (od : Obj) : ∃ us, H a = some (.dK us) ∧ w.F a = none ∧ PR T w us kvs ∧ ∀ od, Wok T (w.put a (.frz od (.dK us))) (upd H a (.frz od (.dK us))) (κ.set m ⟨true, .dk kvs⟩) ∧ Ext w H (w.put a (.frz od (.dK us))) (upd H a (.frz od (.dK us))) := by
  obtain ⟨us, ha, pr, hF, _⟩ := k.open_ (kvs := kvs) et (by unfold openAt; rw [e])
  have hm : m < κ.length := (List.getElem?_eq_some_iff.mp e).1
  refine ⟨us, ha, hF, pr, fun od => ⟨⟨fun b u h => ?_, k.nd, by simp [Wd.put, k.len], fun j b h => ?_⟩, ⟨fun b u h nb => ?_, fun b h => ?_, same_upd _ hF, fun b h q => ?_, [], by simp [Wd.put], by simp⟩⟩⟩
  · have h : upd w.F a _ b = some u := h
    unfold upd at h ⊢
    split
    · rw [if_pos (by assumption)] at h; exact h
    · rw [if_neg (by assumption)] at h; exact k.le b u h
  · have h : w.θ[j]? = some b := h
    by_cases hj : m = j
    · subst hj
      rw [et] at h; cases h
      exact ⟨.dK us, ⟨true, .dk kvs⟩, by rw [List.getElem?_set_self hm], .dk (pr.mono (le_put _ hF)), od, by show upd _ _ _ _ = _; exact upd_same⟩
    · obtain ⟨u, c, h1, h2, h3⟩ := k.cell j b h
      have nb : b ≠ a := fun z => by
        subst z
        exact hj ((List.getElem?_inj (List.getElem?_eq_some_iff.mp et).1 k.nd).mp (et.trans h.symm))
      exact ⟨u, c, by rw [List.getElem?_set_ne hj]; exact h1, h2.mono (le_put _ hF), h3.move (upd_ne nb) (upd_ne nb)⟩
  · rw [upd_ne (fun z => nb (by rw [z]; exact List.mem_of_getElem? et))]; exact h
  · unfold upd at h
    split at h
    · cases h
    · exact h
  · have q' : upd w.F a _ b ≠ none := q
    unfold upd at q'
    split at q'
    · rename_i z; rw [z]; exact .inr (List.mem_of_getElem? et)
    · exact absurd h q'
/-- .. is taken away -/
theorem Wok.unlock {m : Nat} {kvs : List (Key × D)} (k : Wok T w H κ) (et : w.θ[m]? = some a) (hf : w.F a = some (.frz od (.dK us))) (pr : PR T w us kvs) : Wok T (w.un a) (upd H a (.dK us)) (κ.set m ⟨false, .dk kvs⟩) := by
  have hm : m < κ.length := by rw [← k.len]; exact (List.getElem?_eq_some_iff.mp et).1
  refine ⟨fun b u h => ?_, k.nd, by simp [Wd.un, k.len], fun j b h => ?_⟩
  · have h := hide_some h
    rw [upd_ne h.1]
    exact k.le b u h.2
  · have h : w.θ[j]? = some b := h
    by_cases hj : m = j
    · subst hj
      rw [et] at h; cases h
      exact ⟨.dK us, ⟨false, .dk kvs⟩, by rw [List.getElem?_set_self hm], .dk (pr.un hf), hide_self, upd_same⟩
    · obtain ⟨u, c, h1, h2, h3⟩ := k.cell j b h
      have nb : b ≠ a := fun z => by
        subst z
        exact hj ((List.getElem?_inj (List.getElem?_eq_some_iff.mp et).1 k.nd).mp (et.trans h.symm))
      exact ⟨u, c, by rw [List.getElem?_set_ne hj]; exact h1, h2.un hf, h3.move (hide_ne nb) (upd_ne nb)⟩
theorem Ext.unlock (x : Ext w₀ H₀ w H) (ha : a ∈ w.θ) (hF : w₀.F a = none) (u : HO) : Ext w₀ H₀ (w.un a) (upd H a u) := by
  obtain ⟨l, el, hl⟩ := x.θ
  refine ⟨fun b o e nb => ?_, fun b e => ?_, fun b o e => ?_, fun b e q => ?_, l, el, hl⟩
  · have ne : b ≠ a := fun z => by
      rw [z] at nb e
      rw [el] at ha
      rcases List.mem_append.mp ha with h | h
      · exact nb h
      · rw [hl a h] at e; cases e
    rw [upd_ne ne]
    exact x.keep b o e nb
  · have ne : b ≠ a := fun z => by rw [z, upd_same] at e; cases e
    rw [upd_ne ne] at e
    exact x.dom b e
  · show hide a w.F b = some o
    rw [hide_ne (fun z => by rw [z, hF] at e; cases e)]
    exact x.F b o e
  · have q : hide a w.F b ≠ none := q
    by_cases z : b = a
    · exact absurd (by rw [z]; exact hide_self) q
    · rw [hide_ne z] at q
      exact x.new b e q
end
theorem pe_or {X : Cx} {e : Expr} {t u : TE} (h : PE X e t) (k : PE X e u) : PE X e (fun σ H Q => t σ H Q ∨ u σ H Q) := ⟨fun pins s σ H Q I q => q.elim (h.run pins s σ H Q I) (k.run pins s σ H Q I)⟩
theorem pe_lck_ok {e c : E} (hc : PEok T S Γ N n c) : PEok T S Γ N n (.lck e c) := by
  intro sc x X W q g tk
  have q2 : isE S N none c sc x = true := by
    cases x <;> simp only [isE, isLc, Bool.false_and, Bool.false_eq_true, Bool.true_and] at q
    exact q
  have h := hc sc x X W q2 g tk
  refine peI (pe_or (pe_lock h) h) fun σV H Q h => ?_
  obtain ⟨w, σ, κ, hw, hs, p⟩ := h
  unfold ev at p
  obtain ⟨x0, ex0, p⟩ := p.noexc
  have plain : Post T w H (ev Γ c σ κ) (fun c d H' => W c d σV H') (GE T H σV Q) → tLockE (tE T Γ c W) σV H Q ∨ tE T Γ c W σV H Q := fun p => .inr ⟨w, σ, κ, hw, hs, p⟩
  obtain ⟨o0, κ0⟩ := x0
  dsimp only at p
  split at p
  · rename_i m
    split at p
    · rename_i kvs ec
      obtain ⟨y, ey, p⟩ := p.noexc
      obtain ⟨a, et⟩ : ∃ a, w.θ[m]? = some a := ⟨_, List.getElem?_eq_getElem (by rw [hw.len]; exact (List.getElem?_eq_some_iff.mp ec).1)⟩
      obtain ⟨us, ha, hF, pr, hl⟩ := hw.lock et ec default
      refine .inl ⟨a, .dK us, ha, True.intro, fun od => ?_⟩
      obtain ⟨kL, xL⟩ := hl od
      refine ⟨_, σ, _, kL, hs.ext xL, post_ok ey fun w' H' e' k' v hv hb hy => ?_⟩
      have hf : w'.F a = some (.frz od (.dK us)) := e'.F _ _ (by show upd _ _ _ _ = _; exact upd_same)
      have et' : w'.θ[m]? = some a := e'.le.at et
      have x' := xL.trans e'
      refine ⟨k'.le _ _ hf, p _ _ (x'.unlock (List.mem_of_getElem? et') hF _) (k'.unlock et' hf (pr.mono x'.le)) v (hv.un hf (List.mem_of_getElem? et') _) hb fun ht pl b eb => ?_⟩
      exact xL.dom b (hy ht pl b eb)
    · exact plain p
  · exact plain p
end
end R

/-! R19: every expression. -/
namespace R
open L2 PyProof.Rows PySem.Spec PySem
section
variable {T : Tb} {S : Sg} {Γ : Cxt} {N : List Str} {n : Nat}
structure AllOk (T : Tb) (S : Sg) (Γ : Cxt) (N : List Str) (n : Nat) (e : E) : Prop where
  pe : PEok T S Γ N n e
  pt : PTok T S Γ N n e
  pa : PAok T S Γ N n e
  pi : PIok T S Γ N n e
  pf : PFok T S Γ N n e
  pc : PCok T S Γ N n e
  pw : PWok T S Γ N n e
  pl : PEok T S Γ N n (.lrng e)
theorem no_lrng {e : E} (h : isRng e = false) : PEok T S Γ N n (.lrng e) := fun sc x X W q => by
  cases x <;> try (simp [isE] at q; done)
  rename_i fn xs kws pos
  cases fn <;> try (simp [isE] at q; done)
  match xs, kws, q with
  | [y], [], q => simp [isE, h] at q
  | [], _, q => simp [isE] at q
  | _ :: _ :: _, _, q => simp [isE] at q
  | [_], _ :: _, q => simp [isE] at q
theorem pt_by {e : E} (he : PEok T S Γ N n e) (hp : ∀ sc x, isE S N none e sc x = true → PlainT x) : PTok T S Γ N n e := fun sc x X W q g tk => pt_plain he q g tk (hp sc x q)
theorem all_val {e : E} (hl : isRng e = false) (he : PEok T S Γ N n e) (hp : ∀ sc x, isE S N none e sc x = true → PlainT x) (ha : ∀ sc xs, isEs S N none e sc xs = false) (hi : ∀ sc x, isIt S N none e sc x = false) (hw : ∀ sc op xs pos, isE S N none e sc (.BoolOp op xs pos) = false) : AllOk T S Γ N n e where
  pe := he
  pt := pt_by he hp
  pa := fun sc xs X W q => by rw [ha] at q; cases q
  pi := fun sc tg x X W q => by rw [hi] at q; cases q
  pf := fun sc xs X q => by rw [ha] at q; cases q
  pc := fun sc ks keys xs X W pos _ _ q => by rw [ha] at q; cases q
  pw := fun sc op xs pos X W q => by rw [hw] at q; cases q
  pl := no_lrng hl
theorem all_it {e : E} (hl : PEok T S Γ N n (.lrng e)) (hit : PIok T S Γ N n e) (he : ∀ sc x, isE S N none e sc x = false) (ha : ∀ sc xs, isEs S N none e sc xs = false) : AllOk T S Γ N n e where
  pe := fun sc x X W q => by rw [he] at q; cases q
  pt := fun sc x X W q => by rw [he] at q; cases q
  pa := fun sc xs X W q => by rw [ha] at q; cases q
  pi := hit
  pf := fun sc xs X q => by rw [ha] at q; cases q
  pc := fun sc ks keys xs X W pos _ _ q => by rw [ha] at q; cases q
  pw := fun sc op xs pos X W q => by rw [he] at q; cases q
  pl := hl
theorem all_no {e : E} (hl : isRng e = false) (he : ∀ sc x, isE S N none e sc x = false) (ha : ∀ sc xs, isEs S N none e sc xs = false) (hi : ∀ sc x, isIt S N none e sc x = false) : AllOk T S Γ N n e := all_it (no_lrng hl) (fun sc tg x X W q => by rw [hi] at q; cases q) he ha
theorem all_ok : ∀ e : E, AllOk T S Γ N n e := by
  intro e
  induction e with
  | var i => exact all_val rfl (pe_var_ok i) (fun sc x q => by cases x <;> first | (intro _ _; rfl) | (simp [isE] at q; done)) (fun sc xs => by cases xs <;> simp [isEs]) (fun sc x => by simp [isIt]) (fun sc op xs pos => by simp [isE])
  | cst d => exact all_val rfl (pe_cst_ok d) (fun sc x q => by cases x <;> first | (intro _ _; rfl) | (simp [isE] at q; done)) (fun sc xs => by cases xs <;> simp [isEs]) (fun sc x => by simp [isIt]) (fun sc op xs pos => by simp [isE])
  | gcn i => exact all_val rfl (pe_gcn_ok i) (fun sc x q => by cases x <;> first | (intro _ _; rfl) | (simp [isE] at q; done)) (fun sc xs => by cases xs <;> simp [isEs]) (fun sc x => by simp [isIt]) (fun sc op xs pos => by simp [isE])
  | tup es h => exact all_val rfl (pe_tup_ok h.pa) (fun sc x q => by cases x <;> first | (intro _ _; rfl) | (simp [isE] at q; done)) (fun sc xs => by cases xs <;> simp [isEs]) (fun sc x => by simp [isIt]) (fun sc op xs pos => by simp [isE])
  | lst es h => exact all_val rfl (pe_lst_ok h.pa) (fun sc x q => by cases x <;> first | (intro _ _; rfl) | (simp [isE] at q; done)) (fun sc xs => by cases xs <;> simp [isEs]) (fun sc x => by simp [isIt]) (fun sc op xs pos => by simp [isE])
  | bin op a b ha hb => exact all_val rfl (pe_bin_ok op ha.pe hb.pe) (fun sc x q => by cases x <;> first | (intro _ _; rfl) | (simp [isE] at q; done)) (fun sc xs => by cases xs <;> simp [isEs]) (fun sc x => by simp [isIt]) (fun sc op xs pos => by simp [isE])
  | neg a ha => exact all_val rfl (pe_neg_ok ha.pe) (fun sc x q => by
      cases x <;> try (simp [isE] at q; done)
      rename_i op y pos
      cases op <;> first | (intro _ _; rfl) | (simp [isE] at q; done)) (fun sc xs => by cases xs <;> simp [isEs]) (fun sc x => by simp [isIt]) (fun sc op xs pos => by simp [isE])
  | idx a b ha hb => exact all_val rfl (pe_idx_ok ha.pe hb.pe) (fun sc x q => by cases x <;> first | (intro _ _; rfl) | (simp [isE] at q; done)) (fun sc xs => by cases xs <;> simp [isEs]) (fun sc x => by simp [isIt]) (fun sc op xs pos => by simp [isE])
  | slc a b c ha hb hc => exact all_val rfl (pe_slc_ok ha.pe hb.pe hc.pe) (fun sc x q => by cases x <;> first | (intro _ _; rfl) | (simp [isE] at q; done)) (fun sc xs => by cases xs <;> simp [isEs]) (fun sc x => by simp [isIt]) (fun sc op xs pos => by simp [isE])
  | rev a ha => exact all_val rfl (pe_rev_ok ha.pe) (fun sc x q => by cases x <;> first | (intro _ _; rfl) | (simp [isE] at q; done)) (fun sc xs => by cases xs <;> simp [isEs]) (fun sc x => by simp [isIt]) (fun sc op xs pos => by simp [isE])
  | fld a m ha => exact all_val rfl (pe_fld_ok ha.pe) (fun sc x q => by cases x <;> first | (intro _ _; rfl) | (simp [isE] at q; done)) (fun sc xs => by cases xs <;> simp [isEs]) (fun sc x => by simp [isIt]) (fun sc op xs pos => by simp [isE])
  | isi a tys many ha => exact all_val rfl (pe_isi_ok ha.pe) (fun sc x q => by cases x <;> first | (intro _ _; rfl) | (simp [isE] at q; done)) (fun sc xs => by cases xs <;> simp [isEs]) (fun sc x => by simp [isIt]) (fun sc op xs pos => by simp [isE])
  | call f es h => exact all_val rfl (pe_call_ok h.pa) (fun sc x q => by cases x <;> first | (intro _ _; rfl) | (simp [isE] at q; done)) (fun sc xs => by cases xs <;> simp [isEs]) (fun sc x => by simp [isIt]) (fun sc op xs pos => by simp [isE])
  | blt1 b a ha => exact all_val rfl (pe_blt1_ok b ha.pe) (fun sc x q => by cases x <;> first | (intro _ _; rfl) | (simp [isE] at q; done)) (fun sc xs => by cases xs <;> simp [isEs]) (fun sc x => by simp [isIt]) (fun sc op xs pos => by simp [isE])
  | blt2 b a a' ha ha' => exact all_val rfl (pe_blt2_ok b ha.pe ha'.pe) (fun sc x q => by cases x <;> first | (intro _ _; rfl) | (simp [isE] at q; done)) (fun sc xs => by cases xs <;> simp [isEs]) (fun sc x => by simp [isIt]) (fun sc op xs pos => by simp [isE])
  | make c es h => exact all_val rfl (pe_make_ok h.pa) (fun sc x q => by cases x <;> first | (intro _ _; rfl) | (simp [isE] at q; done)) (fun sc xs => by cases xs <;> simp [isEs]) (fun sc x => by simp [isIt]) (fun sc op xs pos => by simp [isE])
  | cell ks es h => exact all_val rfl (pe_cell_ok h.pc) (fun sc x q => by cases x <;> first | (intro _ _; rfl) | (simp [isE] at q; done)) (fun sc xs => by cases xs <;> simp [isEs]) (fun sc x => by simp [isIt]) (fun sc op xs pos => by simp [isE])
  | comp own tg it ifs elt h1 h2 h3 => exact all_val rfl (pe_comp_ok h1.pi h2.pf h3.pe) (fun sc x q => by cases x <;> first | (intro _ _; rfl) | (simp [isE] at q; done)) (fun sc xs => by cases xs <;> simp [isEs]) (fun sc x => by simp [isIt]) (fun sc op xs pos => by simp [isE])
  | lrng it h => exact all_val rfl h.pl (fun sc x q => by cases x <;> first | (intro _ _; rfl) | (simp [isE] at q; done)) (fun sc xs => by cases xs <;> simp [isEs]) (fun sc x => by simp [isIt]) (fun sc op xs pos => by simp [isE])
  | get d k x h1 h2 h3 => exact all_val rfl (pe_get_ok h1.pe h2.pe h3.pe) (fun sc x q => by cases x <;> first | (intro _ _; rfl) | (simp [isE, isLc] at q; done)) (fun sc xs => by cases xs <;> simp [isEs]) (fun sc x => by simp [isIt]) (fun sc op xs pos => by simp [isE, isLc])
  | pop d k x h1 h2 h3 => exact all_val rfl (pe_pop_ok h1.pe h2.pe h3.pe) (fun sc x q => by cases x <;> first | (intro _ _; rfl) | (simp [isE, isLc] at q; done)) (fun sc xs => by cases xs <;> simp [isEs]) (fun sc x => by simp [isIt]) (fun sc op xs pos => by simp [isE, isLc])
  | dic k x h1 h2 => exact all_val rfl (pe_dic_ok h1.pe h2.pe) (fun sc x q => by cases x <;> first | (intro _ _; rfl) | (simp [isE, isLc] at q; done)) (fun sc xs => by cases xs <;> simp [isEs]) (fun sc x => by simp [isIt]) (fun sc op xs pos => by simp [isE, isLc])
  | dnew => exact all_val rfl pe_dnew_ok (fun sc x q => by cases x <;> first | (intro _ _; rfl) | (simp [isE, isLc] at q; done)) (fun sc xs => by cases xs <;> simp [isEs]) (fun sc x => by simp [isIt]) (fun sc op xs pos => by simp [isE, isLc])
  | dcp a h => exact all_val rfl (pe_dcp_ok h.pe) (fun sc x q => by cases x <;> first | (intro _ _; rfl) | (simp [isE, isLc] at q; done)) (fun sc xs => by cases xs <;> simp [isEs]) (fun sc x => by simp [isIt]) (fun sc op xs pos => by simp [isE, isLc])
  | lck e c _ h => exact all_val rfl (pe_lck_ok h.pe) (fun sc x q => by cases x <;> first | (intro _ _; rfl) | (simp [isE, isLc] at q; done)) (fun sc xs => by cases xs <;> simp [isEs]) (fun sc x => by simp [isIt]) (fun sc op xs pos => by simp [isE, isLc])
  | comp2 own tg it ifs tg2 it2 ifs2 elt h1 h2 h3 h4 h5 => exact all_val rfl (pe_comp2_ok h1.pi h2.pf h3.pi h4.pf h5.pe) (fun sc x q => by cases x <;> first | (intro _ _; rfl) | (simp [isE, isLc] at q; done)) (fun sc xs => by cases xs <;> simp [isEs]) (fun sc x => by simp [isIt]) (fun sc op xs pos => by simp [isE, isLc])
  | exf f => exact all_no rfl (fun sc x => by
      cases x <;> try (simp [isE]; done)
      rename_i y f pos
      cases y <;> simp [isE]) (fun sc xs => by cases xs <;> simp [isEs]) (fun sc x => by simp [isIt])
  | not a ha =>
    exact { pe := pe_not_ok ha.pe, pt := pt_not_ok ha.pt, pa := fun sc xs X W q => by cases xs <;> simp [isEs] at q, pi := fun sc tg x X W q => by simp [isIt] at q, pf := fun sc xs X q => by cases xs <;> simp [isEs] at q, pc := fun sc ks keys xs X W pos _ _ q => by cases xs <;> simp [isEs] at q, pw := fun sc op xs pos X W q => by simp [isE] at q, pl := no_lrng rfl }
  | and a b ha hb =>
    have hw := pw_and_ok ha.pt hb.pt hb.pw
    exact { pe := pe_and_ok ha.pe hb.pe, pt := pt_and_ok hw, pa := fun sc xs X W q => by cases xs <;> simp [isEs] at q, pi := fun sc tg x X W q => by simp [isIt] at q, pf := fun sc xs X q => by cases xs <;> simp [isEs] at q, pc := fun sc ks keys xs X W pos _ _ q => by cases xs <;> simp [isEs] at q, pw := hw, pl := no_lrng rfl }
  | or a b ha hb =>
    have hw := pw_or_ok ha.pt hb.pt hb.pw
    exact { pe := pe_or_ok ha.pe hb.pe, pt := pt_or_ok hw, pa := fun sc xs X W q => by cases xs <;> simp [isEs] at q, pi := fun sc tg x X W q => by simp [isIt] at q, pf := fun sc xs X q => by cases xs <;> simp [isEs] at q, pc := fun sc ks keys xs X W pos _ _ q => by cases xs <;> simp [isEs] at q, pw := hw, pl := no_lrng rfl }
  | cmp op a b ha hb =>
    exact { pe := pe_cmp_ok op ha.pe hb.pe, pt := pt_cmp_ok op ha.pe hb.pe, pa := fun sc xs X W q => by cases xs <;> simp [isEs] at q, pi := fun sc tg x X W q => by simp [isIt] at q, pf := fun sc xs X q => by cases xs <;> simp [isEs] at q, pc := fun sc ks keys xs X W pos _ _ q => by cases xs <;> simp [isEs] at q, pw := fun sc op xs pos X W q => by simp [isE] at q, pl := no_lrng rfl }
  | eqo a b ha hb =>
    exact { pe := pe_eqo_ok ha.pe hb.pe, pt := pt_eqo_ok ha.pe hb.pe, pa := fun sc xs X W q => by cases xs <;> simp [isEs] at q, pi := fun sc tg x X W q => by simp [isIt] at q, pf := fun sc xs X q => by cases xs <;> simp [isEs] at q, pc := fun sc ks keys xs X W pos _ _ q => by cases xs <;> simp [isEs] at q, pw := fun sc op xs pos X W q => by simp [isE] at q, pl := no_lrng rfl }
  | ite c a b hc ha hb =>
    exact { pe := pe_ite_ok hc.pt ha.pe hb.pe, pt := pt_ite_ok hc.pt ha.pt hb.pt, pa := fun sc xs X W q => by cases xs <;> simp [isEs] at q, pi := fun sc tg x X W q => by simp [isIt] at q, pf := fun sc xs X q => by cases xs <;> simp [isEs] at q, pc := fun sc ks keys xs X W pos _ _ q => by cases xs <;> simp [isEs] at q, pw := fun sc op xs pos X W q => by simp [isE] at q, pl := no_lrng rfl }
  | nil =>
    exact { pe := fun sc x X W q => by cases x <;> simp [isE] at q, pt := fun sc x X W q => by cases x <;> simp [isE] at q, pa := pa_nil_ok, pi := fun sc tg x X W q => by simp [isIt] at q, pf := pf_nil_ok, pc := pc_nil_ok, pw := fun sc op xs pos X W q => by simp [isE] at q, pl := no_lrng rfl }
  | cons a b ha hb =>
    exact { pe := fun sc x X W q => by cases x <;> simp [isE] at q, pt := fun sc x X W q => by cases x <;> simp [isE] at q, pa := pa_cons_ok ha.pe hb.pa, pi := fun sc tg x X W q => by simp [isIt] at q, pf := pf_cons_ok ha.pt, pc := pc_cons_ok ha.pe hb.pc, pw := fun sc op xs pos X W q => by simp [isE] at q, pl := no_lrng rfl }
  | walk a ha => exact all_it (no_lrng rfl) (pi_walk_ok ha.pe) (fun sc x => by cases x <;> simp [isE]) (fun sc xs => by cases xs <;> simp [isEs])
  | rng1 a ha => exact all_it (pe_lrng_ok (fun a e => by cases e; exact ha.pe) (fun a b e => by cases e)) (pi_rng1_ok ha.pe) (fun sc x => by cases x <;> simp [isE]) (fun sc xs => by cases xs <;> simp [isEs])
  | rng2 a b ha hb => exact all_it (pe_lrng_ok (fun a e => by cases e) (fun a b e => by cases e; exact ⟨ha.pe, hb.pe⟩)) (pi_rng2_ok ha.pe hb.pe) (fun sc x => by cases x <;> simp [isE]) (fun sc xs => by cases xs <;> simp [isEs])
  | zip a b ha hb => exact all_it (no_lrng rfl) (pi_zip_ok ha.pe hb.pe) (fun sc x => by cases x <;> simp [isE]) (fun sc xs => by cases xs <;> simp [isEs])
  | enum a ha => exact all_it (no_lrng rfl) (fun sc tg x X W q _ g tk => pi_bad fun σ κ => by unfold evIt; rfl) (fun sc x => by cases x <;> simp [isE]) (fun sc xs => by cases xs <;> simp [isEs])
  | _ => exact all_no rfl (fun sc x => by cases x <;> simp [isE]) (fun sc xs => by cases xs <;> simp [isEs]) (fun sc x => by simp [isIt])
end
end R

/-! R20: what is wanted behind statements. -/
namespace R
open L2 PyProof.Rows PySem.Spec PySem
/-- a def's body stands here: since its start (w₀, H₀) nothing but the cells has changed, and what is one's own is younger -/
structure At (T : Tb) (w₀ : Wd) (H₀ : Hp) (w : Wd) (σ : Sl) (κ : Cells) (σV : L2.St) (H : Hp) : Prop where
  wk : Wok T w H κ
  rs : RS T w H σV σ
  ext : Ext w₀ H₀ w H
  yg : ∀ (i : Nat) (o : O) (v : V), σ[i]? = some (some o) → σV[i]? = some (some v) → Young H₀ v o
/-- what is read alone stays -/
def Lk (σV : L2.St) (σ : Sl) (σV' : L2.St) (σ' : Sl) : Prop := ∀ (i : Nat) (o : O) (j : Nat), σ[i]? = some (some o) → o.tag = some j → σ'[i]? = some (some o) ∧ σV'[i]? = σV[i]?
theorem Lk.rfl' {σV : L2.St} {σ : Sl} : Lk σV σ σV σ := fun _ _ _ h _ => ⟨h, rfl⟩
theorem Lk.trans {σV σV1 σV2 : L2.St} {σ σ1 σ2 : Sl} (h : Lk σV σ σV1 σ1) (k : Lk σV1 σ1 σV2 σ2) : Lk σV σ σV2 σ2 := fun i o j e t => by
  obtain ⟨a, b⟩ := h i o j e t
  obtain ⟨c, d⟩ := k i o j a t
  exact ⟨c, d.trans b⟩
theorem Chg.lk {is : List Nat} {σV σV' : L2.St} {σ σ' : Sl} (h : Chg is σV σ σV' σ') : Lk σV σ σV' σ' := h.lock
def SPost (T : Tb) (w₀ : Wd) (H₀ : Hp) (w : Wd) (σ : Sl) (σV : L2.St) (out : Res) (W : WX) (D : Ends) : Prop := match out with
  | .nx σ' κ' => ∀ w' σV' H', At T w₀ H₀ w' σ' κ' σV' H' → Le w w' → Lk σV σ σV' σ' → D.nx σV' H'
  | .bk σ' κ' => ∀ w' σV' H', At T w₀ H₀ w' σ' κ' σV' H' → Le w w' → Lk σV σ σV' σ' → D.bk σV' H'
  | .ct σ' κ' => ∀ w' σV' H', At T w₀ H₀ w' σ' κ' σV' H' → Le w w' → Lk σV σ σV' σ' → D.ct σV' H'
  | .rt d κ' => ∀ w' H' v, Ext w₀ H₀ w' H' → Wok T w' H' κ' → RV T w' v d → D.rt v H'
  | .xc c fs σ' κ' => ∀ w' σV' H' cls d, At T w₀ H₀ w' σ' κ' σV' H' → Le w w' → Lk σV σ σV' σ' → RX T w' cls d c fs → W cls d σV' H'
  | .bad => False
def tS (T : Tb) (Γ : Cxt) (s : S) (W : WX) : TS := fun D σV H => ∃ w₀ H₀ w σ κ, At T w₀ H₀ w σ κ σV H ∧ SPost T w₀ H₀ w σ σV (exec Γ s σ κ) W D
section
variable {T : Tb} {Γ : Cxt} {w₀ w w' : Wd} {H₀ H H' : Hp} {σ σ' : Sl} {κ κ' : Cells} {σV σV' : L2.St} {W : WX} {Dn : Ends}
theorem SPost.step {out : Res} (p : SPost T w₀ H₀ w σ σV out W Dn) (l : Le w w') (k : Lk σV σ σV' σ') : SPost T w₀ H₀ w' σ' σV' out W Dn := by
  cases out with
  | nx _ _ => exact fun w2 s2 h2 a l2 k2 => p w2 s2 h2 a (l.trans l2) (k.trans k2)
  | bk _ _ => exact fun w2 s2 h2 a l2 k2 => p w2 s2 h2 a (l.trans l2) (k.trans k2)
  | ct _ _ => exact fun w2 s2 h2 a l2 k2 => p w2 s2 h2 a (l.trans l2) (k.trans k2)
  | rt _ _ => exact p
  | xc _ _ _ _ => exact fun w2 s2 h2 c d a l2 k2 => p w2 s2 h2 c d a (l.trans l2) (k.trans k2)
  | bad => exact p
/-- behind an expression -/
theorem At.ev (a : At T w₀ H₀ w σ κ σV H) (e : Ext w H w' H') (k : Wok T w' H' κ') : At T w₀ H₀ w' σ κ' σV H' := ⟨k, a.rs.ext e, a.ext.trans e, a.yg⟩
theorem SPost.exE {α : Type} {m : Out (α × Cells)} {f : α × Cells → Res} (a : At T w₀ H₀ w σ κ σV H) (p : SPost T w₀ H₀ w σ σV (R.exE m σ f) W Dn) {G : α × Cells → Wd → Hp → Prop} (h : ∀ r w' H', m = .ok r → Ext w H w' H' → Wok T w' H' r.2 → SPost T w₀ H₀ w' σ σV (f r) W Dn → G r w' H') :
    Post T w H m (fun c d H' => W c d σV H') G := by
  cases m with
  | ok r => exact fun w' H' e k => h r w' H' rfl e k (SPost.step (show SPost T w₀ H₀ w σ σV (f r) W Dn from p) e.le Lk.rfl')
  | exc c fs κ' => exact fun w' H' cls d e k rx => (show SPost T w₀ H₀ w σ σV (.xc c fs σ κ') W Dn from p) w' σV H' cls d (a.ev e k) e.le Lk.rfl' rx
  | bad => exact p.elim
theorem SPost.exO {α : Type} {m : Option α} {f : α → Res} (p : SPost T w₀ H₀ w σ σV (R.exO m f) W Dn) : ∃ x, m = some x ∧ SPost T w₀ H₀ w σ σV (f x) W Dn := by
  cases m with
  | none => exact p.elim
  | some x => exact ⟨x, rfl, p⟩
theorem At.setFz {i : Nat} {v : V} {d : D} (a : At T w₀ H₀ w σ κ σV H) (r : RV T w v d) : At T w₀ H₀ w (σ.set i (some (.fz d))) κ (σV.set i (some v)) H :=
  ⟨a.wk, a.rs.setFz r, a.ext, fun j o u e1 e2 => by
    rcases get_set e1 with ⟨rfl, e, _⟩ | ⟨ne, e⟩
    · cases e; exact fun p => by cases p
    · rcases get_set e2 with ⟨z, _, _⟩ | ⟨_, e2⟩
      · exact absurd z ne
      · exact a.yg j o u e e2⟩
/-- a value that is new stands in a slot -/
theorem At.setO {i : Nat} {v : V} {o : O} (a : At T w₀ H₀ w σ κ σV H) (r : RO T w H v o) (ht : o.tag = none) (hy : Young H₀ v o) (hn : ∀ j o', j ≠ i → σ[j]? = some (some o') → σV[j]? = some (some v) → o.place = false ∨ o'.place = false) :
    At T w₀ H₀ w (σ.set i (some o)) κ (σV.set i (some v)) H :=
  ⟨a.wk, a.rs.set fun u e => by cases e; exact ⟨v, rfl, r, (fun j z => by rw [ht] at z; cases z), hn⟩, a.ext, fun j u x e1 e2 => by
    rcases get_set e1 with ⟨rfl, e, _⟩ | ⟨ne, e⟩
    · cases e
      rcases get_set e2 with ⟨_, z, _⟩ | ⟨z, _⟩
      · cases z; exact hy
      · exact absurd rfl z
    · rcases get_set e2 with ⟨z, _, _⟩ | ⟨_, e2⟩
      · exact absurd z ne
      · exact a.yg j u x e e2⟩
theorem fresh_slots {v : V} {o : O} (rs : RS T w H σV σ) (hy : Young H v o) : ∀ (j : Nat) (o' : O), σ[j]? = some (some o') → σV[j]? = some (some v) → o.place = false ∨ o'.place = false := fun j o' e1 e2 => by
  cases hp : o.place with
  | false => exact .inl rfl
  | true =>
    cases hp' : o'.place with
    | false => exact .inr rfl
    | true =>
      obtain ⟨u, e3, r⟩ := rs.at_ j o' e1
      rw [e2] at e3
      cases e3
      obtain ⟨a, x, rfl, ha, _⟩ := r.addr hp'
      rw [hy hp a rfl] at ha
      cases ha
theorem store_ok' {i : Nat} {o : O} {f : Sl → Res} (p : SPost T w₀ H₀ w σ σV (storeO σ i o f) W Dn) : o.tag = none ∧ unlocked σ i = true ∧ SPost T w₀ H₀ w σ σV (f (σ.set i (some o))) W Dn := by
  cases o with
  | fz d => obtain ⟨x, e, p⟩ := SPost.exO (show SPost T w₀ H₀ w σ σV (R.exO (setAt σ i (some (.fz d))) f) W Dn from p); obtain ⟨u, rfl⟩ := setAt_ok e; exact ⟨rfl, u, p⟩
  | ol b xs =>
    cases b with
    | some _ => exact p.elim
    | none => obtain ⟨x, e, p⟩ := SPost.exO (show SPost T w₀ H₀ w σ σV (R.exO (setAt σ i (some (.ol none xs))) f) W Dn from p); obtain ⟨u, rfl⟩ := setAt_ok e; exact ⟨rfl, u, p⟩
  | od b xs =>
    cases b with
    | some _ => exact p.elim
    | none => obtain ⟨x, e, p⟩ := SPost.exO (show SPost T w₀ H₀ w σ σV (R.exO (setAt σ i (some (.od none xs))) f) W Dn from p); obtain ⟨u, rfl⟩ := setAt_ok e; exact ⟨rfl, u, p⟩
  | ot b xs =>
    cases b with
    | some _ => exact p.elim
    | none => obtain ⟨x, e, p⟩ := SPost.exO (show SPost T w₀ H₀ w σ σV (R.exO (setAt σ i (some (.ot none xs))) f) W Dn from p); obtain ⟨u, rfl⟩ := setAt_ok e; exact ⟨rfl, u, p⟩
theorem Lk.set {i : Nat} {o : Option O} {v : Option V} (h : unlocked σ i = true) : Lk σV σ (σV.set i v) (σ.set i o) := (Chg.set fun u q => unlocked_tag h q).lk
/-- what an exception's own start does -/
def spX (C : Addr) (nms : List Str) : Sp := fun vs H Q _ => ∃ a ys, vs = .ref a :: ys ∧ ys.length = nms.length ∧ H a = some (exo a C none) ∧ ∀ d l, H d = none → d ≠ a → FLk l nms ys → Q .non (upd (upd H d (exd d l)) a (exo a C (some d)))
/-- an exception class with fields -/
structure ExOk (X : Cx) (C : Addr) (nms : List Str) : Prop where
  cls : OexC X.K C
  no : ∀ f ∈ nms, PySem.W.findIn X.K (.ref C) f = some none
  ga : PySem.W.findIn X.K (.ref C) "__getattribute__" = some (some (.builtin "BaseException.__getattribute__"))
  gg : PySem.W.findIn X.K (.ref C) "__getattr__" = some none
  hd : PySem.W.hasDictIn X.K C = true
  mkX : ∃ (fI : Addr) (fd : FuncData) (ps : List Str), PySem.W.findIn X.K (.ref C) "__init__" = some (some (.ref fI)) ∧ PySem.W.typeIn X.K (.ref fI) = some (.type "function") ∧ FnOk X.prog X.w X.K X.mg X.base (L2.CX X.prog X.w) 1 fI fd ps (spX C nms) ∧ Binds X.K fd ps []
/-- where statements stand -/
structure XS (T : Tb) (S : Sg) (Γ : Cxt) (N : List Str) (n : Nat) (sc : Scope) (X : Cx) : Prop extends XG T S Γ N n sc X where
  fn : ∀ x, sc.names.lookup x = some .cell → X.fn x = true
  kind : (X.env.scope.kind = .function)
  own : PassesOwn (model X.prog X.w) X.A X.env X.xe
  stk : X.stack = X.env :: X.outer
  frm : X.env.frame = some X.env.locals
  exn : ∀ c ∈ S.exs, ∀ x nms, S.cls[c]? = some (x, nms) → nms ≠ [] → ∃ C, T.exc c = some (C, nms)
  exc : ∀ (c : Nat) (C : Addr) (nms : List Str), T.exc c = some (C, nms) → ∃ x, nms ≠ [] ∧ S.cls[c]? = some (x, nms) ∧ c ∈ S.exs ∧ X.mg x = some (.ref C) ∧ ExOk X C nms
  han : ∀ c' ∈ S.exs, ∃ C' x nms', S.cls[c']? = some (x, nms') ∧ X.mg x = some (.ref C') ∧ ∀ (c : Nat) (C : Addr) (nms : List Str), T.exc c = some (C, nms) → PySem.W.exmOne X.K (.ref C) (.ref C') = some (Γ.sub c c')
theorem XS.sto {S : Sg} {N : List Str} {n : Nat} {sc : Scope} {X : Cx} (g : XS T S Γ N n sc X) : Sto N sc sc X := ⟨g.hN, g.nd, g.hsc, g.fn⟩
/-! ### the simple ones -/
variable {S : Sg} {N : List Str} {n : Nat} {sc : Scope} {X : Cx}
theorem ss_nil : PSs X [] (tS T Γ .nil W) := pssI pss_nil fun D σV H h => by
  obtain ⟨w₀, H₀, w, σ, κ, a, p⟩ := h
  exact p w σV H a (Le.rfl' w) Lk.rfl'
theorem ss_cons {st : Stmt} {rest : List Stmt} {s t : R.S} (h1 : PS X st (tS T Γ s W)) (h2 : PSs X rest (tS T Γ t W)) : PSs X (st :: rest) (tS T Γ (.cons s t) W) := pssI (pss_cons h1 h2) fun D σV H h => by
  obtain ⟨w₀, H₀, w, σ, κ, a, p⟩ := h
  refine ⟨w₀, H₀, w, σ, κ, a, ?_⟩
  unfold exec at p
  cases er : exec Γ s σ κ with
  | nx σ' κ' =>
    rw [er] at p
    exact fun w' σV' H' a' l k => ⟨w₀, H₀, w', σ', κ', a', SPost.step (show SPost T w₀ H₀ w σ σV (exec Γ t σ' κ') W D from p) l k⟩
  | rt _ _ => rw [er] at p; exact p
  | bk _ _ => rw [er] at p; exact p
  | ct _ _ => rw [er] at p; exact p
  | xc _ _ _ _ => rw [er] at p; exact p
  | bad => rw [er] at p; exact p
theorem s_pass {pos : Pos} : PS X (.Pass pos) (tS T Γ .pass W) := psI ps_pass fun D σV H h => by
  obtain ⟨w₀, H₀, w, σ, κ, a, p⟩ := h
  exact p w σV H a (Le.rfl' w) Lk.rfl'
theorem s_brk {pos : Pos} : PS X (.Break pos) (tS T Γ .brk W) := psI ps_break fun D σV H h => by
  obtain ⟨w₀, H₀, w, σ, κ, a, p⟩ := h
  exact p w σV H a (Le.rfl' w) Lk.rfl'
theorem s_cnt {pos : Pos} : PS X (.Continue pos) (tS T Γ .cnt W) := psI ps_continue fun D σV H h => by
  obtain ⟨w₀, H₀, w, σ, κ, a, p⟩ := h
  exact p w σV H a (Le.rfl' w) Lk.rfl'
theorem s_retN {pos : Pos} : PS X (.Return none pos) (tS T Γ .retN W) := psI ps_retN fun D σV H h => by
  obtain ⟨w₀, H₀, w, σ, κ, a, p⟩ := h
  exact p w H .non a.ext a.wk .non
theorem s_stuck {st : Stmt} : PS X st (tS T Γ .stuck W) := psI ps_never fun D σV H h => by
  obtain ⟨w₀, H₀, w, σ, κ, a, p⟩ := h
  exact p
theorem s_ret {pos : Pos} {x : Expr} {e : E} (he : PE X x (tE T Γ e W)) : PS X (.Return (some x) pos) (tS T Γ (.ret e) W) := psI (ps_ret he) fun D σV H h => by
  obtain ⟨w₀, H₀, w, σ, κ, a, p⟩ := h
  unfold exec at p
  refine ⟨w, σ, κ, a.wk, a.rs, SPost.exE a p fun r w1 H1 er e k p v hv hb hy => ?_⟩
  obtain ⟨d, ed, p⟩ := p.exO
  obtain ⟨w2, k2, e2, l2, rv⟩ := hv.give k ed e (hy (frz_tag ed))
  exact p w2 H1 v (a.ext.trans e2) k2 rv
theorem s_drop {pos : Pos} {x : Expr} {e : E} (he : PE X x (tE T Γ e W)) (hs : swapsWith x none pos.line X.env = pure false) : PS X (.Expr x pos) (tS T Γ (.drop e) W) := psI (ps_expr he hs) fun D σV H h => by
  obtain ⟨w₀, H₀, w, σ, κ, a, p⟩ := h
  unfold exec at p
  exact ⟨w, σ, κ, a.wk, a.rs, SPost.exE a p fun r w1 H1 er e k p v hv hb hy => p w1 σV H1 (a.ev e k) (Le.rfl' w1) Lk.rfl'⟩
theorem s_ite {pos : Pos} {x : Expr} {p q : List Stmt} {c : E} {s t : R.S} (hc : PT X x (tT T Γ c W)) (ha : PSs X p (tS T Γ s W)) (hb : PSs X q (tS T Γ t W)) : PS X (.If x p q pos) (tS T Γ (.ite c s t) W) := psI (ps_if hc ha hb) fun D σV H h => by
  obtain ⟨w₀, H₀, w, σ, κ, a, p⟩ := h
  unfold exec at p
  have p' : SPost T w₀ H₀ w σ σV (R.exE (evT Γ c σ κ) σ fun t' => if t'.1 = true then exec Γ s σ t'.2 else exec Γ t σ t'.2) W D := by
    unfold evT
    cases er : ev Γ c σ κ with
    | ok r =>
      rw [er] at p
      cases eb : truD r.1.d with
      | none => simp only [R.exE, R.exO, eb] at p; exact p.elim
      | some b => simp only [R.exE, R.exO, eb] at p; simp only [Out.bind, opt, R.exE, eb]; exact p
    | _ => rw [er] at p; exact p
  refine ⟨w, σ, κ, a.wk, a.rs, SPost.exE a p' fun r w1 H1 er e k p => ?_⟩
  show if r.1 = true then _ else _
  cases hr : r.1 with
  | true => rw [if_pos hr] at p; rw [if_pos rfl]; exact ⟨w₀, H₀, w1, σ, r.2, a.ev e k, p⟩
  | false => rw [if_neg (by simp [hr])] at p; rw [if_neg (by simp)]; exact ⟨w₀, H₀, w1, σ, r.2, a.ev e k, p⟩
/-- name = e: what is wanted behind e -/
theorem set_sem {i : Nat} {e : E} : ∀ D σV H, tS T Γ (.set i e) W D σV H → tAsg (tE T Γ e W) (gName i) D σV H := fun D σV H h => by
  obtain ⟨w₀, H₀, w, σ, κ, a, p⟩ := h
  unfold exec at p
  refine ⟨w, σ, κ, a.wk, a.rs, SPost.exE a p fun r w1 H1 er e k p v hv hb hy => ?_⟩
  obtain ⟨ht, ul, p⟩ := store_ok' p
  have a1 := a.ev e k
  have y0 : Young H₀ v r.1 := fun pl b eb => a.ext.dom b (hy ht pl b eb)
  exact p w1 _ H1 (a1.setO hv ht y0 fun j o' _ => fresh_slots a.rs (hy ht) j o') (Le.rfl' w1) (Lk.set ul)
theorem s_set {i : Nat} {y : Str} {x : Expr} {e : E} {p0 pos : Pos} (g : XS T S Γ N n sc X) (hn : stoB N sc sc i y = true) (he : PE X x (tE T Γ e W)) (hs : swapsWith x (some (.Name y p0)) pos.line X.env = pure false) : PS X (.Assign [.Name y p0] x pos) (tS T Γ (.set i e) W) := by
  obtain ⟨h1, h2, h3⟩ := sto_of hn g.sto
  exact psI (ps_set (by rw [g.hN]; exact g.nd) h1 h2 he hs h3) set_sem
theorem assign1_place : ∀ {is : List Nat} {ds : List D} {σ σ' : Sl}, assign1 is ds σ = some σ' → ∀ (i : Nat) (o : O), σ'[i]? = some (some o) → o.place = true → σ[i]? = some (some o) ∧ i ∉ is
  | [], [], σ, σ', e, i, o, h, _ => by simp only [assign1, Option.some.injEq] at e; subst e; exact ⟨h, by simp⟩
  | [], _ :: _, _, _, e, _, _, _, _ => by simp [assign1] at e
  | _ :: _, [], _, _, e, _, _, _, _ => by simp [assign1] at e
  | k :: is, d :: ds, σ, σ', e, i, o, h, hp => by
    simp only [assign1] at e
    cases e1 : setAt σ k (some (.fz d)) with
    | none => rw [e1] at e; cases e
    | some σ1 =>
      rw [e1] at e
      obtain ⟨ul, rfl⟩ := setAt_ok e1
      obtain ⟨h1, h2⟩ := assign1_place e i o h hp
      rcases get_set h1 with ⟨_, z, _⟩ | ⟨ne, h1⟩
      · cases z; cases hp
      · exact ⟨h1, by simp [ne, h2]⟩
theorem assignT_place {tg : Tg} {d : D} {σ σ' : Sl} (e : assignT tg d σ = some σ') (i : Nat) (o : O) (h : σ'[i]? = some (some o)) (hp : o.place = true) : σ[i]? = some (some o) ∧ i ∉ tg.ix := by
  cases tg with
  | v k =>
    obtain ⟨ul, rfl⟩ := setAt_ok (show setAt σ k (some (.fz d)) = some σ' from e)
    rcases get_set h with ⟨_, z, _⟩ | ⟨ne, h1⟩
    · cases z; cases hp
    · exact ⟨h1, by simp [Tg.ix, ne]⟩
  | t is =>
    cases d with
    | tup ds => exact assign1_place (show assign1 is ds σ = some σ' from e) i o h hp
    | _ => cases e
theorem At.target {tg : Tg} {d : D} (a : At T w₀ H₀ w σ κ σV H) (e : assignT tg d σ = some σ') (rs : RS T w H σV' σ') (c : Chg tg.ix σV σ σV' σ') : At T w₀ H₀ w σ' κ σV' H :=
  ⟨a.wk, rs, a.ext, fun i o u h1 h2 pl => by
    obtain ⟨h3, h4⟩ := assignT_place e i o h1 pl
    rw [c.only i h4] at h2
    exact a.yg i o u h3 h2 pl⟩
/-- a target of any form = e -/
theorem s_sets {tg : Tg} {t x : Expr} {e : E} {pos : Pos} (g : XS T S Γ N n sc X) (ht : tgB N sc sc tg t = true) (he : PE X x (tE T Γ e W)) (hs : swapsWithSole [t] x pos.line X.env = pure false) (hw : swappedStores [t] x X.env = pure none) :
    PS X (.Assign [t] x pos) (tS T Γ (.sets tg e) W) := by
  refine psI (ps_asg he (pg_ok ht g.sto g.hK g.calm) hs hw (by cases tg <;> cases t <;> first | rfl | (simp [tgB] at ht; done))) fun D σV H h => ?_
  obtain ⟨w₀, H₀, w, σ, κ, a, p⟩ := h
  unfold exec at p
  refine ⟨w, σ, κ, a.wk, a.rs, SPost.exE a p fun r w1 H1 er e k p v hv hb hy => ?_⟩
  obtain ⟨d, ed, p⟩ := p.exO
  obtain ⟨σ', eσ, p⟩ := p.exO
  obtain ⟨w2, k2, e2, l2, rv⟩ := hv.give k ed e (hy (frz_tag ed))
  exact ⟨w2, σ, r.2, d, σ', k2, a.rs.ext e2, rv, eσ, fun σV' rs' chg => p w2 σV' H1 ((a.ev e2 k2).target eσ rs' chg) l2 chg.lk⟩
end
end R

/-! R21: loops. -/
namespace R
open L2 PyProof.Rows PySem.Spec PySem
section
variable {T : Tb} {Γ : Cxt} {w₀ w w' : Wd} {H₀ H H' : Hp} {σ σ' : Sl} {κ κ' : Cells} {σV σV' : L2.St} {W : WX} {Dn : Ends}
theorem At.mark {i : Nat} {o o2 : O} (a : At T w₀ H₀ w σ κ σV H) (e : σ[i]? = some (some o)) (hr : ∀ v, RO T w H v o → RO T w H v o2) (hp : o2.place = o.place) (ht : ∀ j, o2.tag = some j → j = i) : At T w₀ H₀ w (σ.set i (some o2)) κ σV H :=
  ⟨a.wk, a.rs.mark e hr hp ht, a.ext, fun j u v e1 e2 pl => by
    rcases get_set e1 with ⟨rfl, z, _⟩ | ⟨_, e3⟩
    · cases z; rw [hp] at pl; exact a.yg j o v e e2 pl
    · exact a.yg j u v e3 e2 pl⟩
theorem At.lock : ∀ {is : List Nat} {σ : Sl}, At T w₀ H₀ w σ κ σV H → At T w₀ H₀ w (lockAll σ is) κ σV H
  | [], _, a => a
  | i :: is, σ, a => by
    unfold lockAll
    split
    · rename_i xs e; exact At.lock (a.mark e (fun v r => r) rfl fun j z => by cases z; rfl)
    · rename_i xs e; exact At.lock (a.mark e (fun v r => r) rfl fun j z => by cases z; rfl)
    · rename_i xs e; exact At.lock (a.mark e (fun v r => r) rfl fun j z => by cases z; rfl)
    · exact At.lock a
theorem At.unlock {was : Sl} : ∀ {is : List Nat} {σ : Sl}, At T w₀ H₀ w σ κ σV H → At T w₀ H₀ w (unlockAll was σ is) κ σV H
  | [], _, a => a
  | i :: is, σ, a => by
    unfold unlockAll
    split
    · rename_i e0 e; exact At.unlock (a.mark e (fun v r => r) rfl fun j z => by cases z)
    · rename_i e0 e; exact At.unlock (a.mark e (fun v r => r) rfl fun j z => by cases z)
    · rename_i e0 e; exact At.unlock (a.mark e (fun v r => r) rfl fun j z => by cases z)
    · exact At.unlock a
theorem unlock_same {was : Sl} : ∀ {is : List Nat} {σ : Sl} {i : Nat} {o o' : O} {j : Nat}, was[i]? = some (some o) → o.tag = some j → σ[i]? = some (some o') → (unlockAll was σ is)[i]? = some (some o')
  | [], _, _, _, _, _, _, _, e => e
  | k :: is, σ, i, o, o', j, ew, t, e => by
    have ne : ∀ {u : O}, was[k]? = some (some u) → u.tag = none → k ≠ i := fun {u} e1 t1 z => by
      subst z; rw [ew] at e1; cases e1; rw [t1] at t; cases t
    unfold unlockAll
    split
    · rename_i e1 _; exact unlock_same ew t (by rw [List.getElem?_set_ne (ne e1 rfl)]; exact e)
    · rename_i e1 _; exact unlock_same ew t (by rw [List.getElem?_set_ne (ne e1 rfl)]; exact e)
    · rename_i e1 _; exact unlock_same ew t (by rw [List.getElem?_set_ne (ne e1 rfl)]; exact e)
    · exact unlock_same ew t e
/-- the loop's end, back before the loop -/
theorem unlock_lk {was : Sl} {is : List Nat} (a : Lk σV (lockAll was is) σV' σ') : Lk σV was σV' (unlockAll was σ' is) := fun i o j e t => by
  obtain ⟨h1, h2⟩ := a i o j (lock_same e t) t
  exact ⟨unlock_same e t h1, h2⟩
variable {S : Sg} {N : List Str} {n : Nat} {sc : Scope} {X : Cx}
theorem s_for {tg : Tg} {t x : Expr} {it : E} {b : R.S} {body : List Stmt} {pos : Pos} (g : XS T S Γ N n sc X) (ht : tgB N sc sc tg t = true) (hi : PI X t x (tI T Γ it W)) (hb : PSs X body (tS T Γ b W)) (hs : ∀ v, foldedSetIterable x X.env v = pure v) :
    PS X (.For t x body [] pos) (tS T Γ (.for_ tg it b) W) := by
  refine psI (ps_for g.own g.calm hi (pg_ok ht g.sto g.hK g.calm) hb hs) fun Dn σV H h => ?_
  obtain ⟨w₀, H₀, w, σ, κ, a, p⟩ := h
  unfold exec at p
  refine ⟨w, σ, κ, a.wk, a.rs, SPost.exE a p fun r w1 H1 er e k p J Keep hk wd la => ?_⟩
  generalize hstep : (fun x σ κ => R.exO (assignT tg x σ) fun σ => exec Γ b σ κ) = step at p
  have a1 := a.ev e k
  refine ⟨fun i m σV' H' => m = r.1.1.length - i ∧ i ≤ r.1.1.length ∧ ∃ w2 σ2 κ2, At T w₀ H₀ w2 σ2 κ2 σV' H' ∧ Le w1 w2 ∧ Lk σV (lockAll σ r.1.2) σV' σ2 ∧ SPost T w₀ H₀ w1 σ σV (unlockR σ r.1.2 (forLoop step (r.1.1.drop i) σ2 κ2)) W Dn, ⟨r.1.1.length, by simp, Nat.zero_le _, w1, lockAll σ r.1.2, r.2, a1.lock, Le.rfl' w1, Lk.rfl', by simpa using p⟩, ?_⟩
  intro i m σV' H' inv
  obtain ⟨rfl, hil, w2, σ2, κ2, a2, l2, lk2, p2⟩ := inv
  have hkeep : Keep w2 H' := la.slots w2 H' σV' σ2 l2 a2.wk.le a2.rs fun i hi => by
    obtain ⟨o, eo, pl⟩ := it_src er i hi
    obtain ⟨h1, h2⟩ := lk2 i _ i (lock_spec a.rs.tag hi eo pl) (read_tag pl)
    exact ⟨h2, o, eo, h1⟩
  obtain ⟨walk, stop⟩ := wd w2 H' κ2 a2.wk hkeep
  by_cases hlt : i < r.1.1.length
  · obtain ⟨go, yld⟩ := walk i hlt
    refine .inr ⟨go, fun σV3 H3 => ∃ w3 σ3 κ3, At T w₀ H₀ w3 σ3 κ3 σV3 H3 ∧ Le w1 w3 ∧ Lk σV (lockAll σ r.1.2) σV3 σ3 ∧ SPost T w₀ H₀ w1 σ σV (unlockR σ r.1.2 (forLoop step (r.1.1.drop (i + 1)) σ3 κ3)) W Dn, fun σ3 H3 q => ⟨r.1.1.length - (i + 1), by omega, rfl, by omega, q⟩, fun v H3 y => ?_⟩
    obtain ⟨w3, d, ed, x3, k3, rd⟩ := yld v H3 y
    have hdrop : r.1.1.drop i = d :: r.1.1.drop (i + 1) := by
      rw [(List.drop_eq_getElem_cons hlt)]
      rw [List.getElem?_eq_getElem hlt] at ed
      cases ed
      rfl
    rw [hdrop] at p2
    simp only [forLoop] at p2
    have a3 := a2.ev x3 k3
    cases eσ : assignT tg d σ2 with
    | none =>
      have : step d σ2 κ2 = .bad := by rw [← hstep]; simp [R.exO, eσ]
      rw [this] at p2
      exact p2.elim
    | some σ4 =>
      have hst : step d σ2 κ2 = exec Γ b σ4 κ2 := by rw [← hstep]; simp [R.exO, eσ]
      rw [hst] at p2
      refine ⟨w3, σ2, κ2, d, σ4, k3, a3.rs, rd, eσ, fun σV4 rs4 chg => ⟨w₀, H₀, w3, σ4, κ2, a3.target eσ rs4 chg, ?_⟩⟩
      have lk4 : Lk σV (lockAll σ r.1.2) σV4 σ4 := lk2.trans chg.lk
      have l3 := l2.trans x3.le
      cases ex : exec Γ b σ4 κ2 with
      | nx σ5 κ5 => rw [ex] at p2; exact fun w5 σV5 H5 a5 l5 lk5 => ⟨w5, σ5, κ5, a5, l3.trans l5, lk4.trans lk5, p2⟩
      | ct σ5 κ5 => rw [ex] at p2; exact fun w5 σV5 H5 a5 l5 lk5 => ⟨w5, σ5, κ5, a5, l3.trans l5, lk4.trans lk5, p2⟩
      | bk σ5 κ5 => rw [ex] at p2; exact fun w5 σV5 H5 a5 l5 lk5 => (show SPost T w₀ H₀ w1 σ σV (.nx (unlockAll σ σ5 r.1.2) κ5) W Dn from p2) w5 σV5 H5 a5.unlock (l3.trans l5) (unlock_lk (lk4.trans lk5))
      | rt d5 κ5 => rw [ex] at p2; exact p2
      | xc c fs σ5 κ5 =>
        rw [ex] at p2
        refine fun w5 σV5 H5 cls dd a5 l5 lk5 rx => (show SPost T w₀ H₀ w1 σ σV (.xc c fs σ5 κ5) W Dn from p2) w5 σV5 H5 cls dd a5 (l3.trans l5) (fun i o j e t => (lk4.trans lk5) i o j (lock_same e t) t) rx
      | bad => rw [ex] at p2; exact p2
  · have e : i = r.1.1.length := by omega
    subst e
    rw [List.drop_length] at p2
    exact .inl ⟨stop, (show SPost T w₀ H₀ w1 σ σV (.nx (unlockAll σ σ2 r.1.2) κ2) W Dn from p2) w2 σV' H' a2.unlock l2 (unlock_lk lk2)⟩
theorem s_whl {c : E} {b : R.S} {x : Expr} {body : List Stmt} {pos : Pos} (g : XS T S Γ N n sc X) (hc : PT X x (tT T Γ c W)) (hb : PSs X body (tS T Γ b W)) : PS X (.While x body [] pos) (tS T Γ (.whl c b) W) := by
  refine psI (ps_while g.own hc hb) fun Dn σV H h => ?_
  obtain ⟨w₀, H₀, w, σ, κ, a, p⟩ := h
  unfold exec at p
  generalize htest : (fun σ κ => (ev Γ c σ κ).bind fun x => (opt (truD x.1.d)).bind fun t => Out.ok (t, x.2)) = test at p
  have ht : ∀ σ κ, test σ κ = evT Γ c σ κ := fun σ κ => by rw [← htest]; rfl
  refine ⟨fun m σV' H' => ∃ w2 σ2 κ2, At T w₀ H₀ w2 σ2 κ2 σV' H' ∧ SPost T w₀ H₀ w2 σ2 σV' (whileLoop test (fun σ κ => exec Γ b σ κ) m σ2 κ2) W Dn, ⟨Γ.fuel, w, σ, κ, a, p⟩, ?_⟩
  intro m σV' H' inv
  obtain ⟨w2, σ2, κ2, a2, p2⟩ := inv
  cases m with
  | zero => exact p2.elim
  | succ m =>
    simp only [whileLoop] at p2
    rw [ht] at p2
    refine ⟨w2, σ2, κ2, a2.wk, a2.rs, SPost.exE a2 p2 fun r w3 H3 er e k p3 => ?_⟩
    have a3 := a2.ev e k
    show if r.1 = true then _ else _
    cases hr : r.1 with
    | false => rw [if_neg (by simp [hr])] at p3; rw [if_neg (by simp)]; exact p3 w3 σV' H3 a3 (Le.rfl' w3) Lk.rfl'
    | true =>
      rw [if_pos hr] at p3
      rw [if_pos rfl]
      refine ⟨fun σV4 H4 => ∃ w4 σ4 κ4, At T w₀ H₀ w4 σ4 κ4 σV4 H4 ∧ SPost T w₀ H₀ w4 σ4 σV4 (whileLoop test (fun σ κ => exec Γ b σ κ) m σ4 κ4) W Dn, fun σV4 H4 q => ⟨m, Nat.lt_succ_self m, q⟩, w₀, H₀, w3, σ2, r.2, a3, ?_⟩
      cases ex : exec Γ b σ2 r.2 with
      | nx σ5 κ5 => rw [ex] at p3; exact fun w5 σV5 H5 a5 l5 lk5 => ⟨w5, σ5, κ5, a5, p3.step l5 lk5⟩
      | ct σ5 κ5 => rw [ex] at p3; exact fun w5 σV5 H5 a5 l5 lk5 => ⟨w5, σ5, κ5, a5, p3.step l5 lk5⟩
      | bk σ5 κ5 => rw [ex] at p3; exact fun w5 σV5 H5 a5 l5 lk5 => (show SPost T w₀ H₀ w3 σ2 σV' (.nx σ5 κ5) W Dn from p3) w5 σV5 H5 a5 l5 lk5
      | rt d5 κ5 => rw [ex] at p3; exact p3
      | xc c fs σ5 κ5 => rw [ex] at p3; exact p3
      | bad => rw [ex] at p3; exact p3
end
end R

/-! R22: names = comprehensions; several names at once. -/
namespace R
open L2 PyProof.Rows PySem.Spec PySem
section
variable {T : Tb} {Γ : Cxt} {w₀ w w' : Wd} {H₀ H H' : Hp} {σ σ' : Sl} {κ κ' : Cells} {σV σV' : L2.St} {W : WX} {Dn : Ends}
variable {S : Sg} {N : List Str} {n : Nat} {sc : Scope} {X : Cx}
def notLc : Expr → Bool
  | .ListComp _ _ _ _ => false
  | _ => true
theorem sw_no {e : E} {x : Expr} {tg : Option Expr} {l : Nat} {env : Env} (q : isE S N none e sc x = true) (h : notLc x = true) : swapsWith x tg l env = pure false := by
  cases x <;> first | rfl | (cases h; done) | (cases e <;> simp [isE, isLc] at q; done)
/-- name = [..] -/
theorem s_setC {i : Nat} {y : Str} {p0 pos : Pos} {own : List Nat} {tg : Tg} {it ifs elt : E} {x : Expr} (g : XS T S Γ N n sc X) (hn : stoB N sc sc i y = true) (q : isE S N none (.comp own tg it ifs elt) sc x = true) (tk : Takes X W) : PS X (.Assign [.Name y p0] x pos) (tS T Γ (.set i (.comp own tg it ifs elt)) W) := by
  have hpe := (all_ok (T := T) (Γ := Γ) (n := n) (.comp own tg it ifs elt)).pe sc x X W q g.toXG tk
  cases x <;> try (simp [isE] at q; done)
  rename_i x gens scope cp
  have hsw : swapsWith (.ListComp x gens scope cp) (some (.Name y p0)) pos.line X.env = pure (X.env.blockKind == .function && X.env.kindOf y == some .local && p0.line == cp.line && !(scope.names.any fun (n, k) => n == y && (k == .local || k == .cell))) := rfl
  cases hb : (X.env.blockKind == .function && X.env.kindOf y == some .local && p0.line == cp.line && !(scope.names.any fun (n, k) => n == y && (k == .local || k == .cell))) with
  | false => rw [hb] at hsw; exact s_set g hn hpe hsw
  | true =>
    rw [hb] at hsw
    simp only [Bool.and_eq_true] at hb
    have hy : X.env.scope.names.lookup y = some .local := by
      have h := hb.1.1.2
      unfold Env.kindOf at h
      cases e : X.env.scope.names.lookup y with
      | none => (rw [e] at h; cases h)
      | some k => rw [e] at h; cases k <;> first | rfl | cases h
    cases gens with
    | nil => simp [isE] at q
    | cons gn rest =>
    cases rest with
    | cons _ _ => simp [isE] at q
    | nil =>
    obtain ⟨t, i2, is, asy⟩ := gn
    by_cases hz : asy = 0
    case neg => simp [isE, hz] at q
    subst hz
    simp only [isE, Bool.and_eq_true, decide_eq_true_eq] at q
    obtain ⟨⟨⟨⟨⟨⟨⟨⟨q1, q2⟩, q3⟩, q4⟩, q5⟩, q6⟩, q7⟩, q8⟩, q9⟩ := q
    have ok : BlkOk X.N X.env.scope scope (ownN N own) := by rw [g.hN, g.hsc]; exact blkOk_by q1
    obtain ⟨h1, h2, h3⟩ := sto_of hn g.sto
    have hl := ps_setLc (wi := tI T Γ it W) (g := gT T tg) (tt := tIf T Γ ifs) (te := tE T Γ elt W0) (pos := cp) (spos := pos) (py := p0) g.calm (by rw [g.hN]; exact g.nd) h1 hy hsw ((all_ok it).pi sc t i2 X W q4 q6 g.toXG tk) ok
      (fun s H C cl fp => pg_ok q3 ⟨g.hN, g.nd, (g.toXG.blk s H scope C cl fp).hsc, fn_blk⟩ g.hK g.calm) (fun s H C cl fp => (all_ok ifs).pf _ is _ q8 (g.toXG.blk s H scope C cl fp)) (fun s H C cl fp => (all_ok elt).pe _ x _ W0 q9 (g.toXG.blk s H scope C cl fp) takes0) (folded_of q4 q5 X.env)
    rw [q2] at hl
    exact psI hl fun Dn σV H h => comp_sem q7 σV H _ (set_sem Dn σV H h)
/-- name = [.. two clauses] -/
theorem s_setC2 {i : Nat} {y : Str} {p0 pos : Pos} {own : List Nat} {tg tg2 : Tg} {it ifs it2 ifs2 elt : E} {x : Expr} (g : XS T S Γ N n sc X) (hn : stoB N sc sc i y = true) (q : isE S N none (.comp2 own tg it ifs tg2 it2 ifs2 elt) sc x = true) (tk : Takes X W) : PS X (.Assign [.Name y p0] x pos) (tS T Γ (.set i (.comp2 own tg it ifs tg2 it2 ifs2 elt)) W) := by
  have hpe := (all_ok (T := T) (Γ := Γ) (n := n) (.comp2 own tg it ifs tg2 it2 ifs2 elt)).pe sc x X W q g.toXG tk
  cases x <;> try (simp [isE] at q; done)
  rename_i x gens scope cp
  have hsw : swapsWith (.ListComp x gens scope cp) (some (.Name y p0)) pos.line X.env = pure (X.env.blockKind == .function && X.env.kindOf y == some .local && p0.line == cp.line && !(scope.names.any fun (n, k) => n == y && (k == .local || k == .cell))) := rfl
  cases hb : (X.env.blockKind == .function && X.env.kindOf y == some .local && p0.line == cp.line && !(scope.names.any fun (n, k) => n == y && (k == .local || k == .cell))) with
  | false => rw [hb] at hsw; exact s_set g hn hpe hsw
  | true =>
    rw [hb] at hsw
    simp only [Bool.and_eq_true] at hb
    have hy : X.env.scope.names.lookup y = some .local := by
      have h := hb.1.1.2
      unfold Env.kindOf at h
      cases e : X.env.scope.names.lookup y with
      | none => (rw [e] at h; cases h)
      | some k => rw [e] at h; cases k <;> first | rfl | cases h
    match gens, q, hsw with
    | [⟨t, i2, is, asy⟩, ⟨t2, i3, is2, asy2⟩], q, hsw =>
      by_cases hz : asy = 0
      case neg => simp [isE, hz] at q
      by_cases hz2 : asy2 = 0
      case neg => simp [isE, hz2] at q
      subst hz hz2
      simp only [isE, Bool.and_eq_true, decide_eq_true_eq] at q
      obtain ⟨⟨⟨⟨⟨⟨⟨⟨⟨⟨⟨⟨⟨⟨q1, q2⟩, q3⟩, q4⟩, q5⟩, q6⟩, q7⟩, q8⟩, q9⟩, q10⟩, q11⟩, q12⟩, q13⟩, q14⟩, q15⟩ := q
      have ok : BlkOk X.N X.env.scope scope (ownN N own) := by rw [g.hN, g.hsc]; exact blkOk_by q1
      obtain ⟨h1, h2, h3⟩ := sto_of hn g.sto
      have gx := g.toXG
      have hl := ps_setLc2 (wi := tI T Γ it W) (g := gT2 T tg) (tt := tIf T Γ ifs) (wi1 := tI T Γ it2 W0) (g1 := gT2 T tg2) (tt1 := tIf T Γ ifs2) (te := tE T Γ elt W0) (vs1 := tg2.ix) (pos := cp) (spos := pos) (py := p0) g.calm (by rw [g.hN]; exact g.nd) h1 hy hsw ((all_ok it).pi sc t i2 X W q4 q6 gx tk) ok (by rw [q2]; exact tgIn_ix q13)
        (fun s H C cl fp => pg_ok2 q3 ⟨g.hN, g.nd, (gx.blk s H scope C cl fp).hsc, fn_blk⟩ g.hK g.calm) (fun s H C cl fp => (all_ok ifs).pf _ is _ q8 (gx.blk s H scope C cl fp))
        (fun s H C cl fp => (all_ok it2).pi _ t2 i3 _ W0 q10 q12 (gx.blk s H scope C cl fp) takes0)
        (fun s H C cl fp => pg_ok2 q9 ⟨g.hN, g.nd, (gx.blk s H scope C cl fp).hsc, fn_blk⟩ g.hK g.calm) (fun s H C cl fp => (all_ok ifs2).pf _ is2 _ q14 (gx.blk s H scope C cl fp))
        (fun s H C cl fp => (all_ok elt).pe _ x _ W0 q15 (gx.blk s H scope C cl fp) takes0) (folded_of q4 q5 X.env) (fun env x => folded_of q10 q11 env x)
      rw [q2] at hl
      exact psI hl fun Dn σV H h => comp2_sem q7 σV H _ (set_sem Dn σV H h)
    | [], q, _ => simp [isE] at q
    | [_], q, _ => simp [isE] at q
    | _ :: _ :: _ :: _, q, _ => simp [isE] at q
def notLck : E → Bool
  | .lck _ _ => false
  | _ => true
theorem s_set_ok {i : Nat} {y : Str} {p0 pos : Pos} {e : E} {x : Expr} (g : XS T S Γ N n sc X) (hn : stoB N sc sc i y = true) (hk : notLck e = true) (q : isE S N none e sc x = true) (tk : Takes X W) : PS X (.Assign [.Name y p0] x pos) (tS T Γ (.set i e) W) := by
  cases hx : notLc x with
  | true => exact s_set g hn ((all_ok e).pe sc x X W q g.toXG tk) (sw_no q hx)
  | false =>
    cases x <;> try (cases hx; done)
    cases e with
    | lck e c => cases hk
    | comp own tg it ifs elt => exact s_setC g hn q tk
    | comp2 own tg it ifs tg2 it2 ifs2 elt => exact s_setC2 g hn q tk
    | _ => simp [isE] at q
/-! ### several values that are one's own -/
/-- values at places that nothing else holds -/
inductive ROs (T : Tb) (w : Wd) (H₀ H : Hp) : List V → List O → Prop
  | nil : ROs T w H₀ H [] []
  | cons {v : V} {vs : List V} {o : O} {os : List O} : RO T w H v o → o.tag = none → Young H₀ v o → (∀ (j : Nat) (v' : V) (o' : O), vs[j]? = some v' → os[j]? = some o' → o.place = true → o'.place = true → v' ≠ v) → ROs T w H₀ H vs os → ROs T w H₀ H (v :: vs) (o :: os)
def tAo (T : Tb) (Γ : Cxt) (e : E) (W : WX) : TA := fun σV H Q => ∃ w σ κ, Wok T w H κ ∧ RS T w H σV σ ∧ Post T w H (exec.evos Γ e σ κ) (fun c d H' => W c d σV H') (fun r w' H' => ∀ vs, ROs T w' H H' vs r.1 → Q vs H')
theorem ROs.old {vs : List V} {os : List O} {H1 : Hp} (h : ROs T w H1 H vs os) (le : ∀ a, H1 a = none → H₀ a = none) : ROs T w H₀ H vs os := by
  induction h with
  | nil => exact .nil
  | cons r t y ap _ ih => exact .cons r t (fun pl a ea => le a (y pl a ea)) ap ih
theorem ROs.young {vs : List V} {os : List O} (h : ROs T w H₀ H vs os) {j : Nat} {v : V} {o : O} (e1 : vs[j]? = some v) (e2 : os[j]? = some o) : Young H₀ v o := by
  induction h generalizing j with
  | nil => simp at e1
  | cons r t y ap _ ih =>
    cases j with
    | zero => simp at e1 e2; subst e1 e2; exact y
    | succ j => exact ih (by simpa using e1) (by simpa using e2)
theorem pao_ok : ∀ (e : E) (sc : Scope) (xs : List Expr) (X : Cx) (W : WX), isEs S N none e sc xs = true → XG T S Γ N n sc X → Takes X W → PA X xs (tAo T Γ e W) := by
  intro e
  induction e with
  | nil =>
    intro sc xs X W q g tk
    cases xs with
    | cons _ _ => simp [isEs] at q
    | nil =>
      refine paI pa_nil fun σV H Q h => ?_
      obtain ⟨w, σ, κ, hw, hs, p⟩ := h
      exact (show Post T w H (.ok (([] : List O), κ)) _ _ from p).ok hw [] .nil
  | cons e es _ ih =>
    intro sc xs X W q g tk
    cases xs with
    | nil => simp [isEs] at q
    | cons x xs =>
      simp only [isEs, Bool.and_eq_true] at q
      refine paI (pa_cons ((all_ok e).pe sc x X W q.1 g tk) (ih sc xs X W q.2 g tk) (notStar q.1 X.env xs)) fun σV H Q h => ?_
      obtain ⟨w, σ, κ, hw, hs, p⟩ := h
      have p : Post T w H ((ev Γ e σ κ).bind fun x => match x.1 with
        | .fz _ | .ol none _ | .od none _ | .ot none _ => (exec.evos Γ es σ x.2).bind fun r => .ok (x.1 :: r.1, r.2)
        | _ => .bad) _ _ := p
      refine tE_bind hw hs p fun r w1 H1 v er e1 k hs1 hv hb hy p => ?_
      have key : r.1.tag = none ∧ Post T w H ((exec.evos Γ es σ r.2).bind fun z => .ok (r.1 :: z.1, z.2)) (fun c d H' => W c d σV H') (fun r w' H' => ∀ vs, ROs T w' H H' vs r.1 → Q vs H') := by
        obtain ⟨o, κ'⟩ := r
        cases o with
        | fz d => exact ⟨rfl, p⟩
        | ol b xs => cases b with | none => exact ⟨rfl, p⟩ | some i => exact p.elim
        | od b xs => cases b with | none => exact ⟨rfl, p⟩ | some i => exact p.elim
        | ot b xs => cases b with | none => exact ⟨rfl, p⟩ | some i => exact p.elim
      obtain ⟨ht, p⟩ := key
      refine ⟨w1, σ, r.2, k, hs1, (p.step e1).bind.imp fun r2 w2 H2 er2 e2 k2 p2 vs hvs => ?_⟩
      refine (show Post T w2 H2 (.ok (r.1 :: r2.1, r2.2)) _ _ from p2).ok k2 (v :: vs) (.cons (hv.ext e2) ht (hy ht) (fun j v' o' e3 e4 pl pl' z => ?_) (hvs.old fun a ha => e1.dom a ha))
      obtain ⟨a, u, ea, ha, _⟩ := hv.addr pl
      have := hvs.young e3 e4 pl' a (by rw [z, ea])
      rw [ha] at this; cases this
  | _ => intro sc xs X W q g tk; simp [isEs] at q
/-- the slots, set one after another -/
def setMany : L2.St → List Nat → List V → L2.St
  | σV, i :: is, v :: vs => setMany (σV.set i (some v)) is vs
  | σV, _, _ => σV
theorem assign_many : ∀ {is : List Nat} {vs : List V} {os : List O} {σV : L2.St} {σ σ' : Sl}, At T w₀ H₀ w σ κ σV H → ROs T w H₀ H vs os → (∀ (k j : Nat) (v : V) (o o' : O), vs[k]? = some v → os[k]? = some o → σ[j]? = some (some o') → σV[j]? = some (some v) → o.place = false ∨ o'.place = false) →
    exec.assignO is os σ = some σ' → At T w₀ H₀ w σ' κ (setMany σV is vs) H ∧ Lk σV σ (setMany σV is vs) σ' ∧ vs.length = is.length
  | [], _, [], σV, σ, σ', a, r, ap, e => by
    cases r
    simp only [exec.assignO, Option.some.injEq] at e
    subst e
    exact ⟨a, Lk.rfl', rfl⟩
  | [], _, _ :: _, _, _, _, _, _, _, e => by simp [exec.assignO] at e
  | _ :: _, _, [], _, _, _, _, _, _, e => by simp [exec.assignO] at e
  | i :: is, _, o :: os, σV, σ, σ', a, .cons (v := v) (vs := vs) ro ht hy ap0 rs, ap, e => by
    simp only [exec.assignO] at e
    cases e1 : setAt σ i (some o) with
    | none => rw [e1] at e; cases e
    | some σ1 =>
      rw [e1] at e
      obtain ⟨ul, rfl⟩ := setAt_ok e1
      have a1 := a.setO (i := i) ro ht hy fun j o' _ h1 h2 => ap 0 j v o o' rfl rfl h1 h2
      obtain ⟨a2, l2, hl⟩ := assign_many a1 rs (fun k j u p p' h1 h2 h3 h4 => by
        rcases get_set h3 with ⟨rfl, z, _⟩ | ⟨ne, h3⟩
        · cases z
          rcases get_set h4 with ⟨_, z, _⟩ | ⟨z, _⟩
          · cases z
            cases hp : p.place with
            | false => exact .inl rfl
            | true =>
              cases hp' : o.place with
              | false => exact .inr rfl
              | true => exact absurd rfl (ap0 k v p h1 h2 hp' hp)
          · exact absurd rfl z
        · rcases get_set h4 with ⟨z, _, _⟩ | ⟨_, h4⟩
          · exact absurd z ne
          · exact ap (k + 1) j u p p' h1 h2 h3 h4) e
      exact ⟨a2, (Lk.set ul).trans l2, by simp [hl]⟩
theorem par_sem {is : List Nat} {es : E} (Dn : Ends) (σV : L2.St) (H : Hp) (h : tS T Γ (.par is es) W Dn σV H) (P : List V → Hp → Prop) (hP : ∀ vs H1, vs.length = is.length → Dn.nx (setMany σV is vs) H1 → P vs H1) : tAo T Γ es W σV H P := by
  obtain ⟨w₀, H₀, w, σ, κ, a, p⟩ := h
  refine ⟨w, σ, κ, a.wk, a.rs, SPost.exE a (show SPost T w₀ H₀ w σ σV (R.exE (exec.evos Γ es σ κ) σ fun r => R.exO (exec.assignO is r.1 σ) fun σ => .nx σ r.2) W Dn from p) fun r w1 H1 er e k p vs hvs => ?_⟩
  obtain ⟨σ', eσ, p⟩ := p.exO
  have a1 := a.ev e k
  obtain ⟨a2, l2, hl⟩ := assign_many a1 (hvs.old (H₀ := H₀) fun b hb => a.ext.dom b hb) (fun k j v o o' h1 h2 h3 h4 => fresh_slots a.rs (hvs.young h1 h2) j o' h3 h4) eσ
  exact hP vs H1 hl (p w1 _ H1 a2 (Le.rfl' w1) l2)
theorem len2 {α : Type} {l : List α} (h : l.length = 2) : ∃ a b, l = [a, b] := by
  match l, h with
  | [a, b], _ => exact ⟨a, b, rfl⟩
theorem len3 {α : Type} {l : List α} (h : l.length = 3) : ∃ a b c, l = [a, b, c] := by
  match l, h with
  | [a, b, c], _ => exact ⟨a, b, c, rfl⟩
theorem erase2 {x y : Str} (h : x ≠ y) : ([x, y].eraseDups).length = 2 := by
  have h1 : (y == x) = false := by simpa using fun z : y = x => h z.symm
  simp [List.eraseDups, List.eraseDupsBy, List.eraseDupsBy.loop, h1]
theorem erase3 {x y z : Str} (h : x ≠ y) (h2 : x ≠ z) (h3 : y ≠ z) : ([x, y, z].eraseDups).length = 3 := by
  have e1 : (y == x) = false := by simpa using fun k : y = x => h k.symm
  have e2 : (z == x) = false := by simpa using fun k : z = x => h2 k.symm
  have e3 : (z == y) = false := by simpa using fun k : z = y => h3 k.symm
  simp [List.eraseDups, List.eraseDupsBy, List.eraseDupsBy.loop, e1, e2, e3]
def notStarB : Expr → Bool
  | .Starred _ _ => false
  | _ => true
theorem any2 {α : Type} {a b : α} (f : α → Bool) (h1 : f a = false) (h2 : f b = false) : [a, b].any f = false := by simp [h1, h2]
theorem any3 {α : Type} {a b c : α} (f : α → Bool) (h1 : f a = false) (h2 : f b = false) (h3 : f c = false) : [a, b, c].any f = false := by simp [h1, h2, h3]
theorem fm2 {α β : Type} {a b : α} {x y : β} (f : α → Option β) (h1 : f a = some x) (h2 : f b = some y) : [a, b].filterMap f = [x, y] := by simp [h1, h2]
theorem fm3 {α β : Type} {a b c : α} {x y z : β} (f : α → Option β) (h1 : f a = some x) (h2 : f b = some y) (h3 : f c = some z) : [a, b, c].filterMap f = [x, y, z] := by simp [h1, h2, h3]
theorem no_of {b : Bool} (h : b = false) : ¬ b = true := by rw [h]; exact Bool.false_ne_true
theorem swap2 {x y : Str} {px py pt pt2 : Pos} {kt k2} {a b : Expr} (env : Env) (hk : env.blockKind = .function) (hx : env.kindOf x = some .local) (hy : env.kindOf y = some .local) (hl : (py.line == px.line) = true) (hne : x ≠ y) (ha : notStarB a = true) (hb : notStarB b = true)
    (h1 : ([a, b].all (foldedForSure 8)) = false) (h2 : ([a, b].all (constantsAlone 8)) = false) : swappedStores [.Tuple [.Name x px, .Name y py] kt pt] (.Tuple [a, b] k2 pt2) env = pure (some [x, y]) := by
  have e1 : (env.kindOf x == some NameKind.local && px.line == px.line) = true := by rw [hx]; simp
  have e2 : (env.kindOf y == some NameKind.local && py.line == px.line) = true := by rw [hy, hl]; rfl
  unfold swappedStores
  refine (if_neg (no_of (by rw [hk]; rfl))).trans ?_
  refine (if_neg (no_of (any2 _ (by cases a <;> first | rfl | cases ha) (by cases b <;> first | rfl | cases hb)))).trans ?_
  dsimp only
  rw [fm2 (x := x) (y := y)]
  · refine (if_neg (no_of (by rw [erase2 hne]; rfl))).trans ?_
    refine (if_neg (no_of h1)).trans ?_
    rw [h2]
    rfl
  · exact if_pos e1
  · exact if_pos e2
theorem swap3 {x y z : Str} {px py pz pt pt2 : Pos} {kt k2} {a b c : Expr} (env : Env) (hk : env.blockKind = .function) (hx : env.kindOf x = some .local) (hy : env.kindOf y = some .local) (hz : env.kindOf z = some .local) (hl : (py.line == px.line) = true) (hl2 : (pz.line == px.line) = true) (hne : x ≠ y) (hne2 : x ≠ z) (hne3 : y ≠ z)
    (ha : notStarB a = true) (hb : notStarB b = true) (hc : notStarB c = true) (h1 : ([a, b, c].all (foldedForSure 8)) = false) (h2 : ([a, b, c].all (constantsAlone 8)) = false) : swappedStores [.Tuple [.Name x px, .Name y py, .Name z pz] kt pt] (.Tuple [a, b, c] k2 pt2) env = pure (some [x, y, z]) := by
  have e1 : (env.kindOf x == some NameKind.local && px.line == px.line) = true := by rw [hx]; simp
  have e2 : (env.kindOf y == some NameKind.local && py.line == px.line) = true := by rw [hy, hl]; rfl
  have e3 : (env.kindOf z == some NameKind.local && pz.line == px.line) = true := by rw [hz, hl2]; rfl
  unfold swappedStores
  refine (if_neg (no_of (by rw [hk]; rfl))).trans ?_
  refine (if_neg (no_of (any3 _ (by cases a <;> first | rfl | cases ha) (by cases b <;> first | rfl | cases hb) (by cases c <;> first | rfl | cases hc)))).trans ?_
  dsimp only
  rw [fm3 (x := x) (y := y) (z := z)]
  · refine (if_neg (no_of (by rw [erase3 hne hne2 hne3]; rfl))).trans ?_
    refine (if_neg (no_of h1)).trans ?_
    rw [h2]
    rfl
  · exact if_pos e1
  · exact if_pos e2
  · exact if_pos e3
/-- several names at once: what must be seen of the text -/
def parB (N : List Str) (sc : Scope) : List Nat → List Expr → List Expr → Bool
  | [i, j], [.Name x px, .Name y py], [a, b] => decide (N[i]? = some x) && decide (N[j]? = some y) && locB sc x && locB sc y && (py.line == px.line) && decide (x ≠ y) && decide (i ≠ j) && notStarB a && notStarB b && !([a, b].all (foldedForSure 8)) && !([a, b].all (constantsAlone 8))
  | [i, j, l], [.Name x px, .Name y py, .Name z pz], [a, b, c] => decide (N[i]? = some x) && decide (N[j]? = some y) && decide (N[l]? = some z) && locB sc x && locB sc y && locB sc z && (py.line == px.line) && (pz.line == px.line) && decide (x ≠ y) && decide (x ≠ z) && decide (y ≠ z) && decide (i ≠ j) && decide (i ≠ l) && decide (j ≠ l) &&
      notStarB a && notStarB b && notStarB c && !([a, b, c].all (foldedForSure 8)) && !([a, b, c].all (constantsAlone 8))
  | _, _, _ => false
where
  locB (sc : Scope) (x : Str) : Bool := match sc.names.lookup x with
    | some .local => true
    | _ => false
theorem locB_of {x : Str} (h : parB.locB sc x = true) : sc.names.lookup x = some .local := by
  unfold parB.locB at h
  cases e : sc.names.lookup x with
  | none => (rw [e] at h; cases h)
  | some k => rw [e] at h; cases k <;> first | rfl | cases h
theorem block_fn {env : Env} (h : env.scope.kind = .function) : env.blockKind = .function := by unfold Env.blockKind; rw [h]; rfl
theorem s_par_ok {is : List Nat} {es : E} {ts vs : List Expr} {kt k2} {pt pt2 pos : Pos} (g : XS T S Γ N n sc X) (h : parB N sc is ts vs = true) (q : isEs S N none es sc vs = true) (tk : Takes X W) : PS X (.Assign [.Tuple ts kt pt] (.Tuple vs k2 pt2) pos) (tS T Γ (.par is es) W) := by
  unfold parB at h
  split at h
  · rename_i i j x px y py a b
    simp only [Bool.and_eq_true, decide_eq_true_eq, Bool.not_eq_true'] at h
    obtain ⟨⟨⟨⟨⟨⟨⟨⟨⟨⟨h1, h2⟩, h3⟩, h4⟩, h5⟩, h6⟩, h7⟩, h8⟩, h9⟩, h10⟩, h11⟩ := h
    have l3 := locB_of h3
    have l4 := locB_of h4
    rw [← g.hsc] at l3 l4
    have hN : X.N = N := g.hN
    exact psI (ps_par g.calm (by rw [hN]; exact g.nd) (by rw [hN]; exact h1) (by rw [hN]; exact h2) h7 l3 l4 (pao_ok es sc [a, b] X W q g.toXG tk) (swap2 X.env (block_fn g.kind) l3 l4 h5 h6 h8 h9 h10 h11)) fun Dn σV H hh => par_sem Dn σV H hh _ fun vs H1 hl z => by
      obtain ⟨v, u, rfl⟩ := len2 hl
      exact ⟨v, u, rfl, z⟩
  · rename_i i j l x px y py z pz a b c
    simp only [Bool.and_eq_true, decide_eq_true_eq, Bool.not_eq_true'] at h
    obtain ⟨⟨⟨⟨⟨⟨⟨⟨⟨⟨⟨⟨⟨⟨⟨⟨⟨⟨h1, h2⟩, h3⟩, h4⟩, h5⟩, h6⟩, h7⟩, h8⟩, h9⟩, h10⟩, h11⟩, h12⟩, h13⟩, h14⟩, h15⟩, h16⟩, h17⟩, h18⟩, h19⟩ := h
    have l4 := locB_of h4
    have l5 := locB_of h5
    have l6 := locB_of h6
    rw [← g.hsc] at l4 l5 l6
    have hN : X.N = N := g.hN
    exact psI (ps_par3 g.calm (by rw [hN]; exact g.nd) (by rw [hN]; exact h1) (by rw [hN]; exact h2) (by rw [hN]; exact h3) h12 h13 h14 l4 l5 l6 (pao_ok es sc [a, b, c] X W q g.toXG tk) (swap3 X.env (block_fn g.kind) l4 l5 l6 h7 h8 h9 h10 h11 h15 h16 h17 h18 h19)) fun Dn σV H hh => par_sem Dn σV H hh _ fun vs H1 hl zz => by
      obtain ⟨v, u, t, rfl⟩ := len3 hl
      exact ⟨v, u, t, rfl, zz⟩
  · cases h
end
end R

/-! R23: changes of what is one's own; cells. -/
namespace R
open L2 PyProof.Rows PySem.Spec PySem
section
variable {T : Tb} {Γ : Cxt} {w₀ w w' : Wd} {H₀ H H' : Hp} {σ σ' : Sl} {κ κ' : Cells} {σV σV' : L2.St} {W : WX} {Dn : Ends}
variable {S : Sg} {N : List Str} {n : Nat} {sc : Scope} {X : Cx}
/-- name += int -/
theorem aug_sem {i : Nat} {op : Bop} {e : E} {ti : TIp} (hop : (op = .add ∧ ti = ipI fun i j => i + j) ∨ (op = .sub ∧ ti = ipI fun i j => i - j)) : ∀ Dn σV H, tS T Γ (.aug i op e) W Dn σV H → tAug i (tE T Γ e W) ti Dn σV H := fun Dn σV H h => by
  obtain ⟨w₀, H₀, w, σ, κ, a, p⟩ := h
  unfold exec at p
  split at p
  · rename_i x eo
    obtain ⟨v, ev', hv⟩ := a.rs.at_ i _ eo
    cases (show RV T w v (.int x) from hv)
    refine ⟨.int x, ev', w, σ, κ, a.wk, a.rs, SPost.exE a p fun r w1 H1 er e1 k p u hu hb hy => ?_⟩
    have a1 := a.ev e1 k
    have fin : ∀ z : Int, SPost T w₀ H₀ w1 σ σV (R.exO (setAt σ i (some (.fz (.int z)))) fun σ => .nx σ r.2) W Dn → Dn.nx (σV.set i (some (.int z))) H1 := fun z p => by
      obtain ⟨σ', eσ, p⟩ := p.exO
      obtain ⟨ul, rfl⟩ := setAt_ok eσ
      exact p w1 _ H1 (a1.setFz (.int z)) (Le.rfl' w1) (Lk.set ul)
    generalize ed : r.1.d = dx at p
    rcases hop with ⟨rfl, rfl⟩ | ⟨rfl, rfl⟩
    · cases dx with
      | int b => cases rd_int hu ed; exact ⟨x, b, rfl, rfl, fin _ p⟩
      | _ => exact p.elim
    · cases dx with
      | int b => cases rd_int hu ed; exact ⟨x, b, rfl, rfl, fin _ p⟩
      | _ => exact p.elim
  · exact p.elim
theorem s_aug_ok {i : Nat} {y : Str} {op : Bop} {e : E} {x : Expr} {p0 pos : Pos} (g : XS T S Γ N n sc X) (ho : op = .add ∨ op = .sub) (hn : stoB N sc sc i y = true) (q : isE S N none e sc x = true) (tk : Takes X W) : PS X (.AugAssign (.Name y p0) op.op x pos) (tS T Γ (.aug i op e) W) := by
  obtain ⟨h1, h2, h3⟩ := sto_of hn g.sto
  rcases ho with rfl | rfl
  · exact psI (ps_aug (by rw [g.hN]; exact g.nd) h1 h2 ((all_ok e).pe sc x X W q g.toXG tk) ip_add h3) (aug_sem (.inl ⟨rfl, rfl⟩))
  · exact psI (ps_aug (by rw [g.hN]; exact g.nd) h1 h2 ((all_ok e).pe sc x X W q g.toXG tk) ip_sub h3) (aug_sem (.inr ⟨rfl, rfl⟩))
/-- what stands at a slot's place is written -/
theorem At.write {i : Nat} {o o2 : O} {p : Addr} {u : HO} (a : At T w₀ H₀ w σ κ σV H) (e : σ[i]? = some (some o)) (hp : o.place = true) (ht : o2.tag = none) (ev' : σV[i]? = some (some (.ref p))) (hr : RO T w (upd H p u) (.ref p) o2) : At T w₀ H₀ w (σ.set i (some o2)) κ σV (upd H p u) := by
  obtain ⟨v, e2, r⟩ := a.rs.at_ i o e
  rw [ev'] at e2; cases e2
  obtain ⟨q, x, eq, hq, nθ, nF⟩ := r.addr hp
  cases eq
  have y : H₀ p = none := a.yg i o _ e ev' hp p rfl
  have hl : i < σ.length := (List.getElem?_eq_some_iff.mp e).1
  refine ⟨a.wk.poke u nθ nF, ⟨by rw [a.rs.len]; simp, fun j o' h => ?_, fun j k o1 o3 v ne h1 h2 h3 h4 => ?_, fun j k o' h t => ?_⟩, a.ext.poke u y, fun j o' v h h2 pl => ?_⟩
  · rcases get_set h with ⟨rfl, z, _⟩ | ⟨ne, h⟩
    · cases z; exact ⟨_, ev', hr⟩
    · obtain ⟨v, e3, r3⟩ := a.rs.at_ j o' h
      refine ⟨v, e3, r3.move (Le.rfl' w) fun b x' eb pl hb => ?_⟩
      have nb : b ≠ p := fun z => by
        subst z; subst eb
        rcases a.rs.apart j i o' o _ ne h e e3 ev' with z | z
        · rw [pl] at z; cases z
        · rw [hp] at z; cases z
      obtain ⟨b', _, eb', _, n1, n2⟩ := r3.addr pl
      rw [eb] at eb'; cases eb'
      exact ⟨by rw [upd_ne nb]; exact hb, n1, n2⟩
  · rcases get_set h1 with ⟨rfl, z, _⟩ | ⟨n1, h1⟩
    · cases z
      rcases get_set h2 with ⟨rfl, _, _⟩ | ⟨n2, h2⟩
      · exact absurd rfl ne
      · rcases a.rs.apart j k o o3 v ne e h2 h3 h4 with z | z
        · rw [hp] at z; cases z
        · exact .inr z
    · rcases get_set h2 with ⟨e5, z, _⟩ | ⟨n2, h2⟩
      · cases z
        rw [e5] at h4 ne
        rcases a.rs.apart j i o1 o v ne h1 e h3 h4 with z | z
        · exact .inl z
        · rw [hp] at z; cases z
      · exact a.rs.apart j k o1 o3 v ne h1 h2 h3 h4
  · rcases get_set h with ⟨rfl, z, _⟩ | ⟨ne, h⟩
    · cases z; rw [ht] at t; cases t
    · exact a.rs.tag j k o' h t
  · rcases get_set h with ⟨rfl, z, _⟩ | ⟨ne, h⟩
    · rw [ev'] at h2; cases h2
      exact fun b eb => by cases eb; exact y
    · exact a.yg j o' v h h2 pl
theorem Lk.own {i : Nat} {o o2 : O} (e : σ[i]? = some (some o)) (ht : o.tag = none) : Lk σV σ σV (σ.set i (some o2)) := fun j u k e1 t => by
  have ne : i ≠ j := fun z => by subst z; rw [e] at e1; cases e1; rw [ht] at t; cases t
  exact ⟨by rw [List.getElem?_set_ne ne]; exact e1, rfl⟩
/-- name.append(e) -/
theorem app_sem {i : Nat} {e : E} (hK : X.K = T.K) : ∀ Dn σV H, tS T Γ (.app i e) W Dn σV H → tDrop (tBM X.K "list" rAppend (fun σ H Q => ∃ v, σ[i]? = some (some v) ∧ Q v H) (tCons (tE T Γ e W) tNil)) Dn σV H := fun Dn σV H h => by
  obtain ⟨w₀, H₀, w, σ, κ, a, p⟩ := h
  unfold exec at p
  split at p
  · rename_i xs eo
    obtain ⟨v, ev', hv⟩ := a.rs.at_ i _ eo
    obtain ⟨q, vs, rfl, hq, rvs, nθ, nF⟩ := id hv
    refine ⟨.ref q, ev', .inl ⟨rfl, vs, SqL.of hq⟩, w, σ, κ, a.wk, a.rs, SPost.exE a p fun r w1 H1 er e1 k p u hu hb hy => ?_⟩
    obtain ⟨d, ed, p⟩ := p.exO
    have hz : xs.length < sizeLine ∧ SPost T w₀ H₀ w1 σ σV (.nx (σ.set i (some (.ol none (xs ++ [d])))) r.2) W Dn := by
      by_cases z : xs.length < sizeLine
      · rw [if_pos z] at p; exact ⟨z, p⟩
      · rw [if_neg z] at p; exact p.elim
    obtain ⟨hz, p⟩ := hz
    obtain ⟨w2, k2, e2, l2, rv⟩ := hu.give k ed e1 (hy (frz_tag ed))
    have hq2 : H1 q = some (.lst vs) := e2.keep q _ hq nθ
    have a2 := a.ev e2 k2
    refine ⟨q, vs, u, rfl, rfl, hq2, by rw [rvs.length]; exact hz, ?_⟩
    have a3 := a2.write (o2 := .ol none (xs ++ [d])) (u := .lst (vs ++ [u])) eo rfl rfl ev' ⟨q, _, rfl, upd_same, (rvs.mono e2.le).append (.one rv), e2.offθ hq nθ, e2.offF hq nF nθ⟩
    exact p w2 σV _ a3 l2 (Lk.own eo rfl)
  · exact p.elim
/-- d[k] = v, xs[i] = v -/
def rPut : TSet := fun o i v H Q => rSetL o i v H Q ∨ ∃ a H', o = .ref a ∧ DPut H a i v H' ∧ Q H'
theorem set_put (hu : X.A.units + 1 < cLine) : PSet X rPut := by
  intro pins; intro s σ H o i v ov iv u Q I ro ri rv h
  rcases h with h | ⟨a, H', rfl, g, q⟩
  · exact set_list pins s σ H o i v ov iv u Q I ro ri rv h
  · cases (show ov = Value.ref a from ro)
    exact (d_setItem hu I g ri rv fun s' I' => ⟨H', I', q⟩)
/-- a cell is written -/
theorem At.cell {m : Nat} {p : Addr} {o : HO} {co : Co} (a : At T w₀ H₀ w σ κ σV H) (e : w.θ[m]? = some p) (hF : w.F p = none) (r : RC T w o co) : At T w₀ H₀ w σ (κ.set m ⟨false, co⟩) σV (upd H p o) :=
  ⟨a.wk.setCell e hF r, a.rs.setCell (List.mem_of_getElem? e), a.ext.setCell (List.mem_of_getElem? e), a.yg⟩
theorem put_step {i : Nat} {k : E} {d : D} {f : Sl → Cells → Res} {u : V} {w2 : Wd} {H1 : Hp} {κ2 : Cells} {Q : L2.St → Hp → Prop} (a2 : At T w₀ H₀ w2 σ κ2 σV H1) (rv : RV T w2 u d) (p : SPost T w₀ H₀ w2 σ σV (putAt Γ i k d σ κ2 f) W Dn)
    (hQ : ∀ w3 σ3 κ3 H3, At T w₀ H₀ w3 σ3 κ3 σV H3 → Le w2 w3 → SPost T w₀ H₀ w3 σ3 σV (f σ3 κ3) W Dn → Q σV H3) : gSub (fun σ H Q => ∃ v, σ[i]? = some (some v) ∧ Q v H) (tE T Γ k W) rPut u σV H1 Q := by
  unfold putAt at p
  split at p
  · rename_i o eo
    obtain ⟨v, ev', hv⟩ := a2.rs.at_ i o eo
    refine ⟨v, ev', w2, σ, κ2, a2.wk, a2.rs, SPost.exE a2 p fun r3 w3 H3 er3 e3 k3 p3 x hx hb3 hy3 => ?_⟩
    have a3 := a2.ev e3 k3
    have rv3 := rv.mono e3.le
    cases o with
    | fz dd =>
      cases dd with
      | obj m =>
        obtain ⟨kk, ek, p3⟩ := (show SPost T w₀ H₀ w3 σ σV (R.exO (keyOf r3.1.d) _) W Dn from p3).exO
        obtain ⟨kvs, ekv, p3⟩ := p3.exO
        have hz : kvs.length < sizeLine ∧ SPost T w₀ H₀ w3 σ σV (f σ (r3.2.set m ⟨false, .dk (putP kvs kk d)⟩)) W Dn := by
          by_cases z : kvs.length < sizeLine
          · rw [if_pos z] at p3; exact ⟨z, p3⟩
          · rw [if_neg z] at p3; exact p3.elim
        obtain ⟨hz, p3⟩ := hz
        obtain ⟨v', ev'', hv3⟩ := a3.rs.at_ i _ eo
        rw [ev'] at ev''; cases ev''
        cases (show RV T w3 v (.obj m) from hv3) with
        | obj et =>
          rename_i q
          obtain ⟨us, h2, pr, hF, _⟩ := a3.wk.open_ et ekv
          have ex := key_ro ek hx
          subst ex
          refine .inr ⟨q, _, rfl, DPut.k h2 (by rw [pr.length]; exact hz), ?_⟩
          exact hQ w3 _ _ _ (a3.cell et hF (.dk (pr.put rv3 kk))) e3.le p3
      | _ => obtain ⟨o2, eo2, _⟩ := (show SPost T w₀ H₀ w3 σ σV (R.exO (putO _ r3.1.d d) fun o => f (σ.set i (some o)) r3.2) W Dn from p3).exO; simp [putO] at eo2
    | ol b xs =>
      obtain ⟨o2, eo2, p3⟩ := (show SPost T w₀ H₀ w3 σ σV (R.exO (putO (.ol b xs) r3.1.d d) fun o => f (σ.set i (some o)) r3.2) W Dn from p3).exO
      obtain ⟨v', ev'', hv3⟩ := a3.rs.at_ i _ eo
      rw [ev'] at ev''; cases ev''
      obtain ⟨q, vs, rfl, hq, rvs, nθ, nF⟩ := id hv3
      cases b with
      | some _ => simp [putO] at eo2
      | none =>
        generalize eq2 : r3.1.d = dx at eo2
        cases dx with
        | int ix =>
          simp only [putO] at eo2
          split at eo2
          · simp only [Option.map_eq_some_iff] at eo2
            obtain ⟨j, hj, rfl⟩ := eo2
            cases rd_int hx eq2
            refine .inl ⟨q, vs, ix, j, rfl, rfl, hq, by rw [rvs.length]; exact hj, ?_⟩
            exact hQ w3 _ _ _ (a3.write (o2 := .ol none (xs.set j d)) eo rfl rfl ev' ⟨q, _, rfl, upd_same, rvs.set rv3 j, nθ, nF⟩) e3.le (p3.step (Le.rfl' w3) (Lk.own eo rfl))
          · cases eo2
        | _ => simp [putO] at eo2
    | od b kvs =>
      obtain ⟨o2, eo2, p3⟩ := (show SPost T w₀ H₀ w3 σ σV (R.exO (putO (.od b kvs) r3.1.d d) fun o => f (σ.set i (some o)) r3.2) W Dn from p3).exO
      obtain ⟨v', ev'', hv3⟩ := a3.rs.at_ i _ eo
      rw [ev'] at ev''; cases ev''
      obtain ⟨q, vs, rfl, hq, rvs, nθ, nF⟩ := id hv3
      cases b with
      | some _ => simp [putO] at eo2
      | none =>
        simp only [putO, Option.bind_eq_some_iff] at eo2
        obtain ⟨kk, ek, eo2⟩ := eo2
        split at eo2
        · rename_i hz
          cases eo2
          have ex := key_ro ek hx
          subst ex
          refine .inr ⟨q, _, rfl, DPut.k hq (by rw [rvs.length]; exact hz), ?_⟩
          exact hQ w3 _ _ _ (a3.write (o2 := .od none (putP kvs kk d)) eo rfl rfl ev' ⟨q, _, rfl, upd_same, rvs.put rv3 kk, nθ, nF⟩) e3.le (p3.step (Le.rfl' w3) (Lk.own eo rfl))
        · cases eo2
    | ot b kvs => obtain ⟨o2, eo2, _⟩ := (show SPost T w₀ H₀ w3 σ σV (R.exO (putO (.ot b kvs) r3.1.d d) fun o => f (σ.set i (some o)) r3.2) W Dn from p3).exO; simp [putO] at eo2
  · exact p.elim
theorem put_sem {i : Nat} {k e : E} : ∀ Dn σV H, tS T Γ (.put i k e) W Dn σV H → tAsg (tE T Γ e W) (gSub (fun σ H Q => ∃ v, σ[i]? = some (some v) ∧ Q v H) (tE T Γ k W) rPut) Dn σV H := fun Dn σV H h => by
  obtain ⟨w₀, H₀, w, σ, κ, a, p⟩ := h
  unfold exec at p
  refine ⟨w, σ, κ, a.wk, a.rs, SPost.exE a p fun r w1 H1 er e1 k1 p u hu hb hy => ?_⟩
  obtain ⟨d, ed, p⟩ := p.exO
  obtain ⟨w2, k2, e2, l2, rv⟩ := hu.give k1 ed e1 (hy (frz_tag ed))
  exact put_step (a.ev e2 k2) rv (p.step l2 Lk.rfl') fun w3 σ3 κ3 H3 a3 l3 p3 => p3 w3 σV H3 a3 (Le.rfl' w3) Lk.rfl'
/-- a slot is given away -/
theorem frz_sem {i : Nat} {t : R.S} : ∀ Dn σV H, tS T Γ (.cons (.frz i) t) W Dn σV H → tS T Γ t W Dn σV H := fun Dn σV H h => by
  obtain ⟨w₀, H₀, w, σ, κ, a, p⟩ := h
  unfold exec at p
  cases ef : exec Γ (.frz i) σ κ with
  | nx σ' κ' =>
    rw [ef] at p
    have p : SPost T w₀ H₀ w σ σV (exec Γ t σ' κ') W Dn := p
    unfold exec at ef
    split at ef
    · cases ef; exact ⟨w₀, H₀, w, σ, κ, a, p⟩
    · rename_i o nf eo
      cases efz : o.frz with
      | none => simp [R.exO, efz] at ef
      | some d =>
        simp only [R.exO, efz, Res.nx.injEq] at ef
        obtain ⟨rfl, rfl⟩ := ef
        obtain ⟨v, ev', hv⟩ := a.rs.at_ i o eo
        obtain ⟨w2, k2, e2, ⟨l2, eθ⟩, rv, oth⟩ := hv.give2 a.wk efz a.ext (a.yg i o v eo ev')
        refine ⟨w₀, H₀, w2, σ.set i (some (.fz d)), κ, ⟨k2, ?_, e2, fun j u x e1 e3 pl => ?_⟩, p.step l2 fun j u k e1 t => ?_⟩
        · have rs2 : RS T w2 H σV (σ.set i (some (.fz d))) := by
            refine ⟨by simp [a.rs.len], fun j u h => ?_, fun j k u u' x ne h1 h2 h3 h4 => ?_, fun j k u h t => ?_⟩
            · rcases get_set h with ⟨rfl, z, _⟩ | ⟨ne, h⟩
              · cases z; exact ⟨v, ev', rv⟩
              · obtain ⟨x, e3, r3⟩ := a.rs.at_ j u h
                refine ⟨x, e3, oth x u r3 fun pl pl' z => ?_⟩
                subst z
                rcases a.rs.apart j i u o _ ne h eo e3 ev' with z | z
                · rw [pl'] at z; cases z
                · rw [pl] at z; cases z
            · rcases get_set h1 with ⟨rfl, z, _⟩ | ⟨n1, h1⟩
              · cases z; exact .inl rfl
              · rcases get_set h2 with ⟨rfl, z, _⟩ | ⟨n2, h2⟩
                · cases z; exact .inr rfl
                · exact a.rs.apart j k u u' x ne h1 h2 h3 h4
            · rcases get_set h with ⟨rfl, z, _⟩ | ⟨ne, h⟩
              · cases z; cases t
              · exact a.rs.tag j k u h t
          exact rs2
        · rcases get_set e1 with ⟨rfl, z, _⟩ | ⟨ne, e1⟩
          · cases z; cases pl
          · exact a.yg j u x e1 e3 pl
        · have ne : i ≠ j := fun z => by subst z; rw [eo] at e1; cases e1; rw [frz_tag efz] at t; cases t
          exact ⟨by rw [List.getElem?_set_ne ne]; exact e1, rfl⟩
    · cases ef; exact ⟨w₀, H₀, w, σ, κ, a, p⟩
  | rt _ _ => unfold exec at ef; split at ef <;> first | (cases ef; done) | (rename_i o _ _; cases efz : o.frz <;> simp [R.exO, efz] at ef)
  | bk _ _ => unfold exec at ef; split at ef <;> first | (cases ef; done) | (rename_i o _ _; cases efz : o.frz <;> simp [R.exO, efz] at ef)
  | ct _ _ => unfold exec at ef; split at ef <;> first | (cases ef; done) | (rename_i o _ _; cases efz : o.frz <;> simp [R.exO, efz] at ef)
  | xc _ _ _ _ => unfold exec at ef; split at ef <;> first | (cases ef; done) | (rename_i o _ _; cases efz : o.frz <;> simp [R.exO, efz] at ef)
  | bad => rw [ef] at p; exact p.elim
end
end R

/-! R24: exceptions. -/
namespace R
open L2 PyProof.Rows PySem.Spec PySem
/-- a clause: the class it takes, the slot of its name, what its suite does -/
abbrev Cl := Value × Option Nat × (Addr → Value → Option Addr → TS)
def endsAs (o : Option Nat) (D : Ends) : Ends := match o with
  | none => D
  | some i => { nx := fun σ H => D.nx (σ.set i none) H, rt := D.rt, bk := fun σ H => D.bk (σ.set i none) H, ct := fun σ H => D.ct (σ.set i none) H }
def slotAs (o : Option Nat) (a : Addr) (σ : L2.St) : L2.St := match o with
  | none => σ
  | some i => σ.set i (some (.ref a))
def wMix (K : PySem.W.Frag) (Wo : WX) (D : Ends) : List Cl → WX
  | [] => Wo
  | (c, o, ts) :: r => fun cls d σ H => ∃ b, PySem.W.exmOne K cls c = some b ∧ (b = true → ∀ a, H a = none → ts a cls d (endsAs o D) (slotAs o a σ) H) ∧ (b = false → wMix K Wo D r cls d σ H)
def AsOk (X : Cx) : Option Nat → Option Str → Prop
  | none, none => True
  | some i, some n => X.N[i]? = some n ∧ X.env.kindOf n = some .local
  | _, _ => False
inductive HdM (X : Cx) : List ExceptHandler → List Cl → Prop
  | nil : HdM X [] []
  | cons {x : Str} {c : Value} {o : Option Nat} {n : Option Str} {ts : Addr → Value → Option Addr → TS} {b0 : Stmt} {sts : List Stmt} {p p' : Pos} {hds : List ExceptHandler} {l : List Cl} (hc : Names X x c) (ha : AsOk X o n)
      (hsu : ∀ (a : Addr) (oe : Obj) (cls : Value) (d : Option Addr) (pn : List (Addr × Obj)), Zc cls d oe → (∃ vs, oe.data = .fields vs) → PSs (X.suite a ((a, oe) :: pn)) (b0 :: sts) (ts a cls d)) (r : HdM X hds l) :
      HdM X (.ExceptHandler (some (.Name x p)) n (b0 :: sts) p' :: hds) ((c, o, ts) :: l)
section
variable {X : Cx} {body : List Stmt} {hd0 : ExceptHandler} {hds : List ExceptHandler} {l : List Cl} {pos : Pos} {tb : WX → TS} {Wo : WX}
theorem ps_try_mix (hN : X.N.Nodup) (hst : X.stack = X.env :: X.outer) (hf : X.env.frame = some X.env.locals) (tk : Takes X Wo)
    (hb : ∀ (W : WX) (pn : List (Addr × Obj)) (xe : Value → Shared → Prop), Takes (X.tr pn xe) W → PassesOwn (model X.prog X.w) X.A X.env xe → PSs (X.tr pn xe) body (tb W)) (hh : HdM X (hd0 :: hds) l) :
    PS X (.Try body (hd0 :: hds) [] [] pos) (fun D σ H => tb (wMix X.K Wo D l) D σ H) := by
  refine (⟨fun pins s σ H D I h => ?_⟩)
  have xok := I.ok
  have frames : X.A.frames = some (X.env :: X.outer) := by rw [xok.frames, hst]
  refine wpAny_Try_except (wpAny_mono ((hb (wMix X.K Wo D l) (X.pn ++ pins) (fun e t1 => wpAny (model X.prog X.w) X.A (noteFrame e X.env) (fun _ t2 => wpAny (model X.prog X.w) X.A (setFlight e none) (fun _ t3 =>
    wpAny (model X.prog X.w) X.A (handleBy e X.env (hd0 :: hds)) (SP X pins D) X.xe t3) X.xe t2) X.xe t1) (fun u s' xx => ?_) PassesOwn.looking).run [] s σ H D (I.toTry _) h) (fun f s1 hsp => ?_) (fun e s1 he => he))
  · obtain ⟨a, B, sI, pins', σ', H', cls, d, rfl, JT, nb, up, sky, na, os, ag, w⟩ := xx
    have J : Inv X pins σ' H' sI := JT.ofTry xok
    have sky2 : Sky B (X.env :: X.outer) a (Zc cls d) X.env.locals s'.heap := by rw [← hst]; exact sky
    show (wpAny (model X.prog X.w) X.A (noteFrame (.ref a) X.env) _ _ _)
    refine Sky.land Zc.steady frames hf sky2 fun g fl upg => ?_
    have Jg : Inv X pins σ' H' { s' with heap := g } := J.landed nb fl.1 (up.trans upg) os ag
    obtain ⟨oe, vs, heo, hz, hda⟩ := fl.there
    have nfr : a ∉ frs (X.env :: X.outer) := fun hm => by
      obtain ⟨_, o', e', nf⟩ := fl.2.2.1.mem hm
      rw [heo] at e'
      cases e'
      exact nf _ hda
    have nL : a ≠ X.env.locals := (fun z => nfr (List.mem_filterMap.mpr ⟨X.env, List.mem_cons_self, by rw [hf, z]⟩))
    have nF : (a ∉ X.fs) := fun hm => by
      obtain ⟨e, he, q⟩ := (List.mem_filterMap.mp hm)
      exact nfr (List.mem_filterMap.mpr ⟨e, List.mem_cons_of_mem X.env he, q⟩)
    have Sg := Jg.suite heo hda na nL nF
    have go : ∀ {hs' : List ExceptHandler} {l' : List Cl}, HdM X hs' l' → wMix X.K Wo D l' cls d σ' H' → wpAny (model X.prog X.w) X.A (handleBy (.ref a) X.env hs') (SP X pins D) X.xe { s' with heap := g } := by
      intro hs' l' hk
      induction hk with
      | nil =>
        intro w
        refine wpAny_handleBy_nil ?_
        obtain ⟨k1, k2, k3, oe2, vs2, T2, oT, ts2, he2, hz2, hd2, h12, hr2⟩ := id fl
        unfold PySem.passOn
        refine wpAny_bind (wpAny_field he2 hd2 h12 ?_)
        rw [if_neg (show ¬ ((Value.ref T2 == Value.none) = true) from by simp)]
        have out : wpAny (model X.prog X.w) X.A (setFlight (.ref a) X.env.frame) (fun _ t4 => wpAny (model X.prog X.w) X.A (throw (.ref a) : Sem Flow) (SP X pins D) X.xe t4) X.xe { s' with heap := g } := by
          rw [hf]
          exact HandSPX.setFlight_upZ fl fun h4 hh4 up4 => wpAny_throw (tk _ _ ⟨a, B, sI, pins, σ', H', cls, d, rfl, J, nb, (up.trans upg).trans up4, .inr (.inr (by rw [hst]; exact hh4)), na, os, ag, w⟩)
        first
          | exact wpAny_bind (wpAny_pure (wpAny_bind out))
          | exact wpAny_bind out
      | @cons x c o n ts b0 sts p p' hds2 l2 hc ha hsu r ih =>
        intro w
        obtain ⟨b, hb1, yes, no⟩ := w
        refine (wpAny_handleBy_cons (codeAny_handlers_test ?_) (by intro q; cases q))
        have LT : PySem.W.Looks (model X.prog X.w) g (typeOf (.ref a)) cls := fun A Q E t k q => wpAny_typeOf_ref (k _ _ heo) (by rw [hz.1]; exact q)
        have LM := PySem.W.exm_one (M := model X.prog X.w) Jg.kIn LT hb1
        have test : ∀ {Q : Value → Shared → Prop} {E : Value → Shared → Prop}, Q c { s' with heap := g } → wpAny (model X.prog X.w) (X.A.mark (some (.ref a))) (eval (.Name x p) X.env) Q E { s' with heap := g } := fun {Q E} q => by
          obtain ⟨hg, hdb, hm | ⟨hm, hv, hnn⟩⟩ := hc
          · exact ld_glob (X := X.suite a ((a, oe) :: (X.pn ++ pins))) Sg hg hm q hdb
          · exact ld_blt (X := X.suite a ((a, oe) :: (X.pn ++ pins))) Sg hg hm hv q hnn hdb
        refine test (LM.here ?_)
        cases b with
        | true =>
          cases o with
          | none =>
            cases n with
            | some _ => exact ha.elim
            | none =>
            refine codeAny_handlers_suite (HandSPX.lands_againZ fl fun h4 fl4 up4 => ?_)
            have J4 : Inv X pins σ' H' { s' with heap := h4 } := J.landed nb fl4.1 ((up.trans upg).trans up4) os ag
            obtain ⟨oe4, vs4, he4, hz4, hd4⟩ := (fl4.there)
            refine wpAny_mono ((hsu a oe4 cls d (X.pn ++ pins) hz4 ⟨_, hd4⟩).run [] _ _ H' _ (J4.suite he4 hd4 na nL nF) (yes rfl a na)) (fun f s6 hsp => ?_) (fun _ _ z => z.elim)
            cases f with
            | next => obtain ⟨σ6, H6, S6, q6⟩ := hsp; exact ⟨_, _, S6.unsuite xok, q6⟩
            | brk => obtain ⟨σ6, H6, S6, q6⟩ := hsp; exact ⟨_, _, S6.unsuite xok, q6⟩
            | cont => obtain ⟨σ6, H6, S6, q6⟩ := hsp; exact ⟨_, _, S6.unsuite xok, q6⟩
            | ret u => obtain ⟨v6, σ6, H6, S6, r6, q6⟩ := hsp; exact ⟨_, _, _, S6.unsuite xok, r6, q6⟩
          | some i =>
            cases n with
            | none => exact ha.elim
            | some n =>
            obtain ⟨hi, hln⟩ := ha
            refine codeAny_handlers_suite_as (HandSPX.lands_againZ fl fun h4 fl4 up4 => ?_)
            have J4 : Inv X pins σ' H' { s' with heap := h4 } := J.landed nb fl4.1 ((up.trans upg).trans up4) os ag
            obtain ⟨oe4, vs4, he4, hz4, hd4⟩ := (fl4.there)
            refine store_ok (X := X.suite a ((a, oe4) :: (X.pn ++ pins))) (v := .ref a) (J4.suite he4 hd4 na nL nF) hN hi (.inl hln) rfl (fun s5 S5 => ?_) (.inr hln)
            refine wpAny_mono ((hsu a oe4 cls d (X.pn ++ pins) hz4 ⟨_, hd4⟩).run [] s5 _ H' _ S5 (yes rfl a na)) (fun f s6 hsp => ?_) (fun _ _ z => z.elim)
            have fin : ∀ {σ6 : L2.St} {H6 : Hp} {Q : Shared → Prop}, Inv (X.suite a ((a, oe4) :: (X.pn ++ pins))) [] σ6 H6 s6 → (∀ s7, Inv X pins (σ6.set i none) H6 s7 → Q s7) →
              wpAny (model X.prog X.w) X.A (do bindName X.env n .none; unbindBehindTheSuite X.env n p') (fun _ s7 => Q s7) X.xe s6 := fun S6 hq => gone_ok (S6.unsuite xok) hN hi hln hq
            cases f with
            | next => obtain ⟨σ6, H6, S6, q6⟩ := hsp; exact fin S6 fun s7 J7 => ⟨_, _, J7, q6⟩
            | brk => obtain ⟨σ6, H6, S6, q6⟩ := hsp; exact fin S6 fun s7 J7 => ⟨_, _, J7, q6⟩
            | cont => obtain ⟨σ6, H6, S6, q6⟩ := hsp; exact fin S6 fun s7 J7 => ⟨_, _, J7, q6⟩
            | ret u => obtain ⟨v6, σ6, H6, S6, r6, q6⟩ := hsp; exact fin S6 fun s7 J7 => ⟨_, _, _, J7, r6, q6⟩
        | false =>
          show (wpAny _ X.A (handleBy (.ref a) X.env hds2) _ _ _)
          exact ih (no rfl)
    exact go hh w
  · cases f with
    | next => obtain ⟨σ', H', J', q⟩ := hsp; exact wpAny_execs_nil ⟨σ', H', J'.ofTry xok, q⟩
    | brk => obtain ⟨σ', H', J', q⟩ := hsp; exact ⟨σ', H', J'.ofTry xok, q⟩
    | cont => obtain ⟨σ', H', J', q⟩ := hsp; exact ⟨σ', H', J'.ofTry xok, q⟩
    | ret u => obtain ⟨v, σ', H', J', r, q⟩ := hsp; exact ⟨v, σ', H', J'.ofTry xok, r, q⟩
end
end R

/-! R25: raise, except suites, try. -/
namespace R
open L2 PyProof.Rows PySem.Spec PySem
section
variable {T : Tb} {Γ : Cxt} {w₀ w w' : Wd} {H₀ H H' : Hp} {σ σ' : Sl} {κ κ' : Cells} {σV σV' : L2.St} {W : WX} {Dn : Ends}
variable {S : Sg} {N : List Str} {n : Nat} {sc : Scope} {X : Cx}
theorem passes0 {X : Cx} : Passes (L2.CX X.prog X.w) X (fun _ _ _ => False) := fun _ _ _ _ _ _ _ c => by
  obtain ⟨a, B, H', cls, d, _, _, _, _, _, _, _, hE⟩ := c
  exact hE.elim
theorem heap_exc {H1 : Hp} {a d : Addr} {x0 x1 x2 xd : HO} (ha : H1 a = none) (hd : d ≠ a) : upd (del (upd (upd (upd H1 a x0) d x1) a x2) a) d xd = upd H1 d xd := by
  funext b
  by_cases h1 : b = d
  · subst h1; rw [upd_same, upd_same]
  · rw [upd_ne h1, upd_ne h1]
    by_cases h2 : b = a
    · subst h2; rw [del_same, ha]
    · rw [del_ne h2, upd_ne h2, upd_ne h1, upd_ne h2]
theorem s_raise_ok {c : Nat} {es : E} {x : Str} {nms : List Str} {xs : List Expr} {p p2 pos : Pos} (g : XS T S Γ N n sc X) (hc : c ∈ S.exs) (hx : S.cls[c]? = some (x, nms)) (h0 : nms ≠ []) (hg : glB sc x = true) (hd : notDbg x = true) (q : isEs S N none es sc xs = true) (hl : xs.length = nms.length) (h9 : xs.length ≤ 9) (tk : Takes X W) :
    PS X (.Raise (some (.Call (.Name x p) xs [] p2)) none pos) (tS T Γ (.raise c es) W) := by
  obtain ⟨C, hC⟩ := g.exn c hc x nms hx h0
  obtain ⟨x', _, hx', _, hm, ok⟩ := g.exc c C nms hC
  rw [hx] at hx'
  cases hx'
  obtain ⟨fI, fd, ps, hi, ht, F, hb⟩ := ok.mkX
  match xs, hl, h9, q with
  | [], hl, _, _ => exact absurd (List.eq_nil_of_length_eq_zero (by simpa using hl.symm)) h0
  | y :: ys, hl, h9, q =>
  obtain ⟨s1, s2⟩ := star_of (pos := p2) q X.env y ys rfl
  refine psI (ps_raise g.calm tk (pmk_oex ok.cls hi ht F (g.room.mono g.lv) hb .nil passes0 (gl_of hg g.hsc) hm ((all_ok es).pa sc (y :: ys) X W q g.toXG tk) (dbg_of hd).1 s1 s2)) fun Dn σV H h => ?_
  obtain ⟨w₀, H₀, w, σ, κ, a, p⟩ := h
  unfold exec at p
  refine ⟨w, σ, κ, a.wk, a.rs, SPost.exE a p fun r w1 H1 er e k p vs hvs => ?_⟩
  have hlen : vs.length = (y :: ys).length := by rw [hvs.length, evs_count q er]
  refine ⟨by rw [hlen]; omega, fun b hb1 => ⟨b, vs, by rw [List.append_nil], hlen.trans hl, upd_same, fun dd l hd1 hne fl => ⟨rfl, dd, l, upd_same, by rw [upd_ne hne, upd_same], by rw [upd_ne hne] at hd1; exact hd1, ?_⟩⟩⟩
  rw [heap_exc hb1 hne]
  rw [upd_ne hne] at hd1
  have z := k.laid (.xd l) hd1
  have a1 := (a.ev e k).ev z.2 z.1
  exact p _ σV _ (.ref C) (some dd) a1 z.2.le Lk.rfl' ⟨C, dd, nms, l, vs, hC, rfl, rfl, by show upd _ _ _ _ = _; exact upd_same, fl, hvs.mono z.2.le⟩
/-! ### except suites -/
/-- e.f, e the exception at a -/
def tByX (C : Addr) (f : Str) (a : Addr) (cls : Value) (d : Option Addr) (te : TE) : TE := fun σ H Q => te σ H fun x H1 => x = .ref a ∧ cls = .ref C ∧ ∃ (dd : Addr) (l : List (Str × V)) (v : V), d = some dd ∧ H1 dd = some (.xd l) ∧ l.lookup f = some v ∧ Q v H1
theorem pe_byX {C a : Addr} {f : Str} {nms : List Str} {oe : Obj} {cls : Value} {d : Option Addr} {pn : List (Addr × Obj)} {e : Expr} {te : TE} {pos : Pos} (ok : ExOk X C nms) (hmem : f ∈ nms) (hz : Zc cls d oe) (hf : ∃ vs, oe.data = .fields vs) (he : PE (X.suite a ((a, oe) :: pn)) e te)
    (hb : attributeBase e f X.env (eval e X.env) = eval e X.env) : PE (X.suite a ((a, oe) :: pn)) (.Attribute e f pos) (tByX C f a cls d te) := by
  refine ⟨fun pins s σ H Q I h => attr_of hb (thn (he.run pins s σ H _ I h) fun u t hh => ?_)⟩
  obtain ⟨x, H1, I1, rx, rfl, rfl, dd, fl, v, rfl, ea, l, q⟩ := hh
  obtain rfl : u = Value.ref a := (rx)
  obtain ⟨ha, _⟩ := (I1.pin (a, oe) (List.mem_append_left _ List.mem_cons_self))
  obtain ⟨vs, hd⟩ := hf
  have hx : ObjOk X.prog X.w H1 t.heap dd (.xd fl) := I1.hok dd _ ea
  obtain ⟨mA, hns, hr⟩ := hx
  obtain ⟨od, ho, hl⟩ := (lookIn_ns hns)
  obtain ⟨u, hu, ru⟩ := RelO.some_of (v := v) (o := mA f) (by rw [← l]; exact hr f)
  have J : PySem.W.InstAt t.heap a oe C (some od) := ⟨ha, hz.1, by unfold PySem.W.notCls; rw [hd] <;> rfl, by rw [hz.2]; exact ho⟩
  exact HandSPX.exc_get I1.kIn J ok.ga ok.gg ok.cls.exC (PySem.W.findObj_own ok.hd (ok.no f hmem) rfl (by rw [hl, hu])) (handed_of ru) ⟨v, H1, I1.tok _, ru, q⟩
end
end R

/-! R26: what stands in an except suite; try. -/
namespace R
open L2 PyProof.Rows PySem.Spec PySem
/-- the expressions of suites -/
def smallE : E → Bool
  | .var _ | .cst _ | .exf _ | .nil => true
  | .cons a b => smallE a && smallE b
  | .tup a | .lst a => smallE a
  | .bin .add a b => smallE a && smallE b
  | .blt1 .repr a => smallE a
  | _ => false
/-- where a suite stands: the exception at a, in the slot i of its name, its fields -/
structure XH (T : Tb) (N : List Str) (sc : Scope) (X : Cx) (Y : Cx) (hn : Option (Str × List Str)) (i : Option Nat) (a : Addr) (dd : Addr) (C : Addr) (f : List Str) : Prop where
  hN : Y.N = N
  nd : N.Nodup
  hsc : Y.env.scope = sc
  fn : ∀ x, sc.names.lookup x = some .cell → Y.fn x = true
  kind : Y.env.scope.kind = .function
  hK : Y.K = T.K
  gd : Y.A.guards = some []
  hu : Y.A.units + 65 < cLine
  rp : Y.mg "repr" = none
  fld : ∀ (x : Str) (fs : List Str), hn = some (x, fs) → notDbg x = true ∧ (∃ k, i = some k ∧ N[k]? = some x) ∧ sc.names.lookup x = some .local ∧ fs = f ∧ ∀ g ∈ f, ∀ (p pos : Pos) (te : TE), PE Y (.Name x p) te → PE Y (.Attribute (.Name x p) g pos) (tByX C g a (.ref C) (some dd) te)
/-- the fields' values, now -/
def HX (T : Tb) (Γ : Cxt) (i : Option Nat) (a dd : Addr) (f : List Str) (σV : L2.St) (w : Wd) : Prop := (∀ k, i = some k → σV[k]? = some (some (.ref a))) ∧ ∃ l vs ds, w.F dd = some (.xd l) ∧ FLk l f vs ∧ RVs T w vs ds ∧ Γ.hx = ds
def tEh (T : Tb) (Γ : Cxt) (i : Option Nat) (a dd : Addr) (f : List Str) (e : E) : TE := fun σV H Q => ∃ w σ κ, HX T Γ i a dd f σV w ∧ Wok T w H κ ∧ RS T w H σV σ ∧ Post T w H (ev Γ e σ κ) (fun _ _ _ => False) (GE T H σV Q)
def tAh (T : Tb) (Γ : Cxt) (i : Option Nat) (a dd : Addr) (f : List Str) (e : E) : TA := fun σV H Q => ∃ w σ κ, HX T Γ i a dd f σV w ∧ Wok T w H κ ∧ RS T w H σV σ ∧ Post T w H (evs Γ e σ κ) (fun _ _ _ => False) (GA T Q)
section
variable {T : Tb} {Γ : Cxt} {S : Sg} {N : List Str} {sc : Scope} {X Y : Cx} {hn : Option (Str × List Str)} {i : Option Nat} {a dd C : Addr} {f : List Str}
theorem HX.le {σV : L2.St} {w w' : Wd} (h : HX T Γ i a dd f σV w) (l : Le w w') : HX T Γ i a dd f σV w' := by
  obtain ⟨h1, fl, vs, ds, h2, h3, h4, h5⟩ := h
  exact ⟨h1, fl, vs, ds, l.F _ _ h2, h3, h4.mono l, h5⟩
theorem tEh_bind {α : Type} {e : E} {σV : L2.St} {H : Hp} {w : Wd} {σ : Sl} {κ : Cells} {f' : O × Cells → Out (α × Cells)} {G : α × Cells → Wd → Hp → Prop} {Q : V → Hp → Prop} (hx : HX T Γ i a dd f σV w) (hw : Wok T w H κ) (hs : RS T w H σV σ)
    (p : Post T w H ((ev Γ e σ κ).bind f') (fun _ _ _ => False) G) (h : ∀ r w' H' v, ev Γ e σ κ = .ok r → Ext w H w' H' → Wok T w' H' r.2 → RS T w' H' σV σ → RO T w' H' v r.1 → Bor σV v r.1 → (r.1.tag = none → Young H v r.1) → Post T w H (f' r) (fun _ _ _ => False) G → Q v H') : tEh T Γ i a dd f e σV H Q := by
  refine ⟨w, σ, κ, hx, hw, hs, ?_⟩
  cases er : ev Γ e σ κ with
  | ok r => rw [er] at p; exact fun w' H' e k v hv hb hy => h r w' H' v er e k (hs.ext e) hv hb hy p
  | exc c fs k => rw [er] at p; exact p
  | bad => rw [er] at p; exact p
theorem tAh_bind {α : Type} {es : E} {σV : L2.St} {H : Hp} {w : Wd} {σ : Sl} {κ : Cells} {f' : List D × Cells → Out (α × Cells)} {G : α × Cells → Wd → Hp → Prop} {Q : List V → Hp → Prop} (hx : HX T Γ i a dd f σV w) (hw : Wok T w H κ) (hs : RS T w H σV σ)
    (p : Post T w H ((evs Γ es σ κ).bind f') (fun _ _ _ => False) G) (h : ∀ r w' H' vs, evs Γ es σ κ = .ok r → Ext w H w' H' → Wok T w' H' r.2 → RVs T w' vs r.1 → Post T w H (f' r) (fun _ _ _ => False) G → Q vs H') : tAh T Γ i a dd f es σV H Q := by
  refine ⟨w, σ, κ, hx, hw, hs, ?_⟩
  cases er : evs Γ es σ κ with
  | ok r => rw [er] at p; exact fun w' H' e k vs hv => h r w' H' vs er e k hv p
  | exc c fs k => rw [er] at p; exact p
  | bad => rw [er] at p; exact p
theorem small_ok : ∀ (e : E), smallE e = true → (∀ x, isE S N hn e sc x = true → XH T N sc X Y hn i a dd C f → PE Y x (tEh T Γ i a dd f e)) ∧ (∀ xs, isEs S N hn e sc xs = true → XH T N sc X Y hn i a dd C f → PA Y xs (tAh T Γ i a dd f e)) := by
  intro e
  induction e with
  | var k =>
    intro _
    refine ⟨fun x q g => ?_, fun xs q => by cases xs <;> simp [isEs] at q⟩
    cases x <;> simp only [isE, Bool.and_eq_true, decide_eq_true_eq, Bool.false_eq_true] at q
    obtain ⟨⟨q1, q2⟩, q3⟩ := q
    have q3 := dbg_of q3
    refine peI (pe_var (i := k) (by rw [g.hN]; exact q1) (by rw [g.hsc]; exact vis_of q2) q3.1 q3.2.1) fun σV H Q h => ?_
    obtain ⟨w, σ, κ, hx, hw, hs, p⟩ := h
    unfold ev at p
    split at p
    · rename_i o eo
      obtain ⟨v, ev', hv⟩ := hs.at_ k o eo
      refine ⟨v, ev', p.ok hw v (hv.retag k) (fun j e => ?_) fun e pl => ?_⟩
      · have : j = k := by cases o <;> simp [O.read, O.tag] at e <;> exact e.symm
        subst this
        exact ev'
      · cases o <;> simp [O.read, O.tag, O.place] at e pl
    · exact p.elim
  | cst d =>
    intro _
    refine ⟨fun x q g => ?_, fun xs q => by cases xs <;> simp [isEs] at q⟩
    cases x <;> simp only [isE, Bool.false_eq_true] at q
    rename_i c j pos
    have fin : ∀ {v : V}, (∀ w, RV T w v d) → ∀ σV H Q, tEh T Γ i a dd f (.cst d) σV H Q → tC v σV H Q := fun {v} hv σV H Q h => by
      obtain ⟨w, σ, κ, hx, hw, hs, p⟩ := h
      exact GE.fz (p.ok hw) (hv w)
    cases d <;> cases c <;> simp only [constB, beq_iff_eq, decide_eq_true_eq, Bool.false_eq_true] at q
    · exact peI pe_non (fin fun _ => .non)
    · subst q; exact peI pe_bl (fin fun _ => .bl _)
    · subst q; exact peI pe_int (fin fun _ => .int _)
    · subst q; exact peI pe_str (fin fun _ => .str _)
  | exf k =>
    intro _
    refine ⟨fun x q g => ?_, fun xs q => by cases xs <;> simp [isEs] at q⟩
    cases x <;> try (simp [isE] at q; done)
    rename_i y g' pos
    cases y <;> try (simp [isE] at q; done)
    rename_i y p
    cases hn with
    | none => simp [isE] at q
    | some nf =>
      obtain ⟨x, fs⟩ := nf
      simp only [isE, Bool.and_eq_true, decide_eq_true_eq] at q
      obtain ⟨⟨rfl, q2⟩, q3⟩ := q
      obtain ⟨h0, ⟨ki, rfl, h1⟩, h2, h3⟩ := g.fld _ fs rfl
      obtain ⟨rfl, hp⟩ := h3
      have hp := hp g' (List.mem_of_getElem? q2)
      have hd := dbg_of h0
      refine peI (hp p pos _ (pe_var (i := ki) (by rw [g.hN]; exact h1) (by rw [g.hsc]; exact .inl h2) hd.1 hd.2.1)) fun σV H Q h => ?_
      obtain ⟨w, σ, κ, ⟨e1, fl, vs, ds, e2, flk, rvs, e3⟩, hw, hs, p⟩ := h
      unfold ev at p
      rw [e3] at p
      obtain ⟨d, ed, p⟩ := p.opt
      obtain ⟨v, ev1, rv⟩ := rvs.get ed
      exact ⟨.ref a, e1 ki rfl, rfl, rfl, dd, fl, v, rfl, hw.le _ _ e2, flk.2 k g' v q2 ev1, GE.fz (Post.ok (r := (O.fz d, κ)) p hw) rv⟩
  | tup es ih =>
    intro hs
    refine ⟨fun x q g => ?_, fun xs q => by cases xs <;> simp [isEs] at q⟩
    cases x <;> simp only [isE, Bool.false_eq_true] at q
    refine peI (pe_tup ((ih hs).2 _ q g)) fun σV H Q h => ?_
    obtain ⟨w, σ, κ, hx, hw, hs, p⟩ := h
    unfold ev at p
    refine tAh_bind hx hw hs p fun r w1 H1 vs er e k hv p => ⟨by rw [hv.length]; exact evs_len er, fun b hb => ?_⟩
    have z := k.laid (.tup vs) hb
    exact GE.fz (p _ _ (e.trans z.2) z.1) (.tup (.inl (.inl (by show upd _ _ _ _ = _; exact upd_same))) (hv.mono (le_put _ (k.noF hb))))
  | lst es ih =>
    intro hs
    refine ⟨fun x q g => ?_, fun xs q => by cases xs <;> simp [isEs] at q⟩
    cases x <;> simp only [isE, Bool.false_eq_true] at q
    refine peI (pe_lst ((ih hs).2 _ q g)) fun σV H Q h => ?_
    obtain ⟨w, σ, κ, hx, hw, hs, p⟩ := h
    unfold ev at p
    refine tAh_bind hx hw hs p fun r w1 H1 vs er e k hv p => ⟨by rw [hv.length]; exact evs_len er, fun b hb => ?_⟩
    have z := k.own (.lst vs) hb
    exact GE.own (p _ _ (e.trans z.2) z.1) upd_same hv (k.offθ hb) (k.noF hb) (e.dom b hb)
  | bin op a b iha ihb =>
    intro hs
    cases op <;> try (cases hs; done)
    simp only [smallE, Bool.and_eq_true] at hs
    refine ⟨fun x q g => ?_, fun xs q => by cases xs <;> simp [isEs] at q⟩
    cases x <;> simp only [isE, Bool.and_eq_true, decide_eq_true_eq, Bool.false_eq_true] at q
    obtain ⟨⟨rfl, q1⟩, q2⟩ := q
    refine peI (pe_op (op_bin g.hK .add) ((iha hs.1).1 _ q1 g) ((ihb hs.2).1 _ q2 g)) fun σV H Q h => ?_
    obtain ⟨w, σ, κ, hx, hw, hs, p⟩ := h
    unfold ev at p
    refine tEh_bind hx hw hs p fun r w1 H1 v er e k hs1 hv hbr hy p => ?_
    refine tEh_bind (hx.le e.le) k hs1 (p.step e) fun r2 w2 H2 v2 er2 e2 k2 hs2 hv2 hbr2 hy2 p2 => ?_
    obtain ⟨o, eo, p3⟩ := (p2.step e2).opt
    exact ⟨w2, r2.2, r.1, r2.1, o, k2, hv.ext e2, hv2, eo, go_of (e.trans e2) p3 (bin_tag eo)⟩
  | blt1 b a ih =>
    intro hs
    cases b <;> try (cases hs; done)
    have hs : smallE a = true := hs
    refine ⟨fun x q g => ?_, fun xs q => by cases xs <;> simp [isEs] at q⟩
    cases x <;> try (simp [isE] at q; done)
    rename_i fn args kws pos
    cases fn <;> try (simp [isE] at q; done)
    rename_i nm np
    match args, kws, q with
    | [y], [], q =>
      simp only [isE, Bool.and_eq_true, decide_eq_true_eq] at q
      obtain ⟨⟨⟨rfl, q1⟩, q2⟩, q9⟩ := q
      refine peI (pe_callB (cr_both (cr_reprD g.hK g.gd g.hu) (cr_no fun _ _ => rfl)) (gl_of q1 g.hsc) g.rp (by decide +kernel) (pa_cons ((ih hs).1 _ q2 g) pa_nil (notStar q2 Y.env [])) (by decide) (by decide) (notStar q2 Y.env [])) fun σV H Q h => ?_
      obtain ⟨w, σ, κ, hx, hw, hs, p⟩ := h
      unfold ev at p
      refine tEh_bind hx hw hs p fun r w1 H1 v er e k hs1 hv hbr hy p => ?_
      obtain ⟨o, eo, p3⟩ := (p.step e).opt
      exact ⟨v, w1, r.2, r.1, o, rfl, k, hv, eo, go_of e p3 (bltC_tag eo)⟩
    | [], _, q => simp [isE] at q
    | _ :: _ :: _, _, q => simp [isE] at q
    | [_], _ :: _, q => simp [isE] at q
  | nil =>
    intro _
    refine ⟨fun x q g => by cases x <;> simp [isE] at q, fun xs q g => ?_⟩
    cases xs with
    | cons _ _ => simp [isEs] at q
    | nil =>
      refine paI pa_nil fun σV H Q h => ?_
      obtain ⟨w, σ, κ, hx, hw, hs, p⟩ := h
      unfold evs at p
      exact p.ok hw [] .nil
  | cons e es ih1 ih2 =>
    intro hs
    simp only [smallE, Bool.and_eq_true] at hs
    refine ⟨fun x q g => by cases x <;> simp [isE] at q, fun xs q g => ?_⟩
    cases xs with
    | nil => simp [isEs] at q
    | cons x xs =>
      simp only [isEs, Bool.and_eq_true] at q
      refine paI (pa_cons ((ih1 hs.1).1 x q.1 g) ((ih2 hs.2).2 xs q.2 g) (notStar q.1 Y.env xs)) fun σV H Q h => ?_
      obtain ⟨w, σ, κ, hx, hw, hs, p⟩ := h
      unfold evs at p
      refine tEh_bind hx hw hs p fun r w1 H1 v er e1 k hs1 hv hb hy p => ?_
      obtain ⟨d, ed, p⟩ := p.opt
      obtain ⟨w2, k2, e2, l2, rv⟩ := hv.give k ed e1 (hy (frz_tag ed))
      refine ⟨w2, σ, r.2, hx.le e2.le, k2, hs.ext e2, (p.step e2).bind.imp fun r2 w3 H3 er2 e3 k3 p3 vs hvs => ?_⟩
      split at p3
      · exact Post.ok (r := (d :: r2.1, r2.2)) p3 k3 _ (.cons (rv.mono e3.le) hvs)
      · exact p3.elim
  | _ => intro h; cases h
end
end R

/-! R27: try. -/
namespace R
open L2 PyProof.Rows PySem.Spec PySem
section
variable (S : Sg) (N : List Str) (sub : Nat → Nat → Bool) (sc : Scope)
def suiteB (hn : Option (Str × List Str)) : R.S → Stmt → Bool
  | .cons (.set j e) .nil, .Assign [.Name y _] x _ => stoB N sc sc j y && smallE e && isE S N hn e sc x
  | .cons (.ret e) .nil, .Return (some x) _ => smallE e && isE S N hn e sc x
  | .cons .pass .nil, .Pass _ => true
  | _, _ => false
def asB (c : Nat) (q : Str × List Str) (b : R.S) (st : Stmt) : Option Nat → Option Str → Bool
  | none, none => suiteB S N sc none b st
  | some i, some n => decide (N[i]? = some n) && parB.locB sc n && notDbg n && (S.exs.all fun k => !sub k c || (match S.cls[k]? with | some z => decide (z.2 = q.2) || z.2.isEmpty | none => true)) && suiteB S N sc (some (n, q.2)) b st
  | _, _ => false
def isHs : R.S → List ExceptHandler → Bool
  | .nil, [] => true
  | .han c o b rest, .ExceptHandler (some (.Name x _)) nm [st] _ :: hds => (match S.cls[c]? with
      | some q => decide (q.1 = x) && asB S N sub sc c q b st o nm
      | none => false) && decide (c ∈ S.exs) && glB sc x && notDbg x && isHs rest hds
  | _, _ => false
end
section
variable {T : Tb} {Γ : Cxt} {w₀ w w' : Wd} {H₀ H H' : Hp} {σ σ' : Sl} {κ κ' : Cells} {σV σV' : L2.St} {W : WX} {Dn : Ends}
variable {S : Sg} {N : List Str} {n : Nat} {sc : Scope} {X Y : Cx} {hn : Option (Str × List Str)} {i : Option Nat} {a dd C : Addr} {f : List Str}
def tSh (T : Tb) (Γ : Cxt) (i : Option Nat) (a dd : Addr) (f : List Str) (s : R.S) : TS := fun D σV H => ∃ w₀ H₀ w σ κ, HX T Γ i a dd f σV w ∧ At T w₀ H₀ w σ κ σV H ∧ SPost T w₀ H₀ w σ σV (exec Γ s σ κ) W0 D
theorem exec_one (s : R.S) (σ : Sl) (κ : Cells) : exec Γ (.cons s .nil) σ κ = exec Γ s σ κ := by
  conv => lhs; unfold exec
  cases exec Γ s σ κ <;> rfl
theorem notLc_small {e : E} {x : Expr} (q : isE S N hn e sc x = true) (h : smallE e = true) : ∀ tg l env, swapsWith x tg l env = pure false := fun tg l env => by
  cases x <;> first | rfl | (cases e <;> simp [isE, isLc, smallE] at q h; done)
theorem suite_ok {b : R.S} {st : Stmt} (g : XH T N sc X Y hn i a dd C f) (q : suiteB S N sc hn b st = true) : PSs Y [st] (tSh T Γ i a dd f b) := by
  unfold suiteB at q
  split at q
  · rename_i j e y p0 x pos
    simp only [Bool.and_eq_true] at q
    obtain ⟨⟨q1, q2⟩, q3⟩ := q
    obtain ⟨h1, h2, h3⟩ := sto_of q1 ⟨g.hN, g.nd, g.hsc, g.fn⟩
    refine pss_one (psI (ps_set (by rw [g.hN]; exact g.nd) h1 h2 ((small_ok (T := T) (Γ := Γ) e q2).1 x q3 g) (notLc_small q3 q2 _ _ _) h3) fun Dn σV H h => ?_)
    obtain ⟨w₀, H₀, w, σ, κ, hx, a, p⟩ := h
    rw [exec_one] at p
    unfold exec at p
    refine ⟨w, σ, κ, hx, a.wk, a.rs, SPost.exE (W := W0) a p fun r w1 H1 er e k p v hv hb hy => ?_⟩
    obtain ⟨ht, ul, p⟩ := store_ok' p
    have y0 : Young H₀ v r.1 := fun pl b eb => a.ext.dom b (hy ht pl b eb)
    exact p w1 _ H1 ((a.ev e k).setO hv ht y0 fun j o' _ => fresh_slots a.rs (hy ht) j o') (Le.rfl' w1) (Lk.set ul)
  · rename_i e x pos
    simp only [Bool.and_eq_true] at q
    refine pss_one (psI (ps_ret ((small_ok (T := T) (Γ := Γ) e q.1).1 x q.2 g)) fun Dn σV H h => ?_)
    obtain ⟨w₀, H₀, w, σ, κ, hx, a, p⟩ := h
    rw [exec_one] at p
    unfold exec at p
    refine ⟨w, σ, κ, hx, a.wk, a.rs, SPost.exE (W := W0) a p fun r w1 H1 er e k p v hv hb hy => ?_⟩
    obtain ⟨d, ed, p⟩ := p.exO
    obtain ⟨w2, k2, e2, l2, rv⟩ := hv.give k ed e (hy (frz_tag ed))
    exact p w2 H1 v (a.ext.trans e2) k2 rv
  · refine pss_one (psI ps_pass fun Dn σV H h => ?_)
    obtain ⟨w₀, H₀, w, σ, κ, hx, a, p⟩ := h
    rw [exec_one] at p
    exact p w σV H a (Le.rfl' w) Lk.rfl'
  · cases q
/-- what a clause does -/
def tCl (T : Tb) (Γ : Cxt) (c' : Nat) (o : Option Nat) (b : R.S) : Addr → Value → Option Addr → TS := fun a cls d D σV H => ∃ (c : Nat) (fs : List R.D) (C dd : Addr) (f : List Str), cls = .ref C ∧ d = some dd ∧ T.exc c = some (C, f) ∧ Γ.sub c c' = true ∧ tSh T { Γ with hx := fs } o a dd f b D σV H
theorem clause_ok {c' : Nat} {o : Option Nat} {nm : Option Str} {q : Str × List Str} {b : R.S} {st : Stmt} (g : XS T S Γ N n sc X) (h : asB S N Γ.sub sc c' q b st o nm = true) : AsOk X o nm ∧ ∀ (a : Addr) (oe : Obj) (cls : Value) (d : Option Addr) (pn : List (Addr × Obj)), Zc cls d oe → (∃ vs, oe.data = .fields vs) → PSs (X.suite a ((a, oe) :: pn)) [st] (tCl T Γ c' o b a cls d) := by
  cases o with
  | none =>
    cases nm with
    | some _ => cases h
    | none =>
      refine ⟨trivial, fun a oe cls d pn hz hf => ⟨fun pins s σ H D I hh => ?_⟩⟩
      obtain ⟨c, fs, C, dd, f, rfl, rfl, hc, hs, hh⟩ := hh
      exact (suite_ok (C := C) (X := X) (Y := X.suite a ((a, oe) :: pn)) (hn := none) ⟨g.hN, g.nd, g.hsc, g.fn, g.kind, g.hK, g.gd, g.toXG.hu, g.toXG.bi_of _, fun x fs e => by cases e⟩ h).run pins s σ H D I hh
  | some i =>
    cases nm with
    | none => cases h
    | some nn =>
      simp only [asB, Bool.and_eq_true, decide_eq_true_eq, List.all_eq_true, Bool.or_eq_true, Bool.not_eq_true'] at h
      obtain ⟨⟨⟨⟨h1, h2⟩, h3⟩, h4⟩, h5⟩ := h
      have hl := locB_of h2
      refine ⟨⟨by rw [g.hN]; exact h1, by unfold Env.kindOf; rw [g.hsc]; exact hl⟩, fun a oe cls d pn hz hf => ⟨fun pins s σ H D I hh => ?_⟩⟩
      obtain ⟨c, fs, C, dd, f, rfl, rfl, hc, hs, hh⟩ := hh
      obtain ⟨x, e1, e2, e3, e4, ok⟩ := g.exc c C f hc
      have hq : q.2 = f := by
        rcases h4 c e3 with z | z
        · rw [hs] at z; cases z
        · simp only [e2, Bool.or_eq_true, decide_eq_true_eq, List.isEmpty_iff] at z
          rcases z with z | z
          · exact z.symm
          · exact absurd z e1
      refine (suite_ok (C := C) (X := X) (Y := X.suite a ((a, oe) :: pn)) (hn := some (nn, q.2)) ⟨g.hN, g.nd, g.hsc, g.fn, g.kind, g.hK, g.gd, g.toXG.hu, g.toXG.bi_of _, fun x fs e => ?_⟩ h5).run pins s σ H D I hh
      simp only [Prod.mk.injEq, Option.some.injEq] at e
      obtain ⟨rfl, rfl⟩ := e
      exact ⟨h3, ⟨i, rfl, h1⟩, hl, hq, fun gg hg p pos te ht => pe_byX ok hg hz hf ht rfl⟩
theorem At.slotAs {i : Nat} {a : Addr} (h : At T w₀ H₀ w σ κ σV H) : At T w₀ H₀ w (σ.set i none) κ (σV.set i (some (.ref a))) H :=
  ⟨h.wk, h.rs.set fun u e => (by cases e), h.ext, fun j u x e1 e2 => by
    rcases get_set e1 with ⟨_, z, _⟩ | ⟨ne, e⟩
    · cases z
    · rcases get_set e2 with ⟨z, _, _⟩ | ⟨_, e2⟩
      · exact absurd z ne
      · exact h.yg j u x e e2⟩
theorem At.setNo {i : Nat} (h : At T w₀ H₀ w σ κ σV H) : At T w₀ H₀ w (σ.set i none) κ (σV.set i none) H :=
  ⟨h.wk, h.rs.setNo, h.ext, fun j u x e1 e2 => by
    rcases get_set e1 with ⟨_, z, _⟩ | ⟨ne, e⟩
    · cases z
    · rcases get_set e2 with ⟨z, _, _⟩ | ⟨_, e2⟩
      · exact absurd z ne
      · exact h.yg j u x e e2⟩
theorem unlocked_lt {i : Nat} (h : unlocked σ i = true) : i < σ.length := by
  by_cases hl : i < σ.length
  · exact hl
  · unfold unlocked at h
    rw [List.getElem?_eq_none (by omega)] at h
    cases h
theorem as_end {o : Option Nat} {a : Addr} {b : R.S} {G : Cxt} (at_ : At T w₀ H₀ w σ κ σV H) (p : SPost T w₀ H₀ w σ σV (R.exO (exec.gone o σ) fun σ => exec.endAs o (exec G b σ κ)) W Dn) :
    ∃ σ1, At T w₀ H₀ w σ1 κ (slotAs o a σV) H ∧ (∀ k, o = some k → (slotAs o a σV)[k]? = some (some (.ref a))) ∧ SPost T w₀ H₀ w σ1 (slotAs o a σV) (exec G b σ1 κ) W0 (endsAs o Dn) := by
  obtain ⟨σ1, e1, p⟩ := p.exO
  cases o with
  | none =>
    cases e1
    refine ⟨σ, at_, fun k e => (by cases e), ?_⟩
    cases ex : exec G b σ κ <;> rw [ex] at p <;> first | exact p | exact p.elim
  | some i =>
    obtain ⟨ul, rfl⟩ := setAt_ok (show setAt σ i none = some σ1 from e1)
    have hl : i < σV.length := by rw [at_.rs.len]; exact unlocked_lt ul
    refine ⟨_, at_.slotAs, fun k e => by cases e; exact List.getElem?_set_self hl, ?_⟩
    have lk0 : Lk σV σ (σV.set i (some (.ref a))) (σ.set i none) := Lk.set ul
    cases ex : exec G b (σ.set i none) κ with
    | nx σ5 κ5 =>
      rw [ex] at p
      obtain ⟨σ6, e6, p⟩ := (show SPost T w₀ H₀ w σ σV (R.exO (setAt σ5 i none) fun σ => .nx σ κ5) W Dn from p).exO
      obtain ⟨u6, rfl⟩ := setAt_ok e6
      exact fun w5 σV5 H5 a5 l5 lk5 => p w5 _ H5 a5.setNo l5 ((lk0.trans lk5).trans (Lk.set u6))
    | bk σ5 κ5 =>
      rw [ex] at p
      obtain ⟨σ6, e6, p⟩ := (show SPost T w₀ H₀ w σ σV (R.exO (setAt σ5 i none) fun σ => .bk σ κ5) W Dn from p).exO
      obtain ⟨u6, rfl⟩ := setAt_ok e6
      exact fun w5 σV5 H5 a5 l5 lk5 => p w5 _ H5 a5.setNo l5 ((lk0.trans lk5).trans (Lk.set u6))
    | ct σ5 κ5 =>
      rw [ex] at p
      obtain ⟨σ6, e6, p⟩ := (show SPost T w₀ H₀ w σ σV (R.exO (setAt σ5 i none) fun σ => .ct σ κ5) W Dn from p).exO
      obtain ⟨u6, rfl⟩ := setAt_ok e6
      exact fun w5 σV5 H5 a5 l5 lk5 => p w5 _ H5 a5.setNo l5 ((lk0.trans lk5).trans (Lk.set u6))
    | rt d5 κ5 => rw [ex] at p; exact p
    | xc _ _ _ _ => rw [ex] at p; exact p.elim
    | bad => rw [ex] at p; exact p.elim
theorem hds_ok (g : XS T S Γ N n sc X) : ∀ (hs : R.S) (hds : List ExceptHandler), isHs S N Γ.sub sc hs hds = true → ∃ l, HdM X hds l ∧ ∀ (w₀ : Wd) (H₀ : Hp) (W : WX) (Dn : Ends) (c : Nat) (fs : List R.D) (σ : Sl) (κ : Cells) (w : Wd) (σV : L2.St) (H : Hp) (cls : Value) (d : Option Addr),
    At T w₀ H₀ w σ κ σV H → RX T w cls d c fs → SPost T w₀ H₀ w σ σV (exec.execH Γ hs c fs σ κ) W Dn → wMix X.K W Dn l cls d σV H := by
  intro hs
  induction hs with
  | nil =>
    intro hds h
    cases hds with
    | cons _ _ => simp [isHs] at h
    | nil => exact ⟨[], .nil, fun w₀ H₀ W Dn c fs σ κ w σV H cls d a rx p => (show SPost T w₀ H₀ w σ σV (.xc c fs σ κ) W Dn from p) w σV H cls d a (Le.rfl' w) Lk.rfl' rx⟩
  | han c' o b rest _ ih =>
    intro hds h
    cases hds with
    | nil => simp [isHs] at h
    | cons hd hds =>
      unfold isHs at h
      split at h
      · rename_i h1 h2; cases h1
      · rename_i c2 o2 b2 rest2 x p nm st p' hds2 e1 e2
        cases e1
        cases e2
        simp only [decide_eq_true_eq, Bool.and_eq_true] at h
        obtain ⟨⟨⟨⟨h1, h2⟩, h3⟩, h4⟩, h5⟩ := h
        cases ec : S.cls[c']? with
        | none => rw [ec] at h1; cases h1
        | some q =>
          rw [ec] at h1
          simp only [decide_eq_true_eq, Bool.and_eq_true] at h1
          obtain ⟨C', x', nms', e3, e4, em⟩ := g.han c' h2
          rw [ec] at e3
          cases e3
          obtain ⟨rfl, h6⟩ := h1
          obtain ⟨l, hl, sem⟩ := ih hds h5
          obtain ⟨as_, cl⟩ := clause_ok (T := T) (Γ := Γ) g h6
          refine ⟨(.ref C', o, tCl T Γ c' o b) :: l, .cons ⟨gl_of h3 g.hsc, (dbg_of h4).1, .inl e4⟩ as_ cl hl, fun w₀ H₀ W Dn c fs σ κ w σV H cls d a rx p => ?_⟩
          obtain ⟨C, dd, nms, fl, vs, hc, rfl, rfl, hF, hlen, rvs⟩ := rx
          refine ⟨Γ.sub c c', em c C nms hc, fun hb ex hex => ?_, fun hb => ?_⟩
          · have p : SPost T w₀ H₀ w σ σV (R.exO (exec.gone o σ) fun σ => exec.endAs o (exec { Γ with hx := fs } b σ κ)) W Dn := by
              unfold exec.execH at p
              rw [if_pos hb] at p
              exact p
            obtain ⟨σ1, a1, hk, p1⟩ := as_end (a := ex) a p
            exact ⟨c, _, C, dd, nms, rfl, rfl, hc, hb, w₀, H₀, w, σ1, κ, ⟨hk, fl, vs, _, hF, hlen, rvs, rfl⟩, a1, p1⟩
          · unfold exec.execH at p
            rw [if_neg (by simp [hb])] at p
            exact sem w₀ H₀ W Dn c fs σ κ w σV H _ _ a ⟨C, dd, nms, fl, vs, hc, rfl, rfl, hF, hlen, rvs⟩ p
      · cases h
  | _ => intro hds h; simp [isHs] at h
/-- from where a try's body stands -/
theorem XS.tr (g : XS T S Γ N n sc X) (pn : List (Addr × Obj)) (xe : Value → Shared → Prop) (hp : PassesOwn (model X.prog X.w) X.A X.env xe) : XS T S Γ N n sc (X.tr pn xe) where
  hK := g.hK
  hN := g.hN
  nd := g.nd
  hsc := g.hsc
  calm := g.calm
  gd := g.gd
  room := g.room
  lv := g.lv
  bi := g.bi
  gcd := g.gcd
  gl := g.gl
  call := g.call
  ins := g.ins
  ins2 := g.ins2
  insAll := g.insAll
  mkC := g.mkC
  eqF := g.eqF
  fn := g.fn
  kind := g.kind
  own := hp
  stk := g.stk
  frm := g.frm
  exn := g.exn
  exc := fun c C nms h => by
    obtain ⟨x, h1, h2, h3, h4, ok⟩ := g.exc c C nms h
    exact ⟨x, h1, h2, h3, h4, ⟨ok.cls, ok.no, ok.ga, ok.gg, ok.hd, ok.mkX⟩⟩
  han := g.han
theorem s_try_ok {b hs : R.S} {body : List Stmt} {hd0 : ExceptHandler} {hds : List ExceptHandler} {pos : Pos} (g : XS T S Γ N n sc X) (h : isHs S N Γ.sub sc hs (hd0 :: hds) = true) (tk : Takes X W)
    (hb : ∀ (W' : WX) (Y : Cx), XS T S Γ N n sc Y → Takes Y W' → PSs Y body (tS T Γ b W')) : PS X (.Try body (hd0 :: hds) [] [] pos) (tS T Γ (.try_ b hs) W) := by
  obtain ⟨l, hl, sem⟩ := hds_ok (T := T) (Γ := Γ) g hs _ h
  refine psI (ps_try_mix (tb := fun W' => tS T Γ b W') (by rw [g.hN]; exact g.nd) g.stk g.frm tk (fun W' pn xe tk' hp => hb W' _ (g.tr pn xe hp) tk') hl) fun Dn σV H hh => ?_
  obtain ⟨w₀, H₀, w, σ, κ, a, p⟩ := hh
  refine ⟨w₀, H₀, w, σ, κ, a, ?_⟩
  unfold exec at p
  cases ex : exec Γ b σ κ with
  | xc c fs σ' κ' =>
    rw [ex] at p
    exact fun w' σV' H' cls d a' l' lk' rx => sem w₀ H₀ W Dn c fs σ' κ' w' σV' H' cls d a' rx (SPost.step (show SPost T w₀ H₀ w σ σV (exec.execH Γ hs c fs σ' κ') W Dn from p) l' lk')
  | nx _ _ => rw [ex] at p; exact p
  | bk _ _ => rw [ex] at p; exact p
  | ct _ _ => rw [ex] at p; exact p
  | rt _ _ => rw [ex] at p; exact p
  | bad => rw [ex] at p; exact p
end
end R

/-! RD2: several places at once; a statement while a cell is walked. -/
namespace R
open L2 PyProof.Rows PySem.Spec PySem
def notTup : Expr → Bool
  | .Tuple _ _ _ => false
  | _ => true
def isTupE : Expr → Bool
  | .Tuple _ _ _ => true
  | _ => false
def isSub : Expr → Bool
  | .Subscript _ _ _ => true
  | _ => false
def isBlk : Stmt → Bool
  | .For _ _ _ _ _ => true
  | .Assign _ _ _ => true
  | _ => false
def putsB (S : Sg) (N : List Str) (sc : Scope) : List (Nat × Option E) → List Expr → Bool
  | [], [] => true
  | (i, none) :: ts, .Name y _ :: xs => stoB N sc sc i y && putsB S N sc ts xs
  | (i, some k) :: ts, .Subscript (.Name y _) kx _ :: xs => decide (N[i]? = some y) && visB sc y && notDbg y && isE S N none k sc kx && putsB S N sc ts xs
  | _, _ => false
section
variable {T : Tb} {Γ : Cxt} {S : Sg} {N : List Str} {n : Nat} {sc : Scope} {X : Cx} {W : WX} {w₀ w w' : Wd} {H₀ H H' : Hp} {σ σ' : Sl} {κ κ' : Cells} {σV σV' : L2.St} {Dn : Ends}
theorem pg_put {i : Nat} {y : Str} {k : E} {kx : Expr} {p p2 : Pos} (g : XS T S Γ N n sc X) (h1 : N[i]? = some y) (h2 : visB sc y = true) (h3 : notDbg y = true) (qk : isE S N none k sc kx = true) (tk : Takes X W) :
    PG X (.Subscript (.Name y p) kx p2) (gSub (fun σ H Q => ∃ v, σ[i]? = some (some v) ∧ Q v H) (tE T Γ k W) rPut) := by
  have d := dbg_of h3
  have hu := g.toXG.hu
  exact pg_sub (pe_var (i := i) (by rw [g.hN]; exact h1) (by rw [g.hsc]; exact vis_of h2) d.1 d.2.1) ((all_ok k).pe sc kx X W qk g.toXG tk) (set_put (by omega)) (fun v => by cases kx <;> first | rfl | (cases k <;> simp [isE, isLc] at qk; done))
theorem s_put_ok {i : Nat} {y : Str} {k e : E} {kx x : Expr} {p p2 pos : Pos} (g : XS T S Γ N n sc X) (h1 : N[i]? = some y) (h2 : visB sc y = true) (h3 : notDbg y = true) (qk : isE S N none k sc kx = true) (q : isE S N none e sc x = true) (tk : Takes X W) :
    PS X (.Assign [.Subscript (.Name y p) kx p2] x pos) (tS T Γ (.put i k e) W) :=
  psI (ps_asg ((all_ok e).pe sc x X W q g.toXG tk) (pg_put g h1 h2 h3 qk tk) (by cases x <;> rfl) (by cases x <;> rfl) rfl) put_sem
def gAll (T : Tb) (Γ : Cxt) (W : WX) : List (Nat × Option E) → TGs
  | [] => gNil
  | (i, none) :: ts => gCons (gName i) (gAll T Γ W ts)
  | (i, some k) :: ts => gCons (gSub (fun σ H Q => ∃ v, σ[i]? = some (some v) ∧ Q v H) (tE T Γ k W) rPut) (gAll T Γ W ts)
theorem pgs_all (g : XS T S Γ N n sc X) (tk : Takes X W) : ∀ {ts : List (Nat × Option E)} {xs : List Expr}, putsB S N sc ts xs = true → PGs X xs (gAll T Γ W ts) ∧ (assignEach xs X.env).length = ts.length ∧ (assignEach xs X.env).findIdx? (·.1) = none
  | [], [], _ => ⟨pgs_nil, rfl, rfl⟩
  | [], _ :: _, h => by simp [putsB] at h
  | (_, none) :: _, [], h => by simp [putsB] at h
  | (_, some _) :: _, [], h => by simp [putsB] at h
  | (i, none) :: ts, x :: xs, h => by
    cases x <;> try (simp [putsB] at h; done)
    simp only [putsB, Bool.and_eq_true] at h
    obtain ⟨a, b, c⟩ := pgs_all g tk h.2
    refine ⟨pgs_cons (pg_nm h.1 g.sto) a, congrArg (· + 1) b, ?_⟩
    show List.findIdx? _ ((false, _) :: assignEach xs X.env) = none
    rw [List.findIdx?_cons]
    simp [c]
  | (i, some k) :: ts, x :: xs, h => by
    cases x <;> try (simp [putsB] at h; done)
    rename_i o kx p2
    cases o <;> try (simp [putsB] at h; done)
    simp only [putsB, Bool.and_eq_true, decide_eq_true_eq] at h
    obtain ⟨⟨⟨⟨h1, h2⟩, h3⟩, h4⟩, h5⟩ := h
    obtain ⟨a, b, c⟩ := pgs_all g tk h5
    refine ⟨pgs_cons (pg_put g h1 h2 h3 h4 tk) a, congrArg (· + 1) b, ?_⟩
    show List.findIdx? _ ((false, _) :: assignEach xs X.env) = none
    rw [List.findIdx?_cons]
    simp [c]
theorem all_sem : ∀ {ts : List (Nat × Option E)} {vs : List V} {ds : List D} {w : Wd} {σ : Sl} {κ : Cells} {σV : L2.St} {H : Hp}, At T w₀ H₀ w σ κ σV H → RVs T w vs ds → SPost T w₀ H₀ w σ σV (putAll Γ ts ds σ κ) W Dn → gAll T Γ W ts vs σV H Dn.nx
  | [], _, [], w, σ, κ, σV, H, a, r, p => by
    cases r
    exact ⟨rfl, p w σV H a (Le.rfl' w) Lk.rfl'⟩
  | [], _, _ :: _, _, _, _, _, _, _, _, p => by simp only [putAll] at p; exact p.elim
  | (_, none) :: _, _, [], _, _, _, _, _, _, _, p => by simp only [putAll] at p; exact p.elim
  | (_, some _) :: _, _, [], _, _, _, _, _, _, _, p => by simp only [putAll] at p; exact p.elim
  | (i, none) :: ts, _, d :: ds, w, σ, κ, σV, H, a, .cons (v := v) (vs := vs) ra r, p => by
    simp only [putAll] at p
    obtain ⟨σ1, e1, p⟩ := p.exO
    obtain ⟨ul, rfl⟩ := setAt_ok e1
    exact ⟨v, vs, rfl, all_sem (a.setFz ra) r (p.step (Le.rfl' w) (Lk.set ul))⟩
  | (i, some k) :: ts, _, d :: ds, w, σ, κ, σV, H, a, .cons (v := v) (vs := vs) ra r, p => by
    simp only [putAll] at p
    exact ⟨v, vs, rfl, put_step a ra p fun w3 σ3 κ3 H3 a3 l3 p3 => all_sem a3 (r.mono l3) p3⟩
theorem no_swap {xs : List Expr} {kt : Nat} {x : Expr} {pt : Pos} (h : xs.any isSub = true) (env : Env) : swappedStores [.Tuple xs kt pt] x env = pure none := by
  cases x <;> try rfl
  rename_i vs k2 p2
  have hl : ∀ (f : Expr → Option Str) (l : List Expr), (∀ e, isSub e = true → f e = none) → l.any isSub = true → ((l.filterMap f).length != l.length) = true := by
    intro f l hf
    have le : ∀ l : List Expr, (l.filterMap f).length ≤ l.length := fun l => List.length_filterMap_le f l
    induction l with
    | nil => intro h; cases h
    | cons a l ih =>
      intro h
      cases ea : isSub a with
      | true =>
        rw [List.filterMap_cons, hf a ea]
        have := le l
        simp only [List.length_cons, bne_iff_ne, ne_eq]
        omega
      | false =>
        simp only [List.any_cons, ea, Bool.false_or] at h
        have := ih h
        simp only [bne_iff_ne, ne_eq] at this
        rw [List.filterMap_cons]
        cases f a with
        | none =>
          have := le l
          simp only [List.length_cons, bne_iff_ne, ne_eq]
          omega
        | some b => simp only [List.length_cons, bne_iff_ne, ne_eq]; omega
  unfold swappedStores
  dsimp only
  split
  · rfl
  · split
    · rfl
    · rw [hl _ xs (fun e he => by cases e <;> first | (cases he; done) | rfl) h]
      rfl
theorem s_puts_ok {ts : List (Nat × Option E)} {e : E} {xs : List Expr} {x : Expr} {kt : Nat} {pt pos : Pos} (g : XS T S Γ N n sc X) (h : putsB S N sc ts xs = true) (h2 : xs.any isSub = true) (h3 : notLc x = true) (q : isE S N none e sc x = true) (tk : Takes X W) :
    PS X (.Assign [.Tuple xs kt pt] x pos) (tS T Γ (.puts ts e) W) := by
  obtain ⟨z1, z2, z3⟩ := pgs_all (T := T) (Γ := Γ) g tk h
  refine psI (ps_asg ((all_ok e).pe sc x X W q g.toXG tk) (pg_tup g.calm z1 z2 z3) (show swapsWithSole [.Tuple xs kt pt] x pos.line X.env = pure false from sw_no (tg := some (.Tuple xs kt pt)) (l := pos.line) (env := X.env) q h3) (no_swap h2 X.env) rfl) fun Dn σV H h => ?_
  obtain ⟨w₀, H₀, w, σ, κ, a, p⟩ := h
  unfold exec at p
  refine ⟨w, σ, κ, a.wk, a.rs, SPost.exE a p fun r w1 H1 er e1 k1 p u hu hb hy => ?_⟩
  obtain ⟨d, ed, p⟩ := p.exO
  obtain ⟨w2, k2, e2, l2, rv⟩ := hu.give k1 ed e1 (hy (frz_tag ed))
  have p := p.step l2 (Lk.rfl' (σV := σV) (σ := σ))
  have a2 := a.ev e2 k2
  cases d with
  | tup ds =>
    have hz : ds.length = ts.length ∧ SPost T w₀ H₀ w2 σ σV (putAll Γ ts ds σ r.2) W Dn := by
      have p : SPost T w₀ H₀ w2 σ σV (if ds.length = ts.length then putAll Γ ts ds σ r.2 else .bad) W Dn := p
      by_cases z : ds.length = ts.length
      · rw [if_pos z] at p; exact ⟨z, p⟩
      · rw [if_neg z] at p; exact p.elim
    obtain ⟨hl, p⟩ := hz
    cases rv with
    | tup qt r2 =>
      exact ⟨_, _, rfl, by rw [g.hK]; exact sqT_mono k2.le qt, by rw [r2.length]; exact hl, all_sem a2 r2 p⟩
  | _ => exact p.elim
theorem ps_or {st : Stmt} {t u : TS} (h : PS X st t) (k : PS X st u) : PS X st (fun D σ H => t D σ H ∨ u D σ H) := ⟨fun pins s σ H D I q => q.elim (h.run pins s σ H D I) (k.run pins s σ H D I)⟩
theorem SPost.noexc {α : Type} {m : Out α} {f : α → Res} (p : SPost T w₀ H₀ w σ σV (R.exE (R.noexc m) σ f) W Dn) : ∃ x, m = .ok x ∧ SPost T w₀ H₀ w σ σV (f x) W Dn := by
  cases m with
  | ok x => exact ⟨x, rfl, p⟩
  | exc c fs k => exact p.elim
  | bad => exact p.elim
theorem s_lock {st : Stmt} {s : R.S} {e : E} (h : PS X st (tS T Γ s W)) : PS X st (tS T Γ (.lock e s) W) := by
  refine psI (ps_or (ps_lock h) h) fun Dn σV H h => ?_
  obtain ⟨w₀, H₀, w, σ, κ, a, p⟩ := h
  unfold exec at p
  obtain ⟨x0, ex0, p⟩ := p.noexc
  have plain : SPost T w₀ H₀ w σ σV (exec Γ s σ κ) W Dn → tLock (tS T Γ s W) Dn σV H ∨ tS T Γ s W Dn σV H := fun p => .inr ⟨w₀, H₀, w, σ, κ, a, p⟩
  obtain ⟨o0, κ0⟩ := x0
  dsimp only at p
  split at p
  · rename_i m
    split at p
    · rename_i kvs ec
      obtain ⟨d, et⟩ : ∃ d, w.θ[m]? = some d := ⟨_, List.getElem?_eq_getElem (by rw [a.wk.len]; exact (List.getElem?_eq_some_iff.mp ec).1)⟩
      obtain ⟨us, ha, hF, pr, hl⟩ := a.wk.lock et ec default
      refine .inl ⟨d, .dK us, ha, True.intro, fun od => ?_⟩
      obtain ⟨kL, xL⟩ := hl od
      have hF0 : w₀.F d = none := by
        cases q : w₀.F d with
        | none => rfl
        | some o => rw [a.ext.F _ _ q] at hF; cases hF
      refine ⟨w₀, H₀, _, σ, _, a.ev xL kL, ?_⟩
      have fin : ∀ {w' : Wd} {σ5 : Sl} {κ5 : Cells} {σV' : L2.St} {H' : Hp}, At T w₀ H₀ w' σ5 κ5 σV' H' → Le (w.put d (.frz od (.dK us))) w' → H' d = some (.frz od (.dK us)) ∧ At T w₀ H₀ (w'.un d) σ5 (κ5.set m ⟨false, .dk kvs⟩) σV' (upd H' d (.dK us)) ∧ Le w (w'.un d) := fun {w' σ5 κ5 σV' H'} a' l => by
        have hf : w'.F d = some (.frz od (.dK us)) := l.F _ _ (by show upd _ _ _ _ = _; exact upd_same)
        have et' : w'.θ[m]? = some d := l.at et
        have mem := List.mem_of_getElem? et'
        refine ⟨a'.wk.le _ _ hf, ⟨a'.wk.unlock et' hf (pr.mono ((le_put _ hF).trans l)), a'.rs.un hf mem _, a'.ext.unlock mem hF0 _, a'.yg⟩, ⟨fun b o e => ?_, l.θ⟩⟩
        have ne : b ≠ d := fun z => by rw [z, hF] at e; cases e
        show hide d w'.F b = some o
        rw [hide_ne ne]
        exact l.F b o (by show upd _ _ _ _ = _; rw [upd_ne ne]; exact e)
      cases ex : exec Γ s σ (κ.set m ⟨true, .dk kvs⟩) with
      | nx σ5 κ5 =>
        rw [ex] at p
        exact fun w' σV' H' a' l lk => let ⟨z1, z2, z3⟩ := fin a' l; ⟨z1, (show SPost T w₀ H₀ w σ σV (.nx σ5 (κ5.set m ⟨false, .dk kvs⟩)) W Dn from p) _ _ _ z2 z3 lk⟩
      | bk σ5 κ5 =>
        rw [ex] at p
        exact fun w' σV' H' a' l lk => let ⟨z1, z2, z3⟩ := fin a' l; ⟨z1, (show SPost T w₀ H₀ w σ σV (.bk σ5 (κ5.set m ⟨false, .dk kvs⟩)) W Dn from p) _ _ _ z2 z3 lk⟩
      | ct σ5 κ5 =>
        rw [ex] at p
        exact fun w' σV' H' a' l lk => let ⟨z1, z2, z3⟩ := fin a' l; ⟨z1, (show SPost T w₀ H₀ w σ σV (.ct σ5 (κ5.set m ⟨false, .dk kvs⟩)) W Dn from p) _ _ _ z2 z3 lk⟩
      | rt d5 κ5 => rw [ex] at p; exact p.elim
      | xc c fs σ5 κ5 => rw [ex] at p; exact p.elim
      | bad => rw [ex] at p; exact p.elim
    · exact plain p
  · exact plain p
end
end R

/-! R28: every statement. -/
namespace R
open L2 PyProof.Rows PySem.Spec PySem
section
variable (S : Sg) (N : List Str) (sub : Nat → Nat → Bool) (sc : Scope)
mutual
def isS : R.S → Stmt → Bool
  | .set i e, .Assign [.Name y _] x _ => stoB N sc sc i y && notLck e && isE S N none e sc x
  | .sets tg e, .Assign [t] x _ => tgB N sc sc tg t && isTupE t && notTup x && notLc x && isE S N none e sc x
  | .par is es, .Assign [.Tuple ts _ _] (.Tuple vs _ _) _ => parB N sc is ts vs && isEs S N none es sc vs
  | .aug i op e, .AugAssign (.Name y _) o x _ => (decide (op = .add) || decide (op = .sub)) && decide (o = op.op) && stoB N sc sc i y && isE S N none e sc x
  | .app i e, .Expr (.Call (.Attribute (.Name y _) m ap) [x] [] cp) _ => decide (m = "append") && decide (N[i]? = some y) && visB sc y && notDbg y && (ap.endLine == cp.line) && isE S N none e sc x
  | .put i k e, .Assign [.Subscript (.Name y _) kx _] x _ => decide (N[i]? = some y) && visB sc y && notDbg y && isE S N none k sc kx && isE S N none e sc x
  | .puts ts e, .Assign [.Tuple xs _ _] x _ => putsB S N sc ts xs && xs.any isSub && notLc x && isE S N none e sc x
  | .lock _ s, st => isBlk st && isS s st
  | .drop e, .Expr x _ => isE S N none e sc x && notLc x
  | .ret e, .Return (some x) _ => isE S N none e sc x
  | .retN, .Return none _ => true
  | .ite c a b, .If x p q _ => isE S N none c sc x && isSs a p && isSs b q
  | .for_ tg it b, .For t x body [] _ => tgB N sc sc tg t && isIt S N none it sc x && itTg it t && notSet x && isSs b body
  | .whl c b, .While x body [] _ => isE S N none c sc x && isSs b body
  | .raise c es, .Raise (some (.Call (.Name x _) xs [] _)) none _ => (match S.cls[c]? with
      | some q => decide (q.1 = x) && !q.2.isEmpty && decide (xs.length = q.2.length)
      | none => false) && decide (c ∈ S.exs) && glB sc x && notDbg x && isEs S N none es sc xs && decide (xs.length ≤ 9)
  | .try_ b hs, .Try body (h0 :: hds) [] [] _ => isSs b body && isHs S N sub sc hs (h0 :: hds)
  | .brk, .Break _ => true
  | .cnt, .Continue _ => true
  | .pass, .Pass _ => true
  | .stuck, _ => true
  | _, _ => false
def isSs : R.S → List Stmt → Bool
  | .nil, [] => true
  | .cons .stuck _, _ => true
  | .cons (.frz _) t, sts => isSs t sts
  | .cons s t, st :: sts => isS s st && isSs t sts
  | _, _ => false
end
end
section
variable {T : Tb} {Γ : Cxt} {S : Sg} {N : List Str} {n : Nat} {sc : Scope} {X : Cx} {W : WX}
theorem s_app_ok {i : Nat} {y : Str} {e : E} {x : Expr} {p ap cp pos : Pos} (g : XS T S Γ N n sc X) (h1 : N[i]? = some y) (h2 : visB sc y = true) (h3 : notDbg y = true) (h4 : (ap.endLine == cp.line) = true) (q : isE S N none e sc x = true) (tk : Takes X W) :
    PS X (.Expr (.Call (.Attribute (.Name y p) "append" ap) [x] [] cp) pos) (tS T Γ (.app i e) W) := by
  have st := notStar q X.env []
  have d := dbg_of h3
  exact psI (ps_expr (pe_bm PySem.F.plainAttrs_list PySem.F.slot_list_append PySem.F.type_list_append mt_append (pe_var (i := i) (by rw [g.hN]; exact h1) (by rw [g.hsc]; exact vis_of h2) d.1 d.2.1) (pa_cons ((all_ok e).pe sc x X W q g.toXG tk) pa_nil st) rfl (by rw [st]; rfl) h4 st rfl) rfl) (app_sem g.hK)
theorem stmts_ok : ∀ s : R.S, (∀ (X : Cx) (W : WX) (st : Stmt), XS T S Γ N n sc X → Takes X W → isS S N Γ.sub sc s st = true → PS X st (tS T Γ s W)) ∧ (∀ (X : Cx) (W : WX) (sts : List Stmt), XS T S Γ N n sc X → Takes X W → isSs S N Γ.sub sc s sts = true → PSs X sts (tS T Γ s W)) := by
  intro s
  induction s with
  | nil =>
    refine ⟨fun X W st g tk q => by simp [isS] at q, fun X W sts g tk q => ?_⟩
    cases sts with
    | nil => exact ss_nil
    | cons _ _ => simp [isSs] at q
  | cons s t ih1 ih2 =>
    refine ⟨fun X W st g tk q => by simp [isS] at q, fun X W sts g tk q => ?_⟩
    have stk : ∀ {sts : List Stmt}, PSs X sts (tS T Γ (.cons .stuck t) W) := fun {sts} => pssI pss_never fun D σV H h => by
      obtain ⟨w₀, H₀, w, σ, κ, a, p⟩ := h
      exact p
    have two : ∀ st sts', sts = st :: sts' → isS S N Γ.sub sc s st = true → isSs S N Γ.sub sc t sts' = true → PSs X sts (tS T Γ (.cons s t) W) := fun st sts' e q1 q2 => by
      subst e
      exact ss_cons (ih1.1 X W st g tk q1) (ih2.2 X W sts' g tk q2)
    cases s with
    | stuck => exact stk
    | frz i =>
      have q : isSs S N Γ.sub sc t sts = true := by cases sts <;> simpa [isSs] using q
      exact pssI (ih2.2 X W sts g tk q) frz_sem
    | _ =>
      cases sts with
      | nil => simp [isSs] at q
      | cons st sts' =>
        simp only [isSs, Bool.and_eq_true] at q
        exact two st sts' rfl q.1 q.2
  | set i e =>
    refine ⟨fun X W st g tk q => ?_, fun X W sts g tk q => by simp [isSs] at q⟩
    cases st <;> try (simp [isS] at q; done)
    rename_i ts x pos
    match ts, q with
    | [.Name y p], q =>
      simp only [isS, Bool.and_eq_true] at q
      exact s_set_ok g q.1.1 q.1.2 q.2 tk
    | [], q => simp [isS] at q
    | t :: _ :: _, q => cases t <;> simp [isS] at q
    | [t], q => cases t <;> first | (simp [isS] at q; done) | (simp only [isS, Bool.and_eq_true] at q; exact s_set_ok g q.1.1 q.1.2 q.2 tk)
  | sets tg e =>
    refine ⟨fun X W st g tk q => ?_, fun X W sts g tk q => by simp [isSs] at q⟩
    cases st <;> try (simp [isS] at q; done)
    rename_i ts x pos
    match ts, q with
    | [t], q =>
      simp only [isS, Bool.and_eq_true] at q
      obtain ⟨⟨⟨⟨q1, q2⟩, q3⟩, q4⟩, q5⟩ := q
      exact s_sets g q1 ((all_ok e).pe sc x X W q5 g.toXG tk) (sw_no q5 q4) (by cases t <;> first | (cases q2; done) | (cases x <;> first | rfl | cases q3))
    | [], q => simp [isS] at q
    | _ :: _ :: _, q => simp [isS] at q
  | par is es =>
    refine ⟨fun X W st g tk q => ?_, fun X W sts g tk q => by simp [isSs] at q⟩
    cases st <;> try (simp [isS] at q; done)
    rename_i ts x pos
    cases ts with
    | nil => simp [isS] at q
    | cons t r =>
      cases r with
      | cons _ _ => cases t <;> cases x <;> simp [isS] at q
      | nil =>
        cases t <;> try (simp [isS] at q; done)
        cases x <;> try (simp [isS] at q; done)
        simp only [isS, Bool.and_eq_true] at q
        exact s_par_ok g q.1 q.2 tk
  | aug i op e =>
    refine ⟨fun X W st g tk q => ?_, fun X W sts g tk q => by simp [isSs] at q⟩
    cases st <;> try (simp [isS] at q; done)
    rename_i t o x pos
    cases t <;> try (simp [isS] at q; done)
    simp only [isS, Bool.and_eq_true, Bool.or_eq_true, decide_eq_true_eq] at q
    obtain ⟨⟨⟨q1, rfl⟩, q3⟩, q4⟩ := q
    exact s_aug_ok g q1 q3 q4 tk
  | app i e =>
    refine ⟨fun X W st g tk q => ?_, fun X W sts g tk q => by simp [isSs] at q⟩
    cases st <;> try (simp [isS] at q; done)
    rename_i c pos
    cases c <;> try (simp [isS] at q; done)
    rename_i f xs kws cp
    cases f <;> try (simp [isS] at q; done)
    rename_i o m ap
    cases o <;> try (simp [isS] at q; done)
    match xs, kws, q with
    | [x], [], q =>
      simp only [isS, Bool.and_eq_true, decide_eq_true_eq] at q
      obtain ⟨⟨⟨⟨⟨rfl, q2⟩, q3⟩, q4⟩, q5⟩, q6⟩ := q
      exact s_app_ok g q2 q3 q4 q5 q6 tk
    | [], _, q => simp [isS] at q
    | _ :: _ :: _, _, q => simp [isS] at q
    | [_], _ :: _, q => simp [isS] at q
  | put i k e =>
    refine ⟨fun X W st g tk q => ?_, fun X W sts g tk q => by simp [isSs] at q⟩
    cases st <;> try (simp [isS] at q; done)
    rename_i ts x pos
    cases ts with
    | nil => simp [isS] at q
    | cons t r =>
      cases t <;> try (simp [isS] at q; done)
      rename_i o kx p2
      cases o <;> try (simp [isS] at q; done)
      cases r with
      | cons _ _ => simp [isS] at q
      | nil =>
        simp only [isS, Bool.and_eq_true, decide_eq_true_eq] at q
        obtain ⟨⟨⟨⟨q1, q2⟩, q3⟩, q4⟩, q5⟩ := q
        exact s_put_ok g q1 q2 q3 q4 q5 tk
  | puts ts e =>
    refine ⟨fun X W st g tk q => ?_, fun X W sts g tk q => by simp [isSs] at q⟩
    cases st <;> try (simp [isS] at q; done)
    rename_i xs x pos
    cases xs with
    | nil => simp [isS] at q
    | cons t r =>
      cases t <;> try (simp [isS] at q; done)
      cases r with
      | cons _ _ => simp [isS] at q
      | nil =>
        simp only [isS, Bool.and_eq_true] at q
        exact s_puts_ok g q.1.1.1 q.1.1.2 q.1.2 q.2 tk
  | lock e s ih =>
    refine ⟨fun X W st g tk q => ?_, fun X W sts g tk q => by simp [isSs] at q⟩
    have q2 : isS S N Γ.sub sc s st = true := by
      cases st <;> simp only [isS, isBlk, Bool.false_and, Bool.false_eq_true, Bool.true_and] at q <;> exact q
    exact s_lock (ih.1 X W st g tk q2)
  | drop e =>
    refine ⟨fun X W st g tk q => ?_, fun X W sts g tk q => by simp [isSs] at q⟩
    cases st <;> try (simp [isS] at q; done)
    rename_i x pos
    simp only [isS, Bool.and_eq_true] at q
    exact s_drop ((all_ok e).pe sc x X W q.1 g.toXG tk) (sw_no q.1 q.2)
  | ret e =>
    refine ⟨fun X W st g tk q => ?_, fun X W sts g tk q => by simp [isSs] at q⟩
    cases st <;> try (simp [isS] at q; done)
    rename_i x pos
    cases x with
    | none => simp [isS] at q
    | some x => simp only [isS] at q; exact s_ret ((all_ok e).pe sc x X W q g.toXG tk)
  | retN =>
    refine ⟨fun X W st g tk q => ?_, fun X W sts g tk q => by simp [isSs] at q⟩
    cases st <;> try (simp [isS] at q; done)
    rename_i x pos
    cases x with
    | some x => simp [isS] at q
    | none => exact s_retN
  | ite c a b iha ihb =>
    refine ⟨fun X W st g tk q => ?_, fun X W sts g tk q => by simp [isSs] at q⟩
    cases st <;> try (simp [isS] at q; done)
    rename_i x p r pos
    simp only [isS, Bool.and_eq_true] at q
    exact s_ite ((all_ok c).pt sc x X W q.1.1 g.toXG tk) (iha.2 X W p g tk q.1.2) (ihb.2 X W r g tk q.2)
  | for_ tg it b ih =>
    refine ⟨fun X W st g tk q => ?_, fun X W sts g tk q => by simp [isSs] at q⟩
    cases st <;> try (simp [isS] at q; done)
    rename_i t x body orelse pos
    cases orelse with
    | cons _ _ => simp [isS] at q
    | nil =>
      simp only [isS, Bool.and_eq_true] at q
      obtain ⟨⟨⟨⟨q1, q2⟩, q3⟩, q4⟩, q5⟩ := q
      exact s_for g q1 ((all_ok it).pi sc t x X W q2 q3 g.toXG tk) (ih.2 X W body g tk q5) (folded_of q2 q4 X.env)
  | whl c b ih =>
    refine ⟨fun X W st g tk q => ?_, fun X W sts g tk q => by simp [isSs] at q⟩
    cases st <;> try (simp [isS] at q; done)
    rename_i x body orelse pos
    cases orelse with
    | cons _ _ => simp [isS] at q
    | nil =>
      simp only [isS, Bool.and_eq_true] at q
      exact s_whl g ((all_ok c).pt sc x X W q.1 g.toXG tk) (ih.2 X W body g tk q.2)
  | raise c es =>
    refine ⟨fun X W st g tk q => ?_, fun X W sts g tk q => by simp [isSs] at q⟩
    cases st <;> try (simp [isS] at q; done)
    rename_i x cause pos
    cases x with
    | none => simp [isS] at q
    | some x =>
      cases x <;> try (simp [isS] at q; done)
      rename_i f xs kws p2
      cases f <;> try (simp [isS] at q; done)
      cases kws with
      | cons _ _ => simp [isS] at q
      | nil =>
        cases cause with
        | some _ => simp [isS] at q
        | none =>
          simp only [isS, Bool.and_eq_true, decide_eq_true_eq] at q
          obtain ⟨⟨⟨⟨⟨q1, q2⟩, q3⟩, q4⟩, q5⟩, q6⟩ := q
          cases ec : S.cls[c]? with
          | none => rw [ec] at q1; cases q1
          | some z =>
            rw [ec] at q1
            obtain ⟨zn, znm⟩ := z
            simp only [Bool.and_eq_true, decide_eq_true_eq, Bool.not_eq_true'] at q1
            obtain ⟨⟨rfl, q7⟩, q8⟩ := q1
            exact s_raise_ok g q2 ec (fun z => by rw [z] at q7; cases q7) q3 q4 q5 q8 q6 tk
  | try_ b hs ihb _ =>
    refine ⟨fun X W st g tk q => ?_, fun X W sts g tk q => by simp [isSs] at q⟩
    cases st <;> try (simp [isS] at q; done)
    rename_i body hds orelse fin pos
    cases hds with
    | nil => simp [isS] at q
    | cons h0 hds =>
      cases orelse with
      | cons _ _ => simp [isS] at q
      | nil =>
        cases fin with
        | cons _ _ => simp [isS] at q
        | nil =>
          simp only [isS, Bool.and_eq_true] at q
          exact s_try_ok g q.2 tk fun W' Y gY tk' => ihb.2 Y W' body gY tk' q.1
  | brk =>
    refine ⟨fun X W st g tk q => ?_, fun X W sts g tk q => by simp [isSs] at q⟩
    cases st <;> first | exact s_brk | (simp [isS] at q; done)
  | cnt =>
    refine ⟨fun X W st g tk q => ?_, fun X W sts g tk q => by simp [isSs] at q⟩
    cases st <;> first | exact s_cnt | (simp [isS] at q; done)
  | pass =>
    refine ⟨fun X W st g tk q => ?_, fun X W sts g tk q => by simp [isSs] at q⟩
    cases st <;> first | exact s_pass | (simp [isS] at q; done)
  | stuck => exact ⟨fun X W st g tk q => s_stuck, fun X W sts g tk q => by simp [isSs] at q⟩
  | _ => exact ⟨fun X W st g tk q => by cases st <;> simp [isS] at q, fun X W sts g tk q => by simp [isSs] at q⟩
end
end R

/-! R29: defs. -/
namespace R
open L2 PyProof.Rows PySem.Spec PySem
/-- a def of the text, by its body, for callers under whom no repr runs -/
theorem fnG_of {P : Program} {w : World} {K : PySem.W.Frag} {mg : Str → Option Value} {base : Heap} {k : Nat} {f : Addr} {nm qual : Str} {params : Arguments} {body : List Stmt} {scope : Scope} {dV kV doc pm cdv ct oc : Value} {an od : Option Addr}
    {osl : Array (Option Value)} {N ps : List Str} {sp : Sp} (lk : K.lookup f = some ⟨oc, od, .func (PySem.W.fnOf nm qual params body scope dV kV doc pm an cdv ct), osl⟩) (hcd : PySem.W.codeIn K cdv qual = true) (F : FnScope N ps scope)
    (len : ∀ vs H Q E, sp vs H Q E → (vs.length = ps.length))
    (hbody : ∀ (A : Around) (outer : List Env) (s : Shared) (H : Hp) (vs : List V) (Q : VK) (E : XK), A.guards = some [] → Room k (A.deeper (envOfC qual scope s.heap.objs.size f cdv)) → sp vs H Q E →
      ∃ t, PSs (cxOf (L2.CX P w) P w K mg base N qual scope f cdv A outer s H E) body t ∧ t { nx := fun _ H' => Q .non H', rt := Q } (start N vs) H) :
    FnG P w K mg base (k + 1) f (PySem.W.fnOf nm qual params body scope dV kV doc pm an cdv ct) ps sp := by
  refine ⟨len, fun A outer s H args us vs Q E room gd e0 hb rel hsp => ?_⟩
  have hlen := len _ _ _ _ hsp
  have kin : K.In s.heap := e0.mod.kin.keeps fun b o q => (e0.bs b o q).1
  have nolim : s.heap.NoLimit := e0.mod.nolimit.keeps fun b o q => (e0.bs b o q).1
  have kinds : ∀ y ∈ ps.zip us, scope.names.lookup y.1 = some .local ∨ (scope.names.lookup y.1 = some .cell ∧ ((cellsFrom (s.heap.objs.size + 1) scope.names []).lookup y.1).isSome = true) := fun ⟨z, v⟩ hy => by
    rcases F.par z (List.of_mem_zip hy).1 with q | q
    · exact .inl q
    · exact (.inr ⟨q, PySem.W.cellsFrom_some _ _ _ (.inl q)⟩)
  refine codeAny_call_function room.depth (kin _ _ lk) rfl F.co F.gen rfl (PySem.W.codeRec_of kin hcd) (hb _ _ _ _ (wpAny_newFunctionEnv_cells F.kind kinds fun env he s1 x => ?_))
  subst he
  refine ⟨nolim.keeps x.toInCall.keep, codeAny_func ?_⟩
  obtain ⟨t, ht, hq⟩ := hbody A outer s H vs Q E gd (room.deeper _) hsp
  have I : Inv (cxOf (L2.CX P w) P w K mg base N qual scope f cdv A outer s H E) [] (start N vs) H s1 := inv_start F room.hd e0 hlen rel x
  refine (wpAny_mono (ht.run [] s1 (start N vs) H _ I hq) (fun fl s' hs => ?_) fun e s' hs => hs)
  cases fl with
  | ret u =>
    obtain ⟨v, σ', H', J, rv, q⟩ := (hs)
    exact ⟨v, H', J.os, J.bare, J.base, J.hok, rv, q⟩
  | next =>
    obtain ⟨σ', H', J, q⟩ := hs
    exact ⟨.non, H', J.os, J.bare, J.base, J.hok, rfl, q⟩
  | brk => obtain ⟨_, _, _, q⟩ := hs; exact q.elim
  | cont => obtain ⟨_, _, _, q⟩ := hs; exact q.elim
/-! ### the start of a def -/
section
variable {T : Tb} {w : Wd} {H : Hp} {κ : Cells}
theorem start_get {N : List Str} {vs : List V} {i : Nat} {v : V} (h : (start N vs)[i]? = some (some v)) : vs[i]? = some v := by
  unfold L2.start at h
  by_cases hi : i < vs.length
  · rw [List.getElem?_append_left (by simpa using hi), List.getElem?_map] at h
    cases e : vs[i]? with
    | none => (rw [e] at h; cases h)
    | some a => rw [e] at h; cases h; rfl
  · rw [List.getElem?_append_right (by simpa using hi), List.getElem?_replicate] at h
    split at h <;> cases h
theorem startS_get {fn : Fn} {ds : List D} {i : Nat} {o : O} (h : (startS fn ds)[i]? = some (some o)) : ∃ d, ds[i]? = some d ∧ o = .fz d := by
  unfold startS at h
  by_cases hi : i < ds.length
  · rw [List.getElem?_append_left (by simpa using hi), List.getElem?_map] at h
    cases e : ds[i]? with
    | none => (rw [e] at h; cases h)
    | some a => rw [e] at h; cases h; exact ⟨a, rfl, rfl⟩
  · rw [List.getElem?_append_right (by simpa using hi), List.getElem?_replicate] at h
    split at h <;> cases h
theorem at_start {N : List Str} {fn : Fn} {vs : List V} {ds : List D} (hw : Wok T w H κ) (hv : RVs T w vs ds) (hn : N.length = fn.n) : At T w H w (startS fn ds) κ (start N vs) H := by
  refine ⟨hw, ⟨?_, fun i o h => ?_, fun i j o o' v ne h1 h2 _ _ => ?_, fun i j o h t => ?_⟩, Ext.rfl' w H, fun i o v h _ pl => ?_⟩
  · unfold L2.start startS
    simp [hv.length, hn]
  · obtain ⟨d, e, rfl⟩ := startS_get h
    obtain ⟨v, ev', rv⟩ := hv.get e
    refine ⟨v, ?_, rv⟩
    unfold L2.start
    have hi : i < vs.length := (List.getElem?_eq_some_iff.mp ev').1
    rw [List.getElem?_append_left (by simpa using hi), List.getElem?_map, ev']
    rfl
  · obtain ⟨d, e, rfl⟩ := startS_get h1
    exact .inl rfl
  · obtain ⟨d, e, rfl⟩ := startS_get h
    cases t
  · obtain ⟨d, e, rfl⟩ := startS_get h
    cases pl
/-- a body's end is the def's -/
theorem body_sem {Γ : Cxt} {N : List Str} {fn : Fn} {vs : List V} {ds : List D} {E : XK} {Q : VK} (hw : Wok T w H κ) (hv : RVs T w vs ds) (hn : N.length = fn.n)
    (p : Post T w H (exec Γ fn.body (startS fn ds) κ).out E (fun r w' H' => ∀ v, RV T w' v r.1 → Q v H')) : tS T Γ fn.body (fun cls d _ H' => E cls d H') { nx := fun _ H' => Q .non H', rt := Q } (start N vs) H := by
  refine ⟨w, H, w, startS fn ds, κ, at_start hw hv hn, ?_⟩
  cases ex : exec Γ fn.body (startS fn ds) κ with
  | nx σ' κ' => rw [ex] at p; exact fun w' σV' H' a l k => (show Post T w H (.ok (D.non, κ')) E _ from p) w' H' a.ext a.wk .non .non
  | rt d κ' => rw [ex] at p; exact fun w' H' v x k rv => (show Post T w H (.ok (d, κ')) E _ from p) w' H' x k v rv
  | xc c fs σ' κ' => rw [ex] at p; exact fun w' σV' H' cls d a l k rx => (show Post T w H (.exc c fs κ') E _ from p) w' H' cls d a.ext a.wk rx
  | bk _ _ => rw [ex] at p; exact p.elim
  | ct _ _ => rw [ex] at p; exact p.elim
  | bad => rw [ex] at p; exact p.elim
end
end R

/-! R30: the law's own call. -/
namespace R
open L2 PyProof.Rows PySem.Spec PySem
/-- the law's call, from the promise of its def for callers under whom no repr runs -/
theorem law_callG {P : Program} {w : World} {K : PySem.W.Frag} {mg mb : Str → Option Value} {k : Nat} {fa a : Addr} {fd : FuncData} {x : Str} {sp : Sp} {t : Shared} {vs : List Value} {ns : List Int}
    (kin : K.In t.heap) (hns : t.heap.Ns mainGlobals mg) (hb : t.heap.Ns builtinsNs mb) (hbb : ∀ x : Str, x ≠ "__name__" → mb x = bootBuiltins x) (lim : t.heap.NoLimit) (hg : t.gens = #[])
    (ha : t.heap.get? a = some { cls := .type "list", data := .seq vs.toArray }) (hi : IntsAre vs ns) (hl : ns.length ≤ sizeLine) (hr : Room k callerA)
    (F : ∀ base : Heap, K.In base → base.Ns mainGlobals mg → FnG P w K mg base k fa fd [x] sp) (bind : ∀ (s : Shared) (u : Value), BindsTo s fd ⟨[u], []⟩ [(x, u)])
    (hsp : ∀ H : Hp, Only H → SqL K H a (ns.map V.int) → sp [.ref a] H (fun v _ => v = .bl true) fun _ _ _ => False) :
    codeAny (model P w) callerA (.call (.ref fa) ⟨[.ref a], []⟩) (fun r s' => r = .ok (.ret (.bool true)) ∧ OldK t.heap s'.heap ∧ s'.os = t.os ∧ AllBare s'.gens) t := by
  have rvs := vals_ints hi
  have len := hi.length
  have core : ∀ G : Hp, Only G → SqL K G a (ns.map V.int) → HOk P w G t.heap → (∀ b, G b ≠ none → b = a) → (G a ≠ none → K.lookup a = none) →
      codeAny (model P w) callerA (.call (.ref fa) ⟨[.ref a], []⟩) (fun r s' => r = .ok (.ret (.bool true)) ∧ OldK t.heap s'.heap ∧ s'.os = t.os ∧ AllBare s'.gens) t := by
    intro G hO hS hok hA hK
    have at_ : ∀ {b : Addr} {o : Obj}, t.heap.get? b = some o → G b = none → (hidT t.heap G).get? b = some o := fun e n => hidT_get e n
    have only : ∀ {b : Addr}, (b = a → False) → G b = none := fun {b} h => by
      cases q : G b with
      | none => rfl
      | some u => exact (h (hA b (by rw [q]; simp))).elim
    have nsk : ∀ {b : Addr} {m : Str → Option Value}, t.heap.Ns b m → (hidT t.heap G).Ns b m := fun {b m} ⟨o, es, ep, e, d, r⟩ => ⟨o, es, ep, at_ e (only fun z => by
      subst z
      rw [ha] at e
      cases e
      have d2 : Data.seq vs.toArray _ = Data.dict es ep := d
      cases d2), d, r⟩
    have kb : K.In (hidT t.heap G) := fun b o e => at_ (kin b o e) (by
      cases q : G b with
      | none => rfl
      | some u =>
        have z := hA b (by rw [q]; simp)
        subst z
        rw [(hK (by rw [q]; simp))] at e
        cases e)
    have md : Mod K mg (hidT t.heap G) := ⟨kb, nsk hns, ⟨mb, nsk hb, hbb⟩, let ⟨mc, h1, h2⟩ := lim; ⟨mc, nsk h1, h2⟩⟩
    have e0 : Env0 P w K mg (hidT t.heap G) callerA [] t G := ⟨rfl, md, fun b o e => of_hidT e, Nat.le_of_eq (hidT_size _ _), trivial, fun b hb => absurd (show b ∈ ([] : List Addr) from hb) (by simp), hok, .of_eq hg⟩
    refine codeAny_mono ((F _ kb (nsk hns)).run callerA [] t G ⟨[.ref a], []⟩ [.ref a] [.ref a] _ _ hr rfl e0 (bind t (.ref a)) (.cons rfl .nil) (hsp G hO hS)) fun r s' h => ?_
    cases r with
    | error e =>
      obtain ⟨_, _, _, _, _, _, _, _, _, _, _, _, hE⟩ := (show L2.CX P w [] G t (fun _ _ _ => False) e s' from h)
      exact hE.elim
    | ok fl =>
      cases fl with
      | next => exact False.elim h
      | brk => exact False.elim h
      | cont => exact False.elim h
      | ret u =>
        obtain ⟨v, G', os, bare, un, hok2, rv, q⟩ := h
        have q : v = .bl true := q
        subst q
        obtain rfl : u = Value.bool true := rv
        refine (⟨rfl, OldK.of_keep fun b o e => ?_, os, bare⟩)
        cases q : G b with
        | none => exact un.keep b o e q (fun z => absurd (show b ∈ ([] : List Addr) from z) (by simp)) (by simp)
        | some u =>
          rcases (hO b) with z | ⟨ob, xs, z⟩
          · rw [q] at z; cases z
          · obtain ⟨e1, _⟩ := hok b _ z
            obtain ⟨e2, _⟩ := hok2 b _ (un.frzs b ob _ z)
            rw [e] at e1
            cases e1
            exact e2
  cases hk : K.lookup a with
  | some o =>
    have e := kin a o hk
    rw [ha] at e
    cases e
    exact core (fun _ => none) (fun _ => .inl rfl) (.inr ⟨_, vs.toArray, _, hk, rfl, rfl, rfl, by rw [List.size_toArray, len]; exact hl, by simpa using rvs⟩) (fun b u z => by cases (show (none : Option HO) = some u from z)) (fun b z => absurd rfl z) fun z => absurd rfl z
  | none =>
    have pos : ∀ {b : Addr}, b = a → (fun b => if b = a then some (HO.frz { cls := .type "list", data := .seq vs.toArray } (.lst (ns.map V.int))) else none) b = some (HO.frz { cls := .type "list", data := .seq vs.toArray } (.lst (ns.map V.int))) := fun h => if_pos h
    have neg : ∀ {b : Addr}, ¬ b = a → (fun b => if b = a then some (HO.frz { cls := .type "list", data := .seq vs.toArray } (.lst (ns.map V.int))) else none) b = none := fun h => if_neg h
    refine core (fun b => if b = a then some (.frz { cls := .type "list", data := .seq vs.toArray } (.lst (ns.map V.int))) else none) (fun b => ?_) (.inl (.inr ⟨_, pos rfl⟩)) (fun b u z => ?_) (fun b z => ?_) fun _ => hk
    · by_cases h : b = a
      · exact .inr ⟨_, _, pos h⟩
      · exact .inl (neg h)
    · by_cases h : b = a
      · have z2 := (pos h).symm.trans z
        cases z2
        subst h
        exact ⟨ha, by rw [List.length_map]; exact hl, vs, _, rvs, ha⟩
      · have z2 := (neg h).symm.trans z
        cases z2
    · by_cases h : b = a
      · exact h
      · exact absurd (neg h) z
end R

/-! R31: a program's defs keep what callN says. -/
namespace R
open L2 PyProof.Rows PySem.Spec PySem
/-- what must be seen of a def's text -/
def fitB (S : Sg) (sub : Nat → Nat → Bool) (fn : Fn) (st : Stmt) (N ps : List Str) : Bool :=
  (match (defScope st).kind with | .function => true | _ => false) && !(defScope st).isCoroutine && !(defScope st).isGenerator && decide N.Nodup && decide (N.take ps.length = ps) &&
    (ps.all fun x => match (defScope st).names.lookup x with | some .local => true | some .cell => true | _ => false) && ((defScope st).names.all fun y => match y.2 with | .free => false | _ => true) &&
    decide (N.length = fn.n) && decide (ps.length = fn.ps) && isSs S N sub (defScope st) fn.body (defBody st)
theorem fit_of {S : Sg} {sub : Nat → Nat → Bool} {fn : Fn} {st : Stmt} {N ps : List Str} (h : fitB S sub fn st N ps = true) : FnScope N ps (defScope st) ∧ N.length = fn.n ∧ ps.length = fn.ps ∧ isSs S N sub (defScope st) fn.body (defBody st) = true := by
  unfold fitB at h
  simp only [Bool.and_eq_true, decide_eq_true_eq, Bool.not_eq_true', List.all_eq_true] at h
  obtain ⟨⟨⟨⟨⟨⟨⟨⟨⟨h1, h2⟩, h3⟩, h4⟩, h5⟩, h6⟩, h7⟩, h8⟩, h9⟩, h10⟩ := h
  refine ⟨⟨?_, h2, h3, h4, h5, fun x hx => ?_, fun y hy z => ?_⟩, h8, h9, h10⟩
  · split at h1
    · assumption
    · cases h1
  · have q := h6 x hx
    split at q
    · exact .inl (by assumption)
    · exact .inr (by assumption)
    · cases q
  · have q := h7 y hy
    rw [z] at q
    cases q
/-- the i-th def stands at a -/
def Def (K : PySem.W.Frag) (S : Sg) (P : Prog) (i : Nat) (a : Addr) (fd : FuncData) (ps : List Str) : Prop := ∃ (nm qual : Str) (st : Stmt) (N : List Str) (fn : Fn), P.fns[i]? = some fn ∧ FunD K nm qual (defArgs st) (defBody st) (defScope st) [] [] a fd ∧ fitB S P.sub fn st N ps = true ∧ Binds K fd ps []
/-- what the top has written -/
structure TX (Pm : Program) (w : World) (K : PySem.W.Frag) (mg : Str → Option Value) (T : Tb) (S : Sg) (P : Prog) : Prop where
  hK : K = T.K
  bi : ∀ b ∈ biNames, mg b = none
  gcd : S.gcd = true → mg "gcd" = some (.builtin "math.gcd")
  gl : ∀ (g : Nat) (x : Str) (d : D), S.gls[g]? = some x → P.gl[g]? = some d → ∃ u v, mg x = some u ∧ RelV v u ∧ ∀ w, RV T w v d
  fns : ∀ (f : Nat) (x : Str), S.fns[f]? = some x → x ≠ "" → ∃ (a : Addr) (fd : FuncData) (ps : List Str), mg x = some (.ref a) ∧ PySem.W.keepIn K (.ref a) = true ∧ Def K S P f a fd ps
  ins : ∀ (c : Nat) (C : Addr) (nms : List Str), T.ins c = some (C, nms) → InsOk T.K C ∧ (∃ x, S.cls[c]? = some (x, nms) ∧ mg x = some (.ref C)) ∧ nms.Nodup ∧ ∀ f ∈ nms, NoAttr T.K C f
  insAll : ∀ c ∈ S.ins, ∃ C nms, T.ins c = some (C, nms)
  mkC : ∀ (c : Nat) (C : Addr) (nms : List Str), T.ins c = some (C, nms) → ∃ (fI : Addr) (fd : FuncData) (ps : List Str), Mk K C fI ∧ (∀ base : Heap, FnG Pm w K mg base 1 fI fd ps (spI C nms)) ∧ Binds K fd ps []
  eqF : ∀ (c f : Nat) (C : Addr) (nms : List Str), P.eqf c = some f → T.ins c = some (C, nms) → ∃ (a : Addr) (fd : FuncData) (ps : List Str), PySem.W.findIn K (.ref C) "__eq__" = some (some (.ref a)) ∧ PySem.W.isFn K (.ref a) = true ∧ Def K S P f a fd ps ∧ PySem.W.notFirst K C (.type "tuple") = true
  ins2 : ∀ (c c' : Nat) (C C' : Addr) (nms nms' : List Str), c ≠ c' → T.ins c = some (C, nms) → T.ins c' = some (C', nms') → PySem.W.kitOne T.K (.ref C) (.ref C') = some false
  exn : ∀ c ∈ S.exs, ∀ x nms, S.cls[c]? = some (x, nms) → nms ≠ [] → ∃ C, T.exc c = some (C, nms)
  exc : ∀ (c : Nat) (C : Addr) (nms : List Str), T.exc c = some (C, nms) → ∃ x, nms ≠ [] ∧ S.cls[c]? = some (x, nms) ∧ c ∈ S.exs ∧ mg x = some (.ref C) ∧ OexC K C ∧ (∀ f ∈ nms, PySem.W.findIn K (.ref C) f = some none) ∧
    PySem.W.findIn K (.ref C) "__getattribute__" = some (some (.builtin "BaseException.__getattribute__")) ∧ PySem.W.findIn K (.ref C) "__getattr__" = some none ∧ PySem.W.hasDictIn K C = true ∧
    ∃ (fI : Addr) (fd : FuncData) (ps : List Str), PySem.W.findIn K (.ref C) "__init__" = some (some (.ref fI)) ∧ PySem.W.typeIn K (.ref fI) = some (.type "function") ∧ (∀ base : Heap, FnOk Pm w K mg base (L2.CX Pm w) 1 fI fd ps (spX C nms)) ∧ Binds K fd ps []
  han : ∀ c' ∈ S.exs, ∃ C' x nms', S.cls[c']? = some (x, nms') ∧ mg x = some (.ref C') ∧ ∀ (c : Nat) (C : Addr) (nms : List Str), T.exc c = some (C, nms) → PySem.W.exmOne K (.ref C) (.ref C') = some (P.sub c c')
theorem prog_ok {Pm : Program} {w : World} {K : PySem.W.Frag} {mg : Str → Option Value} {base : Heap} {T : Tb} {S : Sg} {P : Prog} (t : TX Pm w K mg T S P) : ∀ (n i : Nat) (a : Addr) (fd : FuncData) (ps : List Str), Def K S P i a fd ps → FnG Pm w K mg base (n + 2) a fd ps (spD T (callN P n) i)
  | 0, i, a, fd, ps, _ => ⟨fun vs H Q E h => by obtain ⟨w, κ, ds, _, _, p⟩ := h; exact p.elim, fun A outer s H args us vs Q E _ _ _ _ _ h => by obtain ⟨w, κ, ds, _, _, p⟩ := h; exact p.elim⟩
  | n + 1, i, a, fd, ps, df => by
    have IH := prog_ok (base := base) t n
    obtain ⟨nm, qual, st, N, fn, ei, F, fit, hb⟩ := df
    obtain ⟨sc, hn, hps, hss⟩ := fit_of fit
    obtain ⟨oc, od, dV, kV, doc, pm, an, cdv, ct, osl, rfl, lk, hcd, _, _⟩ := (F.ex)
    have un : ∀ ds κ, callN P (n + 1) i ds κ = if ds.length = fn.ps then (exec ⟨P.gl, [], callN P n, P.fuel, P.sub, P.eqf⟩ fn.body (startS fn ds) κ).out else .bad := fun ds κ => by
      simp only [callN, ei]
    refine fnG_of (N := N) lk hcd sc (fun vs H Q E h => ?_) fun A outer s H vs Q E gd room h => ?_
    · obtain ⟨w', κ, ds, hv, hw, p⟩ := h
      rw [un] at p
      by_cases hl : ds.length = fn.ps
      · rw [hv.length, hl, hps]
      · rw [if_neg hl] at p; exact p.elim
    · obtain ⟨w', κ, ds, hv, hw, p⟩ := h
      rw [un] at p
      by_cases hl : ds.length = fn.ps
      · rw [if_pos hl] at p
        refine ⟨_, (stmts_ok (T := T) (Γ := ⟨P.gl, [], callN P n, P.fuel, P.sub, P.eqf⟩) (S := S) (N := N) (n := n + 2) (sc := defScope st) fn.body).2 _ (fun cls d _ H' => E cls d H') (defBody st) ?_ (takes_of rfl rfl rfl rfl) hss, body_sem hw hv hn p⟩
        exact {
          hK := t.hK
          hN := rfl
          nd := sc.nd
          hsc := rfl
          calm := rfl
          gd := gd
          room := room
          lv := by omega
          bi := t.bi
          gcd := t.gcd
          gl := t.gl
          call := fun f x h1 h2 => by
            obtain ⟨a', fd', ps', h3, h4, h5⟩ := t.fns f x h1 h2
            exact ⟨a', fd', ps', h3, h4, IH f a' fd' ps' h5, h5.choose_spec.choose_spec.choose_spec.choose_spec.choose_spec.2.2.2⟩
          ins := t.ins
          insAll := t.insAll
          mkC := fun c C nms h => by
            obtain ⟨fI, fd', ps', h1, h2, h3⟩ := t.mkC c C nms h
            exact ⟨fI, fd', ps', h1, h2 base, h3⟩
          eqF := fun c f C nms h1 h2 => by
            obtain ⟨a', fd', ps', h3, h4, h5, h6⟩ := t.eqF c f C nms h1 h2
            exact ⟨a', fd', ps', h3, h4, IH f a' fd' ps' h5, h5.choose_spec.choose_spec.choose_spec.choose_spec.choose_spec.2.2.2, h6⟩
          ins2 := t.ins2
          fn := fun _ _ => rfl
          kind := sc.kind
          own := passes_of rfl
          stk := rfl
          frm := rfl
          exn := t.exn
          exc := fun c C nms h => by
            obtain ⟨x, h1, h2, h3, h4, h5, h6, h7, h8, h9, fI, fd', ps', h10, h11, h12, h13⟩ := t.exc c C nms h
            exact ⟨x, h1, h2, h3, h4, ⟨h5, h6, h7, h8, h9, fI, fd', ps', h10, h11, h12 base, h13⟩⟩
          han := t.han }
      · rw [if_neg hl] at p; exact p.elim
end R

/-! R32: the starts of classes. -/
namespace R
open L2 PyProof.Rows PySem.Spec PySem
/-- self.f = f, alone -/
def initB (st : Stmt) (s y f : Str) : Bool := (match defBody st with
  | [.Assign [.Attribute (.Name s' _) f' _] (.Name y' _) _] => decide (s' = s) && decide (y' = y) && decide (f' = f)
  | _ => false) && (match (defScope st).names.lookup s with | some .local => true | _ => false) && (match (defScope st).names.lookup y with | some .local => true | _ => false) &&
  notDbg s && notDbg y && (match (defScope st).kind with | .function => true | _ => false) && !(defScope st).isCoroutine && !(defScope st).isGenerator && decide (s ≠ y) && ((defScope st).names.all fun y => match y.2 with | .free => false | _ => true)
theorem initB_of {st : Stmt} {s y f : Str} (h : initB st s y f = true) : (∃ p1 p2 p3 p4, defBody st = [.Assign [.Attribute (.Name s p1) f p2] (.Name y p3) p4]) ∧ (defScope st).names.lookup s = some .local ∧ (defScope st).names.lookup y = some .local ∧ notDbg s = true ∧ notDbg y = true ∧ FnScope [s, y] [s, y] (defScope st) := by
  unfold initB at h
  simp only [Bool.and_eq_true, decide_eq_true_eq, Bool.not_eq_true', List.all_eq_true] at h
  obtain ⟨⟨⟨⟨⟨⟨⟨⟨⟨h1, h2⟩, h3⟩, h4⟩, h5⟩, h6⟩, h7⟩, h8⟩, h9⟩, h10⟩ := h
  have l1 : (defScope st).names.lookup s = some .local := by
    cases e : (defScope st).names.lookup s with
    | none => (rw [e] at h2; cases h2)
    | some k => rw [e] at h2; cases k <;> first | rfl | cases h2
  have l2 : (defScope st).names.lookup y = some .local := by
    cases e : (defScope st).names.lookup y with
    | none => rw [e] at h3; cases h3
    | some k => rw [e] at h3; cases k <;> first | rfl | cases h3
  refine ⟨?_, l1, l2, h4, h5, ⟨?_, h7, h8, by simp [h9], rfl, fun x hx => ?_, fun z hz q => ?_⟩⟩
  · split at h1
    · rename_i s' p1 f' p2 y' p3 p4 e
      simp only [decide_eq_true_eq, Bool.and_eq_true] at h1
      obtain ⟨⟨rfl, rfl⟩, rfl⟩ := h1
      exact ⟨p1, p2, p3, p4, e⟩
    · cases h1
  · cases e : (defScope st).kind <;> rw [e] at h6 <;> first | rfl | cases h6
  · simp only [List.mem_cons, List.not_mem_nil, or_false] at hx
    rcases hx with rfl | rfl
    · exact .inl l1
    · exact .inl l2
  · have q2 := h10 z hz
    rw [q] at q2
    cases q2
section
variable {P : Program} {w : World} {K : PySem.W.Frag} {mg : Str → Option Value} {base : Heap} {nm qual : Str} {st : Stmt} {a C : Addr} {fd : FuncData} {s y f : Str}
theorem initX_ok (F : FunD K nm qual (defArgs st) (defBody st) (defScope st) [] [] a fd) (hb : initB st s y f = true) (ok : OexC K C) (no : PySem.W.findIn K (.ref C) f = some none) : FnOk P w K mg base (L2.CX P w) 1 a fd [s, y] (spX C [f]) := by
  obtain ⟨⟨p1, p2, p3, p4, eb⟩, l1, l2, d1, d2, sc⟩ := initB_of hb
  refine F.ok sc (fun vs H Q E h => by obtain ⟨a', ys, rfl, hl, _⟩ := h; simp at hl ⊢; exact hl) fun cdv A outer t H vs Q E hr h => ?_
  obtain ⟨e, ys, rfl, hl, he, hq⟩ := h
  match ys, hl with
  | [v], _ =>
  have d1 := dbg_of d1
  have d2 := dbg_of d2
  rw [eb]
  refine ⟨_, pss_one (ps_ost (pe_var (i := 0) rfl (.inl l1) d1.1 d1.2.1) (pe_var (i := 1) rfl (.inl l2) d2.1 d2.2.1) rfl), v, rfl, .ref e, rfl, e, C, rfl, ok, no, .inl ⟨he, fun dx hd ne => hq dx [(f, v)] hd ne ⟨rfl, fun j g u h1 h2 => ?_⟩⟩⟩
  cases j with
  | zero => simp at h1 h2; subst h1 h2; simp [List.lookup]
  | succ j => simp at h1
/-- self.f = y; self.g = z -/
def initB2 (st : Stmt) (s y f z g : Str) : Bool := (match defBody st with
  | [.Assign [.Attribute (.Name s' _) f' _] (.Name y' _) _, .Assign [.Attribute (.Name s2 _) g' _] (.Name z' _) _] => decide (s' = s) && decide (y' = y) && decide (f' = f) && decide (s2 = s) && decide (z' = z) && decide (g' = g)
  | _ => false) && (match (defScope st).names.lookup s with | some .local => true | _ => false) && (match (defScope st).names.lookup y with | some .local => true | _ => false) && (match (defScope st).names.lookup z with | some .local => true | _ => false) &&
  notDbg s && notDbg y && notDbg z && (match (defScope st).kind with | .function => true | _ => false) && !(defScope st).isCoroutine && !(defScope st).isGenerator && decide (s ≠ y) && decide (s ≠ z) && decide (y ≠ z) && decide (f ≠ g) && ((defScope st).names.all fun y => match y.2 with | .free => false | _ => true)
theorem isLocal_of {st : Stmt} {s : Str} (h : (match (defScope st).names.lookup s with | some .local => true | _ => false) = true) : (defScope st).names.lookup s = some .local := by
  cases e : (defScope st).names.lookup s with
  | none => (rw [e] at h; cases h)
  | some k => rw [e] at h; cases k <;> first | rfl | cases h
theorem initB2_of {st : Stmt} {s y f z g : Str} (h : initB2 st s y f z g = true) : (∃ p1 p2 p3 p4 p5 p6 p7 p8, defBody st = [.Assign [.Attribute (.Name s p1) f p2] (.Name y p3) p4, .Assign [.Attribute (.Name s p5) g p6] (.Name z p7) p8]) ∧ (defScope st).names.lookup s = some .local ∧ (defScope st).names.lookup y = some .local ∧ (defScope st).names.lookup z = some .local ∧
    notDbg s = true ∧ notDbg y = true ∧ notDbg z = true ∧ f ≠ g ∧ FnScope [s, y, z] [s, y, z] (defScope st) := by
  unfold initB2 at h
  simp only [Bool.and_eq_true, decide_eq_true_eq, Bool.not_eq_true', List.all_eq_true] at h
  obtain ⟨⟨⟨⟨⟨⟨⟨⟨⟨⟨⟨⟨⟨⟨h1, h2⟩, h3⟩, h4⟩, h5⟩, h6⟩, h7⟩, h8⟩, h9⟩, h10⟩, h11⟩, h12⟩, h13⟩, h14⟩, h15⟩ := h
  have l1 := isLocal_of h2
  have l2 := isLocal_of h3
  have l3 := isLocal_of h4
  refine ⟨?_, l1, l2, l3, h5, h6, h7, h14, ⟨?_, h9, h10, by simp [h11, h12, h13], rfl, fun x hx => ?_, fun z hz q => ?_⟩⟩
  · split at h1
    · rename_i s' p1 f' p2 y' p3 p4 s2 p5 g' p6 z' p7 p8 e
      simp only [decide_eq_true_eq, Bool.and_eq_true] at h1
      obtain ⟨⟨⟨⟨⟨rfl, rfl⟩, rfl⟩, rfl⟩, rfl⟩, rfl⟩ := h1
      exact ⟨p1, p2, p3, p4, p5, p6, p7, p8, e⟩
    · cases h1
  · cases e : (defScope st).kind <;> rw [e] at h8 <;> first | rfl | cases h8
  · simp only [List.mem_cons, List.not_mem_nil, or_false] at hx
    rcases hx with rfl | rfl | rfl
    · exact .inl l1
    · exact .inl l2
    · exact .inl l3
  · have q2 := h15 z hz
    rw [q] at q2
    cases q2
theorem initX2_ok {z g : Str} (F : FunD K nm qual (defArgs st) (defBody st) (defScope st) [] [] a fd) (hb : initB2 st s y f z g = true) (ok : OexC K C) (no : PySem.W.findIn K (.ref C) f = some none) (no2 : PySem.W.findIn K (.ref C) g = some none) : FnOk P w K mg base (L2.CX P w) 1 a fd [s, y, z] (spX C [f, g]) := by
  obtain ⟨⟨p1, p2, p3, p4, p5, p6, p7, p8, eb⟩, l1, l2, l3, d1, d2, d3, nfg, sc⟩ := initB2_of hb
  refine F.ok sc (fun vs H Q E h => by obtain ⟨a', ys, rfl, hl, _⟩ := h; simp at hl ⊢; exact hl) fun cdv A outer t H vs Q E hr h => ?_
  obtain ⟨e, ys, rfl, hl, he, hq⟩ := h
  match ys, hl with
  | [v, u], _ =>
  have d1 := dbg_of d1
  have d2 := dbg_of d2
  have d3 := dbg_of d3
  rw [eb]
  refine ⟨_, pss_cons (ps_ost (pe_var (i := 0) rfl (.inl l1) d1.1 d1.2.1) (pe_var (i := 1) rfl (.inl l2) d2.1 d2.2.1) rfl) (pss_one (ps_ost (pe_var (i := 0) rfl (.inl l1) d1.1 d1.2.1) (pe_var (i := 2) rfl (.inl l3) d3.1 d3.2.1) rfl)), v, rfl, .ref e, rfl, e, C, rfl, ok, no, .inl ⟨he, fun dx hd ne => ?_⟩⟩
  refine ⟨u, rfl, .ref e, rfl, e, C, rfl, ok, no2, .inr ⟨dx, [(f, v)], upd_same, by rw [upd_ne ne, upd_same], by simp, ?_⟩⟩
  have eh : upd (upd (upd H dx (exd dx [(f, v)])) e (exo e C (some dx))) dx (exd dx [(g, u), (f, v)]) = upd (upd H dx (exd dx [(g, u), (f, v)])) e (exo e C (some dx)) := by
    funext b
    by_cases h1 : b = dx
    · subst h1; rw [upd_same, upd_ne ne, upd_same]
    · rw [upd_ne h1]
      by_cases h2 : b = e
      · subst h2; rw [upd_same, upd_same]
      · rw [upd_ne h2, upd_ne h1, upd_ne h2, upd_ne h1]
  rw [eh]
  refine hq dx _ hd ne ⟨rfl, fun j k u' h1 h2 => ?_⟩
  match j, h1, h2 with
  | 0, h1, h2 =>
    simp at h1 h2
    subst h1 h2
    rw [List.lookup_cons, show (f == g) = false from by simpa using nfg]
    simp [List.lookup]
  | 1, h1, h2 => simp at h1 h2; subst h1 h2; simp [List.lookup]
  | j + 2, h1, h2 => simp at h1
theorem initI_ok (F : FunD K nm qual (defArgs st) (defBody st) (defScope st) [] [] a fd) (hb : initB st s y f = true) (ok : Cls K C) (no : NoAttr K C f) : FnG P w K mg base 1 a fd [s, y] (spI C [f]) := by
  obtain ⟨⟨p1, p2, p3, p4, eb⟩, l1, l2, d1, d2, sc⟩ := initB_of hb
  have len : ∀ vs H Q E, spI C [f] vs H Q E → vs.length = [s, y].length := fun vs H Q E h => by obtain ⟨x, dx, us, rfl, hl, _⟩ := h; simp at hl ⊢; exact hl
  have G : FnOk P w K mg base (L2.CX P w) 1 a fd [s, y] (spI C [f]) := by
    refine F.ok sc len fun cdv A outer t H vs Q E hr h => ?_
    obtain ⟨x, dx, us, rfl, hl, hx, ne, hq⟩ := h
    have d1 := dbg_of d1
    have d2 := dbg_of d2
    rw [eb]
    match us, hl with
    | [v], _ =>
    refine ⟨_, pss_one (ps_fld (pe_var (i := 0) rfl (.inl l1) d1.1 d1.2.1) (pe_var (i := 1) rfl (.inl l2) d2.1 d2.2.1) rfl), v, rfl, .ref x, rfl, x, C, dx, [], rfl, hx, ok, no, by simp, hq⟩
  exact ⟨len, fun A outer t H args us vs Q E hr _ e0 hb2 hv h => G.run A outer t H args us vs Q E hr e0 hb2 hv h⟩
end
end R

/-! R33: further facts of the head. -/
namespace R
open PySem PySem.Spec PyProof.Rows L2 He
/-- the class at C is an exception's, its start its own -/
def oexIn (K : PySem.W.Frag) (C : Addr) : Bool := match K.lookup C with
  | some ⟨.type "type", _, .cls cd, slt⟩ => (match cd.mro, slt.toList with
    | .ref Cx :: bm, [_, _, _, _, some (.builtin nn), _] => decide (Cx = C) && (decide (nn = "ValueError.__new__") && (!cd.hasDel && (cd.hasDict && PySem.HandSPX.refsVE bm)))
    | _, _ => false)
  | _ => false
theorem oexIn_ok {K : PySem.W.Frag} {C : Addr} (q : oexIn K C = true) : ∃ nm qn N bs bm sn sub ab col dd k0 k1 k2 k3 k5, K.lookup C = some (excClassObj nm qn C N bs bm true sn sub ab col dd k0 k1 k2 k3 k5 "ValueError.__new__") ∧ PySem.HandSPX.refsVE bm = true := by
  unfold oexIn at q
  split at q
  · rename_i dd cd sl ho
    split at q
    · rename_i Cx bm k0 k1 k2 k3 nn k5 hm hs
      simp only [Bool.and_eq_true, decide_eq_true_eq, Bool.not_eq_true'] at q
      obtain ⟨rfl, rfl, h1, h2, h3⟩ := q
      obtain ⟨nm, bs, mro, ns, qn, hd, sn, sub, ab, col, del⟩ := (cd)
      dsimp only at hm h1 h2
      subst hm h1 h2
      have e : sl = #[k0, k1, k2, k3, some (.builtin "ValueError.__new__"), k5] := by
        obtain ⟨l⟩ := sl
        simp only at hs
        rw [hs]
      subst e
      exact ⟨nm, qn, ns, bs, bm, sn, sub, ab, col, dd, k0, k1, k2, k3, k5, ho, h3⟩
    · cases q
  · cases q
/-- ins x: an instance's facts of the class x; two x y: x is not y's; nf x: x's == comes first against a tuple; exg x f: an exception's field is read plainly; oex x: an exception's class with a start of its own -/
inductive Fx where
  | ins (x : Str) | two (x y : Str) | nf (x : Str) | exg (x f : Str) | oex (x : Str) | gcd
def Fx.ok (K : PySem.W.Frag) : Fx → Bool
  | .ins x => decide (PySem.W.findIn K (.ref (ga K x)) "__class__" = some (some (.builtin "object.__class__"))) && decide (PySem.W.specialIn K (.builtin "object.__class__") "__get__" = some (some (.builtin "getset_descriptor.__get__"))) &&
      decide (PySem.W.takesIn K (.builtin "object.__class__") = some true) && decide (PySem.W.mroIn K (ga K x) (.type "object") = some true) && decide (PySem.W.kitOne K (.ref (ga K x)) (.ref (ga K x)) = some true) &&
      ((["int", "bool", "str", "tuple", "list"] : List String).all fun n => decide (PySem.W.kitOne K (.ref (ga K x)) (.type n) = some false)) && ((["NoneType", "int", "bool", "str", "tuple", "list"] : List String).all fun n => decide (PySem.W.kitOne K (.type n) (.ref (ga K x)) = some false))
  | .two x y => decide (PySem.W.kitOne K (.ref (ga K x)) (.ref (ga K y)) = some false)
  | .nf x => PySem.W.notFirst K (ga K x) (.type "tuple")
  | .exg x f => decide (PySem.W.findIn K (.ref (ga K x)) f = some none) && decide (PySem.W.findIn K (.ref (ga K x)) "__getattribute__" = some (some (.builtin "BaseException.__getattribute__"))) && decide (PySem.W.findIn K (.ref (ga K x)) "__getattr__" = some none) &&
      PySem.W.hasDictIn K (ga K x) && decide (PySem.W.findIn K (.ref (ga K x)) "__setattr__" = some (some (.builtin "object.__setattr__"))) && decide (PySem.W.findIn K (.ref (ga K x)) "__init__" = some (some (.ref (ma K (ga K x) "__init__")))) && decide (PySem.W.typeIn K (.ref (ma K (ga K x) "__init__")) = some (.type "function"))
  | .oex x => oexIn K (ga K x) && (decide (PySem.W.findIn K (.ref (ga K x)) "__setattr__" = some (some (.builtin "object.__setattr__"))) && (decide (PySem.W.subIn K (.ref (ga K x)) (.type "BaseException") = some true) &&
      (decide (PySem.W.typeIn K (.ref (ga K x)) = some (.type "type")) && PySem.W.keepIn K (.ref (ga K x)))))
  | .gcd => decide (PySem.W.nsIn K mainGlobals "gcd" = some (some (.builtin "math.gcd")))
theorem gcd_ok {K : PySem.W.Frag} {h : Heap} {mg : Str → Option Value} (X : K.In h) (G : h.Ns mainGlobals mg) (c : Fx.gcd.ok K = true) : mg "gcd" = some (.builtin "math.gcd") := PySem.W.mg_of X G (of_decide_eq_true c)
theorem two_ok {K : PySem.W.Frag} {x y : Str} (c : (Fx.two x y).ok K = true) : PySem.W.kitOne K (.ref (ga K x)) (.ref (ga K y)) = some false := of_decide_eq_true c
theorem exg_ok {K : PySem.W.Frag} {x f : Str} (c : (Fx.exg x f).ok K = true) : PySem.W.findIn K (.ref (ga K x)) f = some none ∧ PySem.W.findIn K (.ref (ga K x)) "__getattribute__" = some (some (.builtin "BaseException.__getattribute__")) ∧ PySem.W.findIn K (.ref (ga K x)) "__getattr__" = some none ∧
    PySem.W.hasDictIn K (ga K x) = true ∧ PySem.W.findIn K (.ref (ga K x)) "__setattr__" = some (some (.builtin "object.__setattr__")) ∧ PySem.W.findIn K (.ref (ga K x)) "__init__" = some (some (.ref (ma K (ga K x) "__init__"))) ∧ PySem.W.typeIn K (.ref (ma K (ga K x) "__init__")) = some (.type "function") := by
  simp only [Fx.ok, Bool.and_eq_true, decide_eq_true_eq] at c
  obtain ⟨⟨⟨⟨⟨⟨c1, c2⟩, c3⟩, c4⟩, c5⟩, c6⟩, c7⟩ := c
  exact ⟨c1, c2, c3, c4, c5, c6, c7⟩
theorem oex_ok {K : PySem.W.Frag} {x : Str} (c : (Fx.oex x).ok K = true) : OexC K (ga K x) := by
  simp only [Fx.ok, Bool.and_eq_true, decide_eq_true_eq] at c
  obtain ⟨c1, c2, c3, c4, c5⟩ := c
  exact ⟨oexIn_ok c1, c2, c3, c4, c5⟩
theorem ins_ok {K : PySem.W.Frag} {x : Str} (cl : Cls K (ga K x)) (c : (Fx.ins x).ok K = true) : InsOk K (ga K x) := by
  simp only [Fx.ok, Bool.and_eq_true, decide_eq_true_eq, List.all_eq_true] at c
  obtain ⟨⟨⟨⟨⟨⟨c1, c2⟩, c3⟩, c4⟩, c5⟩, c6⟩, c7⟩ := c
  exact ⟨cl, c1, c2, c3, c4, fun n hn => c6 n hn, c5, fun n hn => c7 n hn⟩
def obsX (n : Nat) (fa : List Fa) (fn : List DefD) (fx : List Fx) (g : Addr → Option Obj) : AlD × Bool := (obsD fa fn (frG g (asD g n)), fx.all fun f => f.ok (frG g (asD g n)))
def hookX (n : Nat) (fa : List Fa) (fn : List DefD) (fx : List Fx) : PySem.W.Hook where
  α := AlD × Bool
  obs := fun s => obsX n fa fn fx s.heap.get?
  val := fun _ => (valD fn, true)
  says := fun _ h => ∃ K : PySem.W.Frag, K.In h ∧ SaysD fa fn K ∧ (fx.all fun f => f.ok K) = true
  of := fun _ _ e => ⟨_, frG_in, congrArg (fun z : AlD × Bool => z.1) e, congrArg (fun z : AlD × Bool => z.2) e⟩
  keeps := (fun _ _ _ ⟨K, hK, c⟩ k => ⟨K, PySem.W.Frag.In.keeps hK k, c⟩)
theorem obsX_eq {n : Nat} {fa : List Fa} {fn : List DefD} {fx : List Fx} {g : Addr → Option Obj} {s : Shared} (h : ∀ a, g a = s.heap.get? a) : obsX n fa fn fx g = (hookX n fa fn fx).obs s := by
  have e : g = s.heap.get? := (funext h)
  rw [e]
  rfl
end R

namespace My
open L2 PyProof.Rows PySem.Spec PySem
def top (i : Nat) : Stmt := PySem.Challenge.pw_seldomsteps_k74_whole_bounds_of_what_is.main.body.getD i (.Pass ⟨0, 0, 0, 0⟩)
abbrev dF (x : Str) (i : Nat) : He.DefD := ⟨(x, none), x, x, defArgs (top i), defBody (top i), defScope (top i), [], []⟩
abbrev dM (C m q : Str) (i j : Nat) : He.DefD := ⟨(C, some m), m, q, defArgs (inClass (top i) j), defBody (inClass (top i) j), defScope (inClass (top i) j), [], []⟩
def fn : List He.DefD := [dM "BadNumber" "__init__" "BadNumber.__init__" 3 0,
  dM "BadWorth" "__init__" "BadWorth.__init__" 4 0,
  dF "is_whole" 5,
  dF "is_count" 6,
  dF "is_fraction" 8,
  dF "fraction_of" 9,
  dF "added" 10,
  dF "multiplied" 11,
  dF "divided" 12,
  dF "is_less" 13,
  dF "is_term" 14,
  dF "is_worth" 15,
  dF "summed" 16,
  dF "sum_of" 17,
  dF "negative" 18,
  dF "product_of" 19,
  dF "sign_of" 20,
  dF "is_quotient" 22,
  dF "need_quotient" 23,
  dF "need_most" 25,
  dF "cut_off" 26,
  dF "shifted" 27,
  dF "expanded_in" 28,
  dF "expanded" 29,
  dF "left_in" 30,
  dF "size_of" 31,
  dF "greatest" 32,
  dF "bound_in" 33,
  dF "bound" 34,
  dF "_law_pen" 36,
  dF "_law_draw" 37,
  dF "_law_pick" 38,
  dF "_law_gcd" 39,
  dF "_law_part" 40,
  dF "_law_add" 41,
  dF "_law_by" 42,
  dF "_law_over" 43,
  dF "_law_is_less" 44,
  dF "_law_worth_of" 45,
  dF "_law_known" 46,
  dF "_law_add_to" 47,
  dF "_law_series_sum" 48,
  dF "_law_series_product" 49,
  dF "_law_expand" 50,
  dF "_law_left_of" 51,
  dF "_law_bound" 52,
  dF "_law_value" 53,
  dF "_law_tiny_worth" 54,
  dF "_law_small_worth" 55,
  dF "_law_power_of" 56,
  dF "law" 57]
def fa : List He.Fa := ([.glo "is_whole", .glo "is_count", .glo "is_fraction", .glo "fraction_of", .glo "added", .glo "multiplied", .glo "divided", .glo "is_less", .glo "is_term", .glo "is_worth", .glo "summed", .glo "sum_of", .glo "negative", .glo "product_of", .glo "sign_of", .glo "is_quotient", .glo "need_quotient", .glo "need_most", .glo "cut_off", .glo "shifted", .glo "expanded_in", .glo "expanded", .glo "left_in", .glo "size_of", .glo "greatest", .glo "bound_in", .glo "bound", .glo "_law_pen", .glo "_law_draw", .glo "_law_pick"] : List He.Fa) ++ ([.glo "_law_gcd", .glo "_law_part", .glo "_law_add", .glo "_law_by", .glo "_law_over", .glo "_law_is_less", .glo "_law_worth_of", .glo "_law_known", .glo "_law_add_to", .glo "_law_series_sum", .glo "_law_series_product", .glo "_law_expand", .glo "_law_left_of", .glo "_law_bound", .glo "_law_value", .glo "_law_tiny_worth", .glo "_law_small_worth", .glo "_law_power_of", .glo "law", .free "len", .free "isinstance", .free "all", .free "tuple", .free "list", .free "range", .free "zip", .free "repr", .free "abs", .free "int", .free "bool"] : List He.Fa) ++ ([.free "str", .free "dict", .free "any", .free "sum", .free "min", .free "max", .free "sorted", .free "enumerate", .glo "RareError", .glo "BadNumber", .glo "BadWorth", .exm "BadNumber" "RareError" true, .exm "BadNumber" "BadNumber" true, .exm "BadNumber" "BadWorth" false, .exm "BadWorth" "RareError" true, .exm "BadWorth" "BadNumber" false, .exm "BadWorth" "BadWorth" true] : List He.Fa)
def fx : List R.Fx := [.oex "BadNumber", .oex "BadWorth", .exg "BadNumber" "what", .exg "BadNumber" "number", .exg "BadWorth" "worth", .gcd]
def loose : List Str := (["RareError", "BadNumber", "BadWorth", "is_whole", "is_count", "is_fraction", "fraction_of", "added", "multiplied", "divided", "is_less", "is_term", "is_worth", "summed", "sum_of", "negative", "product_of", "sign_of", "is_quotient", "need_quotient", "need_most", "cut_off", "shifted", "expanded_in", "expanded", "left_in", "size_of", "greatest", "bound_in", "bound"] : List Str) ++ (["_law_pen", "_law_draw", "_law_pick", "_law_gcd", "_law_part", "_law_add", "_law_by", "_law_over", "_law_is_less", "_law_worth_of", "_law_known", "_law_add_to", "_law_series_sum", "_law_series_product", "_law_expand", "_law_left_of", "_law_bound", "_law_value", "_law_tiny_worth", "_law_small_worth", "_law_power_of", "__name__"] : List Str)
abbrev Ro : PySem.W.OpenRow := PySem.W.OpenLaw.row PySem.Challenge.rw_seldomsteps_k74_whole_bounds_of_what_is
abbrev hk : PySem.W.Hook := R.hookX 4 fa fn fx
def ob (s : PySem.W.SharedT) : He.AlD × Bool := R.obsX 4 fa fn fx (HandSHeadRun.getT s)
theorem ob_eq (s : PySem.W.SharedT) : ob s = hk.obs s.abs := R.obsX_eq (HandSHeadRun.getT_eq s)
theorem run (w : World) : HandSHeadRun.RunEqI Ro (PySem.W.view Ro.prog [0, 57]) hk ob 20000 loose w := by
  unfold HandSHeadRun.RunEqI
  kernel_rfl
end My

namespace R
open PySem L2
namespace Pr
/-- is_whole: 0 value -/
def b_is_whole : S := (.cons (.ret (.and (.isi (.var 0) [.int] false) (.not (.isi (.var 0) [.bool] false)))) .nil)
/-- is_count: 0 value -/
def b_is_count : S := (.cons (.ret (.and (.call 0 (.cons (.var 0) .nil)) (.cmp .ge (.var 0) (.cst (.int 0))))) .nil)
/-- is_fraction: 0 value 1 item -/
def b_is_fraction : S := (.cons (.ite (.or (.not (.isi (.var 0) [.tuple] false)) (.or (.cmp .ne (.blt1 .len (.var 0)) (.cst (.int 2))) (.not (.blt1 .all (.comp [1] (.v 1) (.walk (.var 0)) .nil (.call 0 (.cons (.var 1) .nil))))))) (.cons (.ret (.cst (.bl false))) .nil) .nil) (.cons (.ret (.and (.cmp .ge (.idx (.var 0) (.cst (.int 1))) (.cst (.int 1))) (.cmp .eq (.blt2 .gcd (.idx (.var 0) (.cst (.int 0))) (.idx (.var 0) (.cst (.int 1)))) (.cst (.int 1))))) .nil))
/-- fraction_of: 0 top 1 bottom 2 shared -/
def b_fraction_of : S := (.cons (.set 2 (.ite (.cmp .gt (.var 1) (.cst (.int 0))) (.blt2 .gcd (.var 0) (.var 1)) (.neg (.blt2 .gcd (.var 0) (.var 1))))) (.cons (.ret (.tup (.cons (.bin .fdiv (.var 0) (.var 2)) (.cons (.bin .fdiv (.var 1) (.var 2)) .nil)))) .nil))
/-- added: 0 first 1 second -/
def b_added : S := (.cons (.ret (.call 3 (.cons (.bin .add (.bin .mul (.idx (.var 0) (.cst (.int 0))) (.idx (.var 1) (.cst (.int 1)))) (.bin .mul (.idx (.var 1) (.cst (.int 0))) (.idx (.var 0) (.cst (.int 1))))) (.cons (.bin .mul (.idx (.var 0) (.cst (.int 1))) (.idx (.var 1) (.cst (.int 1)))) .nil)))) .nil)
/-- multiplied: 0 first 1 second -/
def b_multiplied : S := (.cons (.ret (.call 3 (.cons (.bin .mul (.idx (.var 0) (.cst (.int 0))) (.idx (.var 1) (.cst (.int 0)))) (.cons (.bin .mul (.idx (.var 0) (.cst (.int 1))) (.idx (.var 1) (.cst (.int 1)))) .nil)))) .nil)
/-- divided: 0 first 1 second -/
def b_divided : S := (.cons (.ret (.call 3 (.cons (.bin .mul (.idx (.var 0) (.cst (.int 0))) (.idx (.var 1) (.cst (.int 1)))) (.cons (.bin .mul (.idx (.var 0) (.cst (.int 1))) (.idx (.var 1) (.cst (.int 0)))) .nil)))) .nil)
/-- is_less: 0 first 1 second -/
def b_is_less : S := (.cons (.ret (.cmp .lt (.bin .mul (.idx (.var 0) (.cst (.int 0))) (.idx (.var 1) (.cst (.int 1)))) (.bin .mul (.idx (.var 1) (.cst (.int 0))) (.idx (.var 0) (.cst (.int 1)))))) .nil)
/-- is_term: 0 value -/
def b_is_term : S := (.cons (.ite (.or (.not (.isi (.var 0) [.tuple] false)) (.or (.cmp .ne (.blt1 .len (.var 0)) (.cst (.int 3))) (.not (.call 1 (.cons (.idx (.var 0) (.cst (.int 0))) .nil))))) (.cons (.ret (.cst (.bl false))) .nil) .nil) (.cons (.ret (.and (.call 2 (.cons (.slc (.var 0) (.cst (.int 1)) (.cst .non)) .nil)) (.cmp .ne (.idx (.var 0) (.cst (.int 1))) (.cst (.int 0))))) .nil))
/-- is_worth: 0 value 1 term 2 one 3 two -/
def b_is_worth : S := (.cons (.ite (.or (.not (.isi (.var 0) [.tuple] false)) (.not (.blt1 .all (.comp [1] (.v 1) (.walk (.var 0)) .nil (.call 8 (.cons (.var 1) .nil)))))) (.cons (.ret (.cst (.bl false))) .nil) .nil) (.cons (.ret (.blt1 .all (.comp [2, 3] (.t [2, 3]) (.zip (.var 0) (.slc (.var 0) (.cst (.int 1)) (.cst .non))) .nil (.cmp .lt (.idx (.var 2) (.cst (.int 0))) (.idx (.var 3) (.cst (.int 0))))))) .nil))
/-- summed: 0 terms 1 found 2 order 3 top 4 bottom -/
def b_summed : S := (.cons (.set 1 .dnew) (.cons (.for_ (.t [2, 3, 4]) (.walk (.var 0)) (.cons (.put 1 (.var 2) (.call 4 (.cons (.get (.var 1) (.var 2) (.tup (.cons (.cst (.int 0)) (.cons (.cst (.int 1)) .nil)))) (.cons (.call 3 (.cons (.var 3) (.cons (.var 4) .nil))) .nil)))) .nil)) (.cons (.ret (.blt1 .tuple (.comp [2] (.v 2) (.walk (.blt1 .sorted (.var 1))) (.cons (.cmp .ne (.idx (.idx (.var 1) (.var 2)) (.cst (.int 0))) (.cst (.int 0))) .nil) (.bin .add (.tup (.cons (.var 2) .nil)) (.idx (.var 1) (.var 2)))))) .nil)))
/-- sum_of: 0 first 1 second -/
def b_sum_of : S := (.cons (.ret (.call 10 (.cons (.bin .add (.var 0) (.var 1)) .nil))) .nil)
/-- negative: 0 worth 1 order 2 top 3 bottom -/
def b_negative : S := (.cons (.ret (.blt1 .tuple (.comp [1, 2, 3] (.t [1, 2, 3]) (.walk (.var 0)) .nil (.tup (.cons (.var 1) (.cons (.neg (.var 2)) (.cons (.var 3) .nil))))))) .nil)
/-- product_of: 0 first 1 second 2 k 3 a 4 b 5 j 6 c 7 d -/
def b_product_of : S := (.cons (.ret (.call 10 (.cons (.comp2 [2, 3, 4, 5, 6, 7] (.t [2, 3, 4]) (.walk (.var 0)) .nil (.t [5, 6, 7]) (.walk (.var 1)) .nil (.tup (.cons (.bin .add (.var 2) (.var 5)) (.cons (.bin .mul (.var 3) (.var 6)) (.cons (.bin .mul (.var 4) (.var 7)) .nil))))) .nil))) .nil)
/-- sign_of: 0 worth -/
def b_sign_of : S := (.cons (.ite (.cmp .eq (.var 0) (.tup .nil)) (.cons (.ret (.cst (.int 0))) .nil) .nil) (.cons (.ret (.ite (.cmp .gt (.idx (.idx (.var 0) (.cst (.int 0))) (.cst (.int 1))) (.cst (.int 0))) (.cst (.int 1)) (.neg (.cst (.int 1))))) .nil))
/-- is_quotient: 0 value -/
def b_is_quotient : S := (.cons (.ite (.or (.not (.isi (.var 0) [.tuple] false)) (.or (.cmp .ne (.blt1 .len (.var 0)) (.cst (.int 2))) (.or (.not (.call 9 (.cons (.idx (.var 0) (.cst (.int 0))) .nil))) (.not (.call 9 (.cons (.idx (.var 0) (.cst (.int 1))) .nil)))))) (.cons (.ret (.cst (.bl false))) .nil) .nil) (.cons (.ret (.cmp .eq (.call 14 (.cons (.idx (.var 0) (.cst (.int 1))) .nil)) (.cst (.int 1)))) .nil))
/-- need_quotient: 0 value -/
def b_need_quotient : S := (.cons (.ite (.not (.call 15 (.cons (.var 0) .nil))) (.cons (.raise 2 (.cons (.var 0) .nil)) .nil) .nil) .nil)
/-- need_most: 0 most -/
def b_need_most : S := (.cons (.ite (.not (.call 0 (.cons (.var 0) .nil))) (.cons (.raise 1 (.cons (.cst (.str "most")) (.cons (.var 0) .nil))) .nil) .nil) .nil)
/-- cut_off: 0 terms 1 most 2 term -/
def b_cut_off : S := (.cons (.ret (.blt1 .tuple (.comp [2] (.v 2) (.walk (.var 0)) (.cons (.cmp .le (.idx (.var 2) (.cst (.int 0))) (.var 1)) .nil) (.var 2)))) .nil)
/-- shifted: 0 terms 1 by 2 order 3 top 4 bottom -/
def b_shifted : S := (.cons (.ret (.blt1 .tuple (.comp [2, 3, 4] (.t [2, 3, 4]) (.walk (.var 0)) .nil (.tup (.cons (.bin .add (.var 2) (.var 1)) (.cons (.var 3) (.cons (.var 4) .nil))))))) .nil)
/-- expanded_in: 0 one 1 most 2 rest 3 foot 4 found 5 first 6 term -/
def b_expanded_in : S := (.cons (.par [2, 3, 4] (.cons (.idx (.var 0) (.cst (.int 0))) (.cons (.idx (.var 0) (.cst (.int 1))) (.cons (.lst .nil) .nil)))) (.cons (.set 5 (.idx (.var 3) (.cst (.int 0)))) (.cons (.whl (.and (.cmp .ne (.var 2) (.tup .nil)) (.cmp .le (.bin .sub (.idx (.idx (.var 2) (.cst (.int 0))) (.cst (.int 0))) (.idx (.var 5) (.cst (.int 0)))) (.var 1))) (.cons (.set 6 (.bin .add (.tup (.cons (.bin .sub (.idx (.idx (.var 2) (.cst (.int 0))) (.cst (.int 0))) (.idx (.var 5) (.cst (.int 0)))) .nil)) (.call 6 (.cons (.slc (.idx (.var 2) (.cst (.int 0))) (.cst (.int 1)) (.cst .non)) (.cons (.slc (.var 5) (.cst (.int 1)) (.cst .non)) .nil))))) (.cons (.app 4 (.var 6)) (.cons (.set 2 (.call 11 (.cons (.var 2) (.cons (.call 12 (.cons (.call 13 (.cons (.tup (.cons (.var 6) .nil)) (.cons (.var 3) .nil))) .nil)) .nil)))) (.cons (.set 2 (.call 18 (.cons (.var 2) (.cons (.bin .add (.var 1) (.idx (.idx (.var 3) (.neg (.cst (.int 1)))) (.cst (.int 0)))) .nil)))) .nil))))) (.cons (.ret (.blt1 .tuple (.var 4))) .nil))))
/-- expanded: 0 one 1 most -/
def b_expanded : S := (.cons (.drop (.call 16 (.cons (.var 0) .nil))) (.cons (.drop (.call 17 (.cons (.var 1) .nil))) (.cons (.ret (.call 20 (.cons (.var 0) (.cons (.var 1) .nil)))) .nil)))
/-- left_in: 0 one 1 terms 2 by 3 foot -/
def b_left_in : S := (.cons (.set 2 (.ite (.cmp .gt (.blt1 .len (.var 1)) (.cst (.int 0))) (.blt2 .max (.cst (.int 0)) (.neg (.idx (.idx (.var 1) (.cst (.int 0))) (.cst (.int 0))))) (.cst (.int 0)))) (.cons (.set 3 (.call 19 (.cons (.idx (.var 0) (.cst (.int 1))) (.cons (.var 2) .nil)))) (.cons (.ret (.tup (.cons (.call 11 (.cons (.call 19 (.cons (.idx (.var 0) (.cst (.int 0))) (.cons (.var 2) .nil))) (.cons (.call 12 (.cons (.call 13 (.cons (.call 19 (.cons (.var 1) (.cons (.var 2) .nil))) (.cons (.idx (.var 0) (.cst (.int 1))) .nil))) .nil)) .nil))) (.cons (.var 3) .nil)))) .nil)))
/-- size_of: 0 term -/
def b_size_of : S := (.cons (.ret (.tup (.cons (.blt1 .abs (.idx (.var 0) (.cst (.int 1)))) (.cons (.idx (.var 0) (.cst (.int 2))) .nil)))) .nil)
/-- greatest: 0 terms 1 found 2 term -/
def b_greatest : S := (.cons (.set 1 (.tup (.cons (.cst (.int 0)) (.cons (.cst (.int 1)) .nil)))) (.cons (.for_ (.v 2) (.walk (.var 0)) (.cons (.ite (.call 7 (.cons (.var 1) (.cons (.call 23 (.cons (.var 2) .nil)) .nil))) (.cons (.set 1 (.call 23 (.cons (.var 2) .nil))) .nil) .nil) .nil)) (.cons (.ret (.var 1)) .nil)))
/-- bound_in: 0 one 1 most 2 rest 3 foot 4 first 5 twice 6 below 7 size -/
def b_bound_in : S := (.cons (.sets (.t [2, 3]) (.call 22 (.cons (.var 0) (.cons (.call 20 (.cons (.var 0) (.cons (.var 1) .nil))) .nil)))) (.cons (.par [4, 5] (.cons (.call 23 (.cons (.idx (.var 3) (.cst (.int 0))) .nil)) (.cons (.call 5 (.cons (.tup (.cons (.cst (.int 2)) (.cons (.cst (.int 1)) .nil))) (.cons (.call 24 (.cons (.slc (.var 3) (.cst (.int 1)) (.cst .non)) .nil)) .nil))) .nil))) (.cons (.set 6 (.call 6 (.cons (.var 4) (.cons (.call 4 (.cons (.var 4) (.cons (.var 5) .nil))) .nil)))) (.cons (.ite (.not (.call 7 (.cons (.var 6) (.cons (.tup (.cons (.cst (.int 1)) (.cons (.cst (.int 2)) .nil))) .nil)))) (.cons (.set 6 (.tup (.cons (.cst (.int 1)) (.cons (.cst (.int 2)) .nil)))) .nil) .nil) (.cons (.ite (.cmp .eq (.var 2) (.tup .nil)) (.cons (.ret (.tup (.cons (.bin .add (.var 1) (.cst (.int 1))) (.cons (.tup (.cons (.cst (.int 0)) (.cons (.cst (.int 1)) .nil))) (.cons (.var 6) .nil))))) .nil) .nil) (.cons (.set 7 (.call 6 (.cons (.call 5 (.cons (.tup (.cons (.cst (.int 2)) (.cons (.cst (.int 1)) .nil))) (.cons (.call 4 (.cons (.call 23 (.cons (.idx (.var 2) (.cst (.int 0))) .nil)) (.cons (.call 24 (.cons (.slc (.var 2) (.cst (.int 1)) (.cst .non)) .nil)) .nil))) .nil))) (.cons (.var 4) .nil)))) (.cons (.ret (.tup (.cons (.bin .sub (.idx (.idx (.var 2) (.cst (.int 0))) (.cst (.int 0))) (.idx (.idx (.var 3) (.cst (.int 0))) (.cst (.int 0)))) (.cons (.var 7) (.cons (.var 6) .nil))))) .nil)))))))
/-- bound: 0 one 1 most -/
def b_bound : S := (.cons (.drop (.call 16 (.cons (.var 0) .nil))) (.cons (.drop (.call 17 (.cons (.var 1) .nil))) (.cons (.ret (.call 25 (.cons (.var 0) (.cons (.var 1) .nil)))) .nil)))
/-- _law_pen: 0 script 1 fold 2 cell -/
def b__law_pen : S := (.cons (.set 1 (.cst (.int 31))) (.cons (.for_ (.v 2) (.walk (.var 0)) (.cons (.set 1 (.bin .mod (.blt1 .int (.bin .add (.bin .mul (.var 1) (.cst (.int 67))) (.var 2))) (.cst (.int 1000000123)))) .nil)) (.cons (.ret (.cell [.inr "cells", .inr "at", .inr "digits", .inr "count", .inr "fold"] (.cons (.blt1 .list (.var 0)) (.cons (.cst (.int 0)) (.cons (.cst (.int 0)) (.cons (.cst (.int 0)) (.cons (.var 1) .nil))))))) .nil)))
/-- _law_draw: 0 pen 1 many 2 cell 3 digit 4 blend -/
def b__law_draw : S := (.cons (.put 0 (.cst (.str "count")) (.bin .add (.idx (.var 0) (.cst (.str "count"))) (.cst (.int 1)))) (.cons (.ite (.and (.cmp .eq (.idx (.var 0) (.cst (.str "digits"))) (.cst (.int 0))) (.cmp .lt (.idx (.var 0) (.cst (.str "at"))) (.blt1 .len (.idx (.var 0) (.cst (.str "cells")))))) (.cons (.set 2 (.idx (.idx (.var 0) (.cst (.str "cells"))) (.idx (.var 0) (.cst (.str "at"))))) (.cons (.put 0 (.cst (.str "at")) (.bin .add (.idx (.var 0) (.cst (.str "at"))) (.cst (.int 1)))) (.cons (.ite (.cmp .ge (.var 2) (.bin .pow (.cst (.int 10)) (.cst (.int 18)))) (.cons (.put 0 (.cst (.str "digits")) (.bin .sub (.var 2) (.bin .pow (.cst (.int 10)) (.cst (.int 18))))) .nil) (.cons (.put 0 (.cst (.str "fold")) (.bin .mod (.blt1 .int (.bin .add (.bin .mul (.idx (.var 0) (.cst (.str "fold"))) (.cst (.int 80021))) (.var 2))) (.cst (.int 2147483549)))) .nil)) .nil))) .nil) (.cons (.ite (.cmp .gt (.idx (.var 0) (.cst (.str "digits"))) (.cst (.int 0))) (.cons (.set 3 (.bin .mod (.blt1 .int (.idx (.var 0) (.cst (.str "digits")))) (.var 1))) (.cons (.put 0 (.cst (.str "digits")) (.bin .fdiv (.idx (.var 0) (.cst (.str "digits"))) (.var 1))) (.cons (.ret (.var 3)) .nil))) .nil) (.cons (.set 4 (.bin .add (.bin .add (.idx (.var 0) (.cst (.str "fold"))) (.bin .mul (.idx (.var 0) (.cst (.str "count"))) (.cst (.int 9001)))) (.cst (.int 97)))) (.cons (.ret (.bin .mod (.bin .fdiv (.blt1 .int (.bin .mod (.bin .pow (.var 4) (.cst (.int 17))) (.cst (.int 2305843009213693951)))) (.cst (.int 512))) (.var 1))) .nil)))))
/-- _law_pick: 0 pen 1 some -/
def b__law_pick : S := (.cons (.ret (.idx (.var 1) (.call 28 (.cons (.var 0) (.cons (.blt1 .len (.var 1)) .nil))))) .nil)
/-- _law_gcd: 0 one 1 two -/
def b__law_gcd : S := (.cons (.par [0, 1] (.cons (.blt1 .abs (.var 0)) (.cons (.blt1 .abs (.var 1)) .nil))) (.cons (.whl (.cmp .ne (.var 1) (.cst (.int 0))) (.cons (.par [0, 1] (.cons (.var 1) (.cons (.bin .mod (.var 0) (.var 1)) .nil))) .nil)) (.cons (.ret (.var 0)) .nil)))
/-- _law_part: 0 top 1 bottom 2 shared -/
def b__law_part : S := (.cons (.set 2 (.call 30 (.cons (.var 0) (.cons (.var 1) .nil)))) (.cons (.set 2 (.ite (.cmp .gt (.var 1) (.cst (.int 0))) (.var 2) (.neg (.var 2)))) (.cons (.ret (.tup (.cons (.bin .fdiv (.var 0) (.var 2)) (.cons (.bin .fdiv (.var 1) (.var 2)) .nil)))) .nil)))
/-- _law_add: 0 one 1 two -/
def b__law_add : S := (.cons (.ret (.call 31 (.cons (.bin .add (.bin .mul (.idx (.var 0) (.cst (.int 0))) (.idx (.var 1) (.cst (.int 1)))) (.bin .mul (.idx (.var 1) (.cst (.int 0))) (.idx (.var 0) (.cst (.int 1))))) (.cons (.bin .mul (.idx (.var 0) (.cst (.int 1))) (.idx (.var 1) (.cst (.int 1)))) .nil)))) .nil)
/-- _law_by: 0 one 1 two -/
def b__law_by : S := (.cons (.ret (.call 31 (.cons (.bin .mul (.idx (.var 0) (.cst (.int 0))) (.idx (.var 1) (.cst (.int 0)))) (.cons (.bin .mul (.idx (.var 0) (.cst (.int 1))) (.idx (.var 1) (.cst (.int 1)))) .nil)))) .nil)
/-- _law_over: 0 one 1 two -/
def b__law_over : S := (.cons (.ret (.call 31 (.cons (.bin .mul (.idx (.var 0) (.cst (.int 0))) (.idx (.var 1) (.cst (.int 1)))) (.cons (.bin .mul (.idx (.var 0) (.cst (.int 1))) (.idx (.var 1) (.cst (.int 0)))) .nil)))) .nil)
/-- _law_is_less: 0 one 1 two -/
def b__law_is_less : S := (.cons (.ret (.cmp .lt (.bin .mul (.idx (.var 0) (.cst (.int 0))) (.idx (.var 1) (.cst (.int 1)))) (.bin .mul (.idx (.var 1) (.cst (.int 0))) (.idx (.var 0) (.cst (.int 1)))))) .nil)
/-- _law_worth_of: 0 known 1 order -/
def b__law_worth_of : S := (.cons (.ret (.blt1 .tuple (.comp [1] (.v 1) (.walk (.blt1 .sorted (.var 0))) .nil (.bin .add (.tup (.cons (.var 1) .nil)) (.idx (.var 0) (.var 1)))))) .nil)
/-- _law_known: 0 terms 1 order 2 top 3 bottom -/
def b__law_known : S := (.cons (.ret (.dcp (.comp [1, 2, 3] (.t [1, 2, 3]) (.walk (.var 0)) .nil (.tup (.cons (.var 1) (.cons (.tup (.cons (.var 2) (.cons (.var 3) .nil))) .nil)))))) .nil)
/-- _law_add_to: 0 known 1 order 2 part 3 left -/
def b__law_add_to : S := (.cons (.set 3 (.call 32 (.cons (.get (.var 0) (.var 1) (.tup (.cons (.cst (.int 0)) (.cons (.cst (.int 1)) .nil)))) (.cons (.var 2) .nil)))) (.cons (.ite (.cmp .eq (.idx (.var 3) (.cst (.int 0))) (.cst (.int 0))) (.cons (.drop (.pop (.var 0) (.var 1) (.cst .non))) .nil) (.cons (.put 0 (.var 1) (.var 3)) .nil)) .nil))
/-- _law_series_sum: 0 one 1 two 2 way 3 found 4 order -/
def b__law_series_sum : S := (.cons (.set 3 (.dcp (.var 0))) (.cons (.lock (.var 1) (.for_ (.v 4) (.walk (.var 1)) (.cons (.drop (.call 38 (.cons (.var 3) (.cons (.var 4) (.cons (.tup (.cons (.bin .mul (.var 2) (.idx (.idx (.var 1) (.var 4)) (.cst (.int 0)))) (.cons (.idx (.idx (.var 1) (.var 4)) (.cst (.int 1))) .nil))) .nil))))) .nil))) (.cons (.ret (.var 3)) .nil)))
/-- _law_series_product: 0 one 1 two 2 found 3 k 4 j -/
def b__law_series_product : S := (.cons (.set 2 .dnew) (.cons (.lock (.var 0) (.for_ (.v 3) (.walk (.var 0)) (.cons (.lock (.var 1) (.for_ (.v 4) (.walk (.var 1)) (.cons (.drop (.call 38 (.cons (.var 2) (.cons (.bin .add (.var 3) (.var 4)) (.cons (.call 33 (.cons (.idx (.var 0) (.var 3)) (.cons (.idx (.var 1) (.var 4)) .nil))) .nil))))) .nil))) .nil))) (.cons (.ret (.var 2)) .nil)))
/-- _law_expand: 0 top 1 bottom 2 most 3 found 4 first 5 order 6 left 7 j 8 part -/
def b__law_expand : S := (.cons (.set 3 .dnew) (.cons (.ite (.cmp .eq (.var 0) .dnew) (.cons (.ret (.var 3)) .nil) .nil) (.cons (.set 4 (.blt1 .min (.var 1))) (.cons (.for_ (.v 5) (.rng2 (.bin .sub (.blt1 .min (.var 0)) (.var 4)) (.bin .add (.var 2) (.cst (.int 1)))) (.cons (.set 6 (.get (.var 0) (.bin .add (.var 5) (.var 4)) (.tup (.cons (.cst (.int 0)) (.cons (.cst (.int 1)) .nil))))) (.cons (.lock (.var 1) (.for_ (.v 7) (.walk (.var 1)) (.cons (.ite (.and (.cmp .ne (.var 7) (.var 4)) (.cmp .in_ (.bin .sub (.bin .add (.var 5) (.var 4)) (.var 7)) (.var 3))) (.cons (.set 8 (.call 33 (.cons (.idx (.var 1) (.var 7)) (.cons (.idx (.var 3) (.bin .sub (.bin .add (.var 5) (.var 4)) (.var 7))) .nil)))) (.cons (.set 6 (.call 32 (.cons (.var 6) (.cons (.tup (.cons (.neg (.idx (.var 8) (.cst (.int 0)))) (.cons (.idx (.var 8) (.cst (.int 1))) .nil))) .nil)))) .nil)) .nil) .nil))) (.cons (.ite (.cmp .ne (.idx (.var 6) (.cst (.int 0))) (.cst (.int 0))) (.cons (.put 3 (.var 5) (.call 34 (.cons (.var 6) (.cons (.idx (.var 1) (.var 4)) .nil)))) .nil) .nil) .nil)))) (.cons (.ret (.var 3)) .nil)))))
/-- _law_left_of: 0 top 1 bottom 2 terms 3 by 4 foot 5 up 6 taken 7 order -/
def b__law_left_of : S := (.cons (.set 3 (.blt1 .max (.bin .add (.lst (.cons (.cst (.int 0)) .nil)) (.lck (.var 2) (.comp [7] (.v 7) (.walk (.var 2)) .nil (.neg (.var 7))))))) (.cons (.set 4 (.dcp (.lck (.var 1) (.comp [7] (.v 7) (.walk (.var 1)) .nil (.tup (.cons (.bin .add (.var 7) (.var 3)) (.cons (.idx (.var 1) (.var 7)) .nil))))))) (.cons (.set 5 (.dcp (.lck (.var 0) (.comp [7] (.v 7) (.walk (.var 0)) .nil (.tup (.cons (.bin .add (.var 7) (.var 3)) (.cons (.idx (.var 0) (.var 7)) .nil))))))) (.cons (.set 6 (.dcp (.lck (.var 2) (.comp [7] (.v 7) (.walk (.var 2)) .nil (.tup (.cons (.bin .add (.var 7) (.var 3)) (.cons (.idx (.var 2) (.var 7)) .nil))))))) (.cons (.ret (.tup (.cons (.call 39 (.cons (.var 5) (.cons (.call 40 (.cons (.var 6) (.cons (.var 1) .nil))) (.cons (.neg (.cst (.int 1))) .nil)))) (.cons (.var 4) .nil)))) .nil)))))
/-- _law_bound: 0 top 1 bottom 2 most 3 rest 4 foot 5 sizes 6 known 7 orders 8 great 9 order 10 below 11 size -/
def b__law_bound : S := (.cons (.sets (.t [3, 4]) (.call 42 (.cons (.var 0) (.cons (.var 1) (.cons (.call 41 (.cons (.var 0) (.cons (.var 1) (.cons (.var 2) .nil)))) .nil))))) (.cons (.set 5 (.lst .nil)) (.cons (.for_ (.v 6) (.walk (.bin .add (.lst (.cons (.var 4) .nil)) (.ite (.cmp .ne (.var 3) .dnew) (.lst (.cons (.var 3) .nil)) (.lst .nil)))) (.cons (.par [7, 8] (.cons (.blt1 .sorted (.var 6)) (.cons (.tup (.cons (.cst (.int 0)) (.cons (.cst (.int 1)) .nil))) .nil))) (.cons (.for_ (.v 9) (.walk (.slc (.var 7) (.cst (.int 1)) (.cst .non))) (.cons (.ite (.call 35 (.cons (.var 8) (.cons (.tup (.cons (.blt1 .abs (.idx (.idx (.var 6) (.var 9)) (.cst (.int 0)))) (.cons (.idx (.idx (.var 6) (.var 9)) (.cst (.int 1))) .nil))) .nil))) (.cons (.set 8 (.tup (.cons (.blt1 .abs (.idx (.idx (.var 6) (.var 9)) (.cst (.int 0)))) (.cons (.idx (.idx (.var 6) (.var 9)) (.cst (.int 1))) .nil)))) .nil) .nil) .nil)) (.cons (.app 5 (.lst (.cons (.tup (.cons (.blt1 .abs (.idx (.idx (.var 6) (.idx (.var 7) (.cst (.int 0)))) (.cst (.int 0)))) (.cons (.idx (.idx (.var 6) (.idx (.var 7) (.cst (.int 0)))) (.cst (.int 1))) .nil))) (.cons (.var 8) .nil)))) .nil)))) (.cons (.set 10 (.call 34 (.cons (.idx (.idx (.var 5) (.cst (.int 0))) (.cst (.int 0))) (.cons (.call 32 (.cons (.idx (.idx (.var 5) (.cst (.int 0))) (.cst (.int 0))) (.cons (.call 33 (.cons (.tup (.cons (.cst (.int 2)) (.cons (.cst (.int 1)) .nil))) (.cons (.idx (.idx (.var 5) (.cst (.int 0))) (.cst (.int 1))) .nil))) .nil))) .nil)))) (.cons (.set 10 (.ite (.call 35 (.cons (.var 10) (.cons (.tup (.cons (.cst (.int 1)) (.cons (.cst (.int 2)) .nil))) .nil))) (.var 10) (.tup (.cons (.cst (.int 1)) (.cons (.cst (.int 2)) .nil))))) (.cons (.ite (.cmp .eq (.var 3) .dnew) (.cons (.ret (.tup (.cons (.bin .add (.var 2) (.cst (.int 1))) (.cons (.tup (.cons (.cst (.int 0)) (.cons (.cst (.int 1)) .nil))) (.cons (.var 10) .nil))))) .nil) .nil) (.cons (.set 11 (.call 34 (.cons (.call 33 (.cons (.tup (.cons (.cst (.int 2)) (.cons (.cst (.int 1)) .nil))) (.cons (.call 32 (.cons (.idx (.idx (.var 5) (.cst (.int 1))) (.cst (.int 0))) (.cons (.idx (.idx (.var 5) (.cst (.int 1))) (.cst (.int 1))) .nil))) .nil))) (.cons (.idx (.idx (.var 5) (.cst (.int 0))) (.cst (.int 0))) .nil)))) (.cons (.ret (.tup (.cons (.bin .sub (.blt1 .min (.var 3)) (.blt1 .min (.var 4))) (.cons (.var 11) (.cons (.var 10) .nil))))) .nil))))))))
/-- _law_value: 0 known 1 number 2 found 3 order 4 part 5 lap -/
def b__law_value : S := (.cons (.set 2 (.tup (.cons (.cst (.int 0)) (.cons (.cst (.int 1)) .nil)))) (.cons (.lock (.var 0) (.for_ (.v 3) (.walk (.var 0)) (.cons (.set 4 (.idx (.var 0) (.var 3))) (.cons (.for_ (.v 5) (.rng1 (.blt1 .abs (.var 3))) (.cons (.set 4 (.ite (.cmp .gt (.var 3) (.cst (.int 0))) (.call 33 (.cons (.var 4) (.cons (.var 1) .nil))) (.call 34 (.cons (.var 4) (.cons (.var 1) .nil))))) .nil)) (.cons (.set 2 (.call 32 (.cons (.var 2) (.cons (.var 4) .nil)))) .nil))))) (.cons (.ret (.var 2)) .nil)))
/-- _law_tiny_worth: 0 pen 1 many 2 most 3 is_above 4 known 5 lap 6 number 7 order -/
def b__law_tiny_worth : S := (.cons (.set 4 .dnew) (.cons (.for_ (.v 5) (.rng1 (.bin .add (.cst (.int 1)) (.call 28 (.cons (.var 0) (.cons (.var 1) .nil))))) (.cons (.set 6 (.call 29 (.cons (.var 0) (.cons (.lst (.cons (.cst (.int 1)) (.cons (.cst (.int 1)) (.cons (.cst (.int 2)) (.cons (.cst (.int 3)) (.cons (.cst (.int 4)) (.cons (.neg (.cst (.int 1))) (.cons (.neg (.cst (.int 2))) (.cons (.neg (.cst (.int 3))) .nil))))))))) .nil)))) (.cons (.put 4 (.call 28 (.cons (.var 0) (.cons (.bin .add (.var 2) (.cst (.int 1))) .nil))) (.call 31 (.cons (.var 6) (.cons (.bin .add (.cst (.int 1)) (.call 28 (.cons (.var 0) (.cons (.cst (.int 2)) .nil)))) .nil)))) .nil))) (.cons (.ite (.and (.var 3) (.cmp .lt (.idx (.idx (.var 4) (.blt1 .min (.var 4))) (.cst (.int 0))) (.cst (.int 0)))) (.cons (.set 4 (.dcp (.lck (.var 4) (.comp [7] (.v 7) (.walk (.var 4)) .nil (.tup (.cons (.var 7) (.cons (.tup (.cons (.neg (.idx (.idx (.var 4) (.var 7)) (.cst (.int 0)))) (.cons (.idx (.idx (.var 4) (.var 7)) (.cst (.int 1))) .nil))) .nil))))))) .nil) .nil) (.cons (.ret (.var 4)) .nil))))
/-- _law_small_worth: 0 pen 1 many 2 most 3 is_above 4 known 5 lap 6 number 7 order -/
def b__law_small_worth : S := (.cons (.set 4 .dnew) (.cons (.for_ (.v 5) (.rng1 (.bin .add (.cst (.int 1)) (.call 28 (.cons (.var 0) (.cons (.var 1) .nil))))) (.cons (.set 6 (.bin .add (.cst (.int 1)) (.call 28 (.cons (.var 0) (.cons (.call 29 (.cons (.var 0) (.cons (.lst (.cons (.cst (.int 3)) (.cons (.cst (.int 9)) (.cons (.cst (.int 99)) .nil)))) .nil))) .nil))))) (.cons (.set 6 (.ite (.cmp .eq (.call 28 (.cons (.var 0) (.cons (.cst (.int 3)) .nil))) (.cst (.int 0))) (.neg (.var 6)) (.var 6))) (.cons (.put 4 (.call 28 (.cons (.var 0) (.cons (.bin .add (.var 2) (.cst (.int 1))) .nil))) (.call 31 (.cons (.var 6) (.cons (.bin .add (.cst (.int 1)) (.call 28 (.cons (.var 0) (.cons (.call 29 (.cons (.var 0) (.cons (.lst (.cons (.cst (.int 1)) (.cons (.cst (.int 1)) (.cons (.cst (.int 4)) (.cons (.cst (.int 99)) .nil))))) .nil))) .nil)))) .nil)))) .nil)))) (.cons (.ite (.and (.var 3) (.cmp .lt (.idx (.idx (.var 4) (.blt1 .min (.var 4))) (.cst (.int 0))) (.cst (.int 0)))) (.cons (.set 4 (.dcp (.lck (.var 4) (.comp [7] (.v 7) (.walk (.var 4)) .nil (.tup (.cons (.var 7) (.cons (.tup (.cons (.neg (.idx (.idx (.var 4) (.var 7)) (.cst (.int 0)))) (.cons (.idx (.idx (.var 4) (.var 7)) (.cst (.int 1))) .nil))) .nil))))))) .nil) .nil) (.cons (.ret (.var 4)) .nil))))
/-- _law_power_of: 0 number 1 times 2 found 3 lap -/
def b__law_power_of : S := (.cons (.set 2 (.tup (.cons (.cst (.int 1)) (.cons (.cst (.int 1)) .nil)))) (.cons (.for_ (.v 3) (.rng1 (.blt1 .abs (.var 1))) (.cons (.set 2 (.ite (.cmp .gt (.var 1) (.cst (.int 0))) (.call 33 (.cons (.var 2) (.cons (.var 0) .nil))) (.call 34 (.cons (.var 2) (.cons (.var 0) .nil))))) .nil)) (.cons (.ret (.var 2)) .nil)))
/-- law: 0 script 1 pen 2 lap 3 bottom 4 top 5 one 6 begin 7 turn 8 most 9 told 10 terms 11 order 12 size 13 below 14 part 15 number 16 value 17 less 18 left 19 most_left -/
def b_law : S := (.cons (.set 1 (.call 27 (.cons (.var 0) .nil))) (.cons (.for_ (.v 2) (.rng1 (.cst (.int 4))) (.cons (.set 3 (.call 46 (.cons (.var 1) (.cons (.cst (.int 4)) (.cons (.cst (.int 6)) (.cons (.cst (.bl true)) .nil)))))) (.cons (.set 4 (.call 46 (.cons (.var 1) (.cons (.cst (.int 4)) (.cons (.cst (.int 6)) (.cons (.cst (.bl false)) .nil)))))) (.cons (.ite (.cmp .eq (.call 28 (.cons (.var 1) (.cons (.cst (.int 4)) .nil))) (.cst (.int 0))) (.cons (.set 3 (.call 45 (.cons (.var 1) (.cons (.cst (.int 3)) (.cons (.cst (.int 6)) (.cons (.cst (.bl true)) .nil)))))) (.cons (.set 4 (.call 40 (.cons (.call 45 (.cons (.var 1) (.cons (.cst (.int 2)) (.cons (.cst (.int 3)) (.cons (.cst (.bl false)) .nil))))) (.cons (.var 3) .nil)))) .nil)) .nil) (.cons (.par [5, 6] (.cons (.tup (.cons (.call 36 (.cons (.var 4) .nil)) (.cons (.call 36 (.cons (.var 3) .nil)) .nil))) (.cons (.bin .sub (.blt1 .min (.var 4)) (.blt1 .min (.var 3))) .nil))) (.cons (.for_ (.v 7) (.rng1 (.cst (.int 2))) (.cons (.set 8 (.bin .add (.bin .sub (.var 6) (.cst (.int 1))) (.call 28 (.cons (.var 1) (.cons (.cst (.int 9)) .nil))))) (.cons (.par [9, 10] (.cons (.call 26 (.cons (.var 5) (.cons (.var 8) .nil))) (.cons (.call 37 (.cons (.call 21 (.cons (.var 5) (.cons (.var 8) .nil))) .nil)) .nil))) (.cons (.ite (.cmp .ne (.blt1 .repr (.var 9)) (.blt1 .repr (.call 43 (.cons (.var 4) (.cons (.var 3) (.cons (.var 8) .nil)))))) (.cons (.ret (.cst (.bl false))) .nil) .nil) (.cons (.sets (.t [11, 12, 13]) (.var 9)) (.cons (.ite (.or (.cmp .le (.var 11) (.var 8)) (.or (.cmp .le (.idx (.var 13) (.cst (.int 0))) (.cst (.int 0))) (.call 35 (.cons (.tup (.cons (.cst (.int 1)) (.cons (.cst (.int 2)) .nil))) (.cons (.var 13) .nil))))) (.cons (.ret (.cst (.bl false))) .nil) .nil) (.cons (.for_ (.v 14) (.walk (.lst (.cons (.tup (.cons (.cst (.int 1)) (.cons (.cst (.int 1)) .nil))) (.cons (.call 31 (.cons (.bin .add (.cst (.int 1)) (.call 28 (.cons (.var 1) (.cons (.cst (.int 40)) .nil)))) (.cons (.cst (.int 41)) .nil))) (.cons (.tup (.cons (.cst (.int 1)) (.cons (.bin .pow (.cst (.int 10)) (.cst (.int 4))) .nil))) .nil))))) (.cons (.set 15 (.call 33 (.cons (.var 13) (.cons (.var 14) .nil)))) (.cons (.set 16 (.call 34 (.cons (.call 44 (.cons (.var 4) (.cons (.var 15) .nil))) (.cons (.call 44 (.cons (.var 3) (.cons (.var 15) .nil))) .nil)))) (.cons (.set 17 (.call 44 (.cons (.var 10) (.cons (.var 15) .nil)))) (.cons (.set 18 (.call 32 (.cons (.var 16) (.cons (.tup (.cons (.neg (.idx (.var 17) (.cst (.int 0)))) (.cons (.idx (.var 17) (.cst (.int 1))) .nil))) .nil)))) (.cons (.set 19 (.call 33 (.cons (.var 12) (.cons (.call 47 (.cons (.var 15) (.cons (.var 11) .nil))) .nil)))) (.cons (.ite (.call 35 (.cons (.var 19) (.cons (.tup (.cons (.blt1 .abs (.idx (.var 18) (.cst (.int 0)))) (.cons (.idx (.var 18) (.cst (.int 1))) .nil))) .nil))) (.cons (.ret (.cst (.bl false))) .nil) .nil) .nil))))))) .nil))))))) .nil)))))) (.cons (.ret (.cst (.bl true))) .nil)))
def prog (fuel : Nat) : Prog := {
  fns := [⟨1, 1, b_is_whole⟩, ⟨1, 1, b_is_count⟩, ⟨1, 2, b_is_fraction⟩, ⟨2, 3, b_fraction_of⟩, ⟨2, 2, b_added⟩, ⟨2, 2, b_multiplied⟩, ⟨2, 2, b_divided⟩, ⟨2, 2, b_is_less⟩, ⟨1, 1, b_is_term⟩, ⟨1, 4, b_is_worth⟩, ⟨1, 5, b_summed⟩, ⟨2, 2, b_sum_of⟩, ⟨1, 4, b_negative⟩, ⟨2, 8, b_product_of⟩, ⟨1, 1, b_sign_of⟩, ⟨1, 1, b_is_quotient⟩, ⟨1, 1, b_need_quotient⟩, ⟨1, 1, b_need_most⟩, ⟨2, 3, b_cut_off⟩, ⟨2, 5, b_shifted⟩, ⟨2, 7, b_expanded_in⟩, ⟨2, 2, b_expanded⟩, ⟨2, 4, b_left_in⟩, ⟨1, 1, b_size_of⟩, ⟨1, 3, b_greatest⟩, ⟨2, 8, b_bound_in⟩, ⟨2, 2, b_bound⟩, ⟨1, 3, b__law_pen⟩, ⟨2, 5, b__law_draw⟩, ⟨2, 2, b__law_pick⟩, ⟨2, 2, b__law_gcd⟩, ⟨2, 3, b__law_part⟩, ⟨2, 2, b__law_add⟩, ⟨2, 2, b__law_by⟩, ⟨2, 2, b__law_over⟩, ⟨2, 2, b__law_is_less⟩, ⟨1, 2, b__law_worth_of⟩, ⟨1, 4, b__law_known⟩, ⟨3, 4, b__law_add_to⟩, ⟨3, 5, b__law_series_sum⟩, ⟨2, 5, b__law_series_product⟩, ⟨3, 9, b__law_expand⟩, ⟨3, 8, b__law_left_of⟩, ⟨3, 12, b__law_bound⟩, ⟨2, 6, b__law_value⟩, ⟨4, 8, b__law_tiny_worth⟩, ⟨4, 8, b__law_small_worth⟩, ⟨2, 4, b__law_power_of⟩, ⟨1, 20, b_law⟩],
  gl := [],
  sub := fun a b => [(0, 0), (1, 1), (1, 0), (2, 2), (2, 0)].contains (a, b),
  eqf := fun c => ([] : List (Nat × Nat)).lookup c,
  fuel := fuel }
def lawF : Nat := 48
end Pr
end R

/-! the facts of a law's head, as prog_ok asks for them -/
namespace My
open PySem PySem.Spec PyProof.Rows L2 R
def sg : Sg := ⟨(["is_whole", "is_count", "is_fraction", "fraction_of", "added", "multiplied", "divided", "is_less", "is_term", "is_worth", "summed", "sum_of", "negative", "product_of", "sign_of", "is_quotient", "need_quotient", "need_most", "cut_off", "shifted", "expanded_in", "expanded", "left_in", "size_of", "greatest"] : List Str) ++ (["bound_in", "bound", "_law_pen", "_law_draw", "_law_pick", "_law_gcd", "_law_part", "_law_add", "_law_by", "_law_over", "_law_is_less", "_law_worth_of", "_law_known", "_law_add_to", "_law_series_sum", "_law_series_product", "_law_expand", "_law_left_of", "_law_bound", "_law_value", "_law_tiny_worth", "_law_small_worth", "_law_power_of", "law"] : List Str), [("RareError", ([] : List Str)), ("BadNumber", (["what", "number"] : List Str)), ("BadWorth", (["worth"] : List Str))], ([] : List Str), true, [], [0, 1, 2]⟩
abbrev Pw : Prog := R.Pr.prog 100000
def tb (K : PySem.W.Frag) : Tb := ⟨K, fun c => none, fun c => if c = 1 then some (He.ga K "BadNumber", (["what", "number"] : List Str)) else if c = 2 then some (He.ga K "BadWorth", (["worth"] : List Str)) else none⟩
section
variable {K : PySem.W.Frag}
theorem fit_0 : fitB sg Pw.sub ⟨1, 1, Pr.b_is_whole⟩ (top 5) ((["value"] : List Str)) ["value"] = true := by
  decide +kernel
theorem df_0 (c : He.SaysD fa fn K) : ∃ (fd : FuncData), Def K sg Pw 0 (He.ga K "is_whole") fd ["value"] ∧ PySem.W.keepIn K (.ref (He.ga K "is_whole")) = true := by
  obtain ⟨fd, F⟩ := c.def_ 2 (d := dF "is_whole" 5) rfl
  exact ⟨fd, ⟨"is_whole", "is_whole", (top 5), _, _, rfl, F, fit_0, F.bindsN fun _ _ _ _ _ _ us hl => match us, hl with | [_], _ => rfl⟩, F.kp⟩
theorem fit_1 : fitB sg Pw.sub ⟨1, 1, Pr.b_is_count⟩ (top 6) ((["value"] : List Str)) ["value"] = true := by
  decide +kernel
theorem df_1 (c : He.SaysD fa fn K) : ∃ (fd : FuncData), Def K sg Pw 1 (He.ga K "is_count") fd ["value"] ∧ PySem.W.keepIn K (.ref (He.ga K "is_count")) = true := by
  obtain ⟨fd, F⟩ := c.def_ 3 (d := dF "is_count" 6) rfl
  exact ⟨fd, ⟨"is_count", "is_count", (top 6), _, _, rfl, F, fit_1, F.bindsN fun _ _ _ _ _ _ us hl => match us, hl with | [_], _ => rfl⟩, F.kp⟩
theorem fit_2 : fitB sg Pw.sub ⟨1, 2, Pr.b_is_fraction⟩ (top 8) ((["value", "item"] : List Str)) ["value"] = true := by
  decide +kernel
theorem df_2 (c : He.SaysD fa fn K) : ∃ (fd : FuncData), Def K sg Pw 2 (He.ga K "is_fraction") fd ["value"] ∧ PySem.W.keepIn K (.ref (He.ga K "is_fraction")) = true := by
  obtain ⟨fd, F⟩ := c.def_ 4 (d := dF "is_fraction" 8) rfl
  exact ⟨fd, ⟨"is_fraction", "is_fraction", (top 8), _, _, rfl, F, fit_2, F.bindsN fun _ _ _ _ _ _ us hl => match us, hl with | [_], _ => rfl⟩, F.kp⟩
theorem fit_3 : fitB sg Pw.sub ⟨2, 3, Pr.b_fraction_of⟩ (top 9) ((["top", "bottom", "shared"] : List Str)) ["top", "bottom"] = true := by
  decide +kernel
theorem df_3 (c : He.SaysD fa fn K) : ∃ (fd : FuncData), Def K sg Pw 3 (He.ga K "fraction_of") fd ["top", "bottom"] ∧ PySem.W.keepIn K (.ref (He.ga K "fraction_of")) = true := by
  obtain ⟨fd, F⟩ := c.def_ 5 (d := dF "fraction_of" 9) rfl
  exact ⟨fd, ⟨"fraction_of", "fraction_of", (top 9), _, _, rfl, F, fit_3, F.bindsN fun _ _ _ _ _ _ us hl => match us, hl with | [_, _], _ => rfl⟩, F.kp⟩
theorem fit_4 : fitB sg Pw.sub ⟨2, 2, Pr.b_added⟩ (top 10) ((["first", "second"] : List Str)) ["first", "second"] = true := by
  decide +kernel
theorem df_4 (c : He.SaysD fa fn K) : ∃ (fd : FuncData), Def K sg Pw 4 (He.ga K "added") fd ["first", "second"] ∧ PySem.W.keepIn K (.ref (He.ga K "added")) = true := by
  obtain ⟨fd, F⟩ := c.def_ 6 (d := dF "added" 10) rfl
  exact ⟨fd, ⟨"added", "added", (top 10), _, _, rfl, F, fit_4, F.bindsN fun _ _ _ _ _ _ us hl => match us, hl with | [_, _], _ => rfl⟩, F.kp⟩
theorem fit_5 : fitB sg Pw.sub ⟨2, 2, Pr.b_multiplied⟩ (top 11) ((["first", "second"] : List Str)) ["first", "second"] = true := by
  decide +kernel
theorem df_5 (c : He.SaysD fa fn K) : ∃ (fd : FuncData), Def K sg Pw 5 (He.ga K "multiplied") fd ["first", "second"] ∧ PySem.W.keepIn K (.ref (He.ga K "multiplied")) = true := by
  obtain ⟨fd, F⟩ := c.def_ 7 (d := dF "multiplied" 11) rfl
  exact ⟨fd, ⟨"multiplied", "multiplied", (top 11), _, _, rfl, F, fit_5, F.bindsN fun _ _ _ _ _ _ us hl => match us, hl with | [_, _], _ => rfl⟩, F.kp⟩
theorem fit_6 : fitB sg Pw.sub ⟨2, 2, Pr.b_divided⟩ (top 12) ((["first", "second"] : List Str)) ["first", "second"] = true := by
  decide +kernel
theorem df_6 (c : He.SaysD fa fn K) : ∃ (fd : FuncData), Def K sg Pw 6 (He.ga K "divided") fd ["first", "second"] ∧ PySem.W.keepIn K (.ref (He.ga K "divided")) = true := by
  obtain ⟨fd, F⟩ := c.def_ 8 (d := dF "divided" 12) rfl
  exact ⟨fd, ⟨"divided", "divided", (top 12), _, _, rfl, F, fit_6, F.bindsN fun _ _ _ _ _ _ us hl => match us, hl with | [_, _], _ => rfl⟩, F.kp⟩
theorem fit_7 : fitB sg Pw.sub ⟨2, 2, Pr.b_is_less⟩ (top 13) ((["first", "second"] : List Str)) ["first", "second"] = true := by
  decide +kernel
theorem df_7 (c : He.SaysD fa fn K) : ∃ (fd : FuncData), Def K sg Pw 7 (He.ga K "is_less") fd ["first", "second"] ∧ PySem.W.keepIn K (.ref (He.ga K "is_less")) = true := by
  obtain ⟨fd, F⟩ := c.def_ 9 (d := dF "is_less" 13) rfl
  exact ⟨fd, ⟨"is_less", "is_less", (top 13), _, _, rfl, F, fit_7, F.bindsN fun _ _ _ _ _ _ us hl => match us, hl with | [_, _], _ => rfl⟩, F.kp⟩
theorem fit_8 : fitB sg Pw.sub ⟨1, 1, Pr.b_is_term⟩ (top 14) ((["value"] : List Str)) ["value"] = true := by
  decide +kernel
theorem df_8 (c : He.SaysD fa fn K) : ∃ (fd : FuncData), Def K sg Pw 8 (He.ga K "is_term") fd ["value"] ∧ PySem.W.keepIn K (.ref (He.ga K "is_term")) = true := by
  obtain ⟨fd, F⟩ := c.def_ 10 (d := dF "is_term" 14) rfl
  exact ⟨fd, ⟨"is_term", "is_term", (top 14), _, _, rfl, F, fit_8, F.bindsN fun _ _ _ _ _ _ us hl => match us, hl with | [_], _ => rfl⟩, F.kp⟩
theorem fit_9 : fitB sg Pw.sub ⟨1, 4, Pr.b_is_worth⟩ (top 15) ((["value", "term", "one", "two"] : List Str)) ["value"] = true := by
  decide +kernel
theorem df_9 (c : He.SaysD fa fn K) : ∃ (fd : FuncData), Def K sg Pw 9 (He.ga K "is_worth") fd ["value"] ∧ PySem.W.keepIn K (.ref (He.ga K "is_worth")) = true := by
  obtain ⟨fd, F⟩ := c.def_ 11 (d := dF "is_worth" 15) rfl
  exact ⟨fd, ⟨"is_worth", "is_worth", (top 15), _, _, rfl, F, fit_9, F.bindsN fun _ _ _ _ _ _ us hl => match us, hl with | [_], _ => rfl⟩, F.kp⟩
theorem fit_10 : fitB sg Pw.sub ⟨1, 5, Pr.b_summed⟩ (top 16) ((["terms", "found", "order", "top", "bottom"] : List Str)) ["terms"] = true := by
  decide +kernel
theorem df_10 (c : He.SaysD fa fn K) : ∃ (fd : FuncData), Def K sg Pw 10 (He.ga K "summed") fd ["terms"] ∧ PySem.W.keepIn K (.ref (He.ga K "summed")) = true := by
  obtain ⟨fd, F⟩ := c.def_ 12 (d := dF "summed" 16) rfl
  exact ⟨fd, ⟨"summed", "summed", (top 16), _, _, rfl, F, fit_10, F.bindsN fun _ _ _ _ _ _ us hl => match us, hl with | [_], _ => rfl⟩, F.kp⟩
theorem fit_11 : fitB sg Pw.sub ⟨2, 2, Pr.b_sum_of⟩ (top 17) ((["first", "second"] : List Str)) ["first", "second"] = true := by
  decide +kernel
theorem df_11 (c : He.SaysD fa fn K) : ∃ (fd : FuncData), Def K sg Pw 11 (He.ga K "sum_of") fd ["first", "second"] ∧ PySem.W.keepIn K (.ref (He.ga K "sum_of")) = true := by
  obtain ⟨fd, F⟩ := c.def_ 13 (d := dF "sum_of" 17) rfl
  exact ⟨fd, ⟨"sum_of", "sum_of", (top 17), _, _, rfl, F, fit_11, F.bindsN fun _ _ _ _ _ _ us hl => match us, hl with | [_, _], _ => rfl⟩, F.kp⟩
theorem fit_12 : fitB sg Pw.sub ⟨1, 4, Pr.b_negative⟩ (top 18) ((["worth", "order", "top", "bottom"] : List Str)) ["worth"] = true := by
  decide +kernel
theorem df_12 (c : He.SaysD fa fn K) : ∃ (fd : FuncData), Def K sg Pw 12 (He.ga K "negative") fd ["worth"] ∧ PySem.W.keepIn K (.ref (He.ga K "negative")) = true := by
  obtain ⟨fd, F⟩ := c.def_ 14 (d := dF "negative" 18) rfl
  exact ⟨fd, ⟨"negative", "negative", (top 18), _, _, rfl, F, fit_12, F.bindsN fun _ _ _ _ _ _ us hl => match us, hl with | [_], _ => rfl⟩, F.kp⟩
theorem fit_13 : fitB sg Pw.sub ⟨2, 8, Pr.b_product_of⟩ (top 19) ((["first", "second", "k", "a", "b", "j", "c", "d"] : List Str)) ["first", "second"] = true := by
  decide +kernel
theorem df_13 (c : He.SaysD fa fn K) : ∃ (fd : FuncData), Def K sg Pw 13 (He.ga K "product_of") fd ["first", "second"] ∧ PySem.W.keepIn K (.ref (He.ga K "product_of")) = true := by
  obtain ⟨fd, F⟩ := c.def_ 15 (d := dF "product_of" 19) rfl
  exact ⟨fd, ⟨"product_of", "product_of", (top 19), _, _, rfl, F, fit_13, F.bindsN fun _ _ _ _ _ _ us hl => match us, hl with | [_, _], _ => rfl⟩, F.kp⟩
theorem fit_14 : fitB sg Pw.sub ⟨1, 1, Pr.b_sign_of⟩ (top 20) ((["worth"] : List Str)) ["worth"] = true := by
  decide +kernel
theorem df_14 (c : He.SaysD fa fn K) : ∃ (fd : FuncData), Def K sg Pw 14 (He.ga K "sign_of") fd ["worth"] ∧ PySem.W.keepIn K (.ref (He.ga K "sign_of")) = true := by
  obtain ⟨fd, F⟩ := c.def_ 16 (d := dF "sign_of" 20) rfl
  exact ⟨fd, ⟨"sign_of", "sign_of", (top 20), _, _, rfl, F, fit_14, F.bindsN fun _ _ _ _ _ _ us hl => match us, hl with | [_], _ => rfl⟩, F.kp⟩
theorem fit_15 : fitB sg Pw.sub ⟨1, 1, Pr.b_is_quotient⟩ (top 22) ((["value"] : List Str)) ["value"] = true := by
  decide +kernel
theorem df_15 (c : He.SaysD fa fn K) : ∃ (fd : FuncData), Def K sg Pw 15 (He.ga K "is_quotient") fd ["value"] ∧ PySem.W.keepIn K (.ref (He.ga K "is_quotient")) = true := by
  obtain ⟨fd, F⟩ := c.def_ 17 (d := dF "is_quotient" 22) rfl
  exact ⟨fd, ⟨"is_quotient", "is_quotient", (top 22), _, _, rfl, F, fit_15, F.bindsN fun _ _ _ _ _ _ us hl => match us, hl with | [_], _ => rfl⟩, F.kp⟩
theorem fit_16 : fitB sg Pw.sub ⟨1, 1, Pr.b_need_quotient⟩ (top 23) ((["value"] : List Str)) ["value"] = true := by
  decide +kernel
theorem df_16 (c : He.SaysD fa fn K) : ∃ (fd : FuncData), Def K sg Pw 16 (He.ga K "need_quotient") fd ["value"] ∧ PySem.W.keepIn K (.ref (He.ga K "need_quotient")) = true := by
  obtain ⟨fd, F⟩ := c.def_ 18 (d := dF "need_quotient" 23) rfl
  exact ⟨fd, ⟨"need_quotient", "need_quotient", (top 23), _, _, rfl, F, fit_16, F.bindsN fun _ _ _ _ _ _ us hl => match us, hl with | [_], _ => rfl⟩, F.kp⟩
theorem fit_17 : fitB sg Pw.sub ⟨1, 1, Pr.b_need_most⟩ (top 25) ((["most"] : List Str)) ["most"] = true := by
  decide +kernel
theorem df_17 (c : He.SaysD fa fn K) : ∃ (fd : FuncData), Def K sg Pw 17 (He.ga K "need_most") fd ["most"] ∧ PySem.W.keepIn K (.ref (He.ga K "need_most")) = true := by
  obtain ⟨fd, F⟩ := c.def_ 19 (d := dF "need_most" 25) rfl
  exact ⟨fd, ⟨"need_most", "need_most", (top 25), _, _, rfl, F, fit_17, F.bindsN fun _ _ _ _ _ _ us hl => match us, hl with | [_], _ => rfl⟩, F.kp⟩
theorem fit_18 : fitB sg Pw.sub ⟨2, 3, Pr.b_cut_off⟩ (top 26) ((["terms", "most", "term"] : List Str)) ["terms", "most"] = true := by
  decide +kernel
theorem df_18 (c : He.SaysD fa fn K) : ∃ (fd : FuncData), Def K sg Pw 18 (He.ga K "cut_off") fd ["terms", "most"] ∧ PySem.W.keepIn K (.ref (He.ga K "cut_off")) = true := by
  obtain ⟨fd, F⟩ := c.def_ 20 (d := dF "cut_off" 26) rfl
  exact ⟨fd, ⟨"cut_off", "cut_off", (top 26), _, _, rfl, F, fit_18, F.bindsN fun _ _ _ _ _ _ us hl => match us, hl with | [_, _], _ => rfl⟩, F.kp⟩
theorem fit_19 : fitB sg Pw.sub ⟨2, 5, Pr.b_shifted⟩ (top 27) ((["terms", "by", "order", "top", "bottom"] : List Str)) ["terms", "by"] = true := by
  decide +kernel
theorem df_19 (c : He.SaysD fa fn K) : ∃ (fd : FuncData), Def K sg Pw 19 (He.ga K "shifted") fd ["terms", "by"] ∧ PySem.W.keepIn K (.ref (He.ga K "shifted")) = true := by
  obtain ⟨fd, F⟩ := c.def_ 21 (d := dF "shifted" 27) rfl
  exact ⟨fd, ⟨"shifted", "shifted", (top 27), _, _, rfl, F, fit_19, F.bindsN fun _ _ _ _ _ _ us hl => match us, hl with | [_, _], _ => rfl⟩, F.kp⟩
theorem fit_20 : fitB sg Pw.sub ⟨2, 7, Pr.b_expanded_in⟩ (top 28) ((["one", "most", "rest", "foot", "found", "first", "term"] : List Str)) ["one", "most"] = true := by
  decide +kernel
theorem df_20 (c : He.SaysD fa fn K) : ∃ (fd : FuncData), Def K sg Pw 20 (He.ga K "expanded_in") fd ["one", "most"] ∧ PySem.W.keepIn K (.ref (He.ga K "expanded_in")) = true := by
  obtain ⟨fd, F⟩ := c.def_ 22 (d := dF "expanded_in" 28) rfl
  exact ⟨fd, ⟨"expanded_in", "expanded_in", (top 28), _, _, rfl, F, fit_20, F.bindsN fun _ _ _ _ _ _ us hl => match us, hl with | [_, _], _ => rfl⟩, F.kp⟩
theorem fit_21 : fitB sg Pw.sub ⟨2, 2, Pr.b_expanded⟩ (top 29) ((["one", "most"] : List Str)) ["one", "most"] = true := by
  decide +kernel
theorem df_21 (c : He.SaysD fa fn K) : ∃ (fd : FuncData), Def K sg Pw 21 (He.ga K "expanded") fd ["one", "most"] ∧ PySem.W.keepIn K (.ref (He.ga K "expanded")) = true := by
  obtain ⟨fd, F⟩ := c.def_ 23 (d := dF "expanded" 29) rfl
  exact ⟨fd, ⟨"expanded", "expanded", (top 29), _, _, rfl, F, fit_21, F.bindsN fun _ _ _ _ _ _ us hl => match us, hl with | [_, _], _ => rfl⟩, F.kp⟩
theorem fit_22 : fitB sg Pw.sub ⟨2, 4, Pr.b_left_in⟩ (top 30) ((["one", "terms", "by", "foot"] : List Str)) ["one", "terms"] = true := by
  decide +kernel
theorem df_22 (c : He.SaysD fa fn K) : ∃ (fd : FuncData), Def K sg Pw 22 (He.ga K "left_in") fd ["one", "terms"] ∧ PySem.W.keepIn K (.ref (He.ga K "left_in")) = true := by
  obtain ⟨fd, F⟩ := c.def_ 24 (d := dF "left_in" 30) rfl
  exact ⟨fd, ⟨"left_in", "left_in", (top 30), _, _, rfl, F, fit_22, F.bindsN fun _ _ _ _ _ _ us hl => match us, hl with | [_, _], _ => rfl⟩, F.kp⟩
theorem fit_23 : fitB sg Pw.sub ⟨1, 1, Pr.b_size_of⟩ (top 31) ((["term"] : List Str)) ["term"] = true := by
  decide +kernel
theorem df_23 (c : He.SaysD fa fn K) : ∃ (fd : FuncData), Def K sg Pw 23 (He.ga K "size_of") fd ["term"] ∧ PySem.W.keepIn K (.ref (He.ga K "size_of")) = true := by
  obtain ⟨fd, F⟩ := c.def_ 25 (d := dF "size_of" 31) rfl
  exact ⟨fd, ⟨"size_of", "size_of", (top 31), _, _, rfl, F, fit_23, F.bindsN fun _ _ _ _ _ _ us hl => match us, hl with | [_], _ => rfl⟩, F.kp⟩
theorem fit_24 : fitB sg Pw.sub ⟨1, 3, Pr.b_greatest⟩ (top 32) ((["terms", "found", "term"] : List Str)) ["terms"] = true := by
  decide +kernel
theorem df_24 (c : He.SaysD fa fn K) : ∃ (fd : FuncData), Def K sg Pw 24 (He.ga K "greatest") fd ["terms"] ∧ PySem.W.keepIn K (.ref (He.ga K "greatest")) = true := by
  obtain ⟨fd, F⟩ := c.def_ 26 (d := dF "greatest" 32) rfl
  exact ⟨fd, ⟨"greatest", "greatest", (top 32), _, _, rfl, F, fit_24, F.bindsN fun _ _ _ _ _ _ us hl => match us, hl with | [_], _ => rfl⟩, F.kp⟩
theorem fit_25 : fitB sg Pw.sub ⟨2, 8, Pr.b_bound_in⟩ (top 33) ((["one", "most", "rest", "foot", "first", "twice", "below", "size"] : List Str)) ["one", "most"] = true := by
  decide +kernel
theorem df_25 (c : He.SaysD fa fn K) : ∃ (fd : FuncData), Def K sg Pw 25 (He.ga K "bound_in") fd ["one", "most"] ∧ PySem.W.keepIn K (.ref (He.ga K "bound_in")) = true := by
  obtain ⟨fd, F⟩ := c.def_ 27 (d := dF "bound_in" 33) rfl
  exact ⟨fd, ⟨"bound_in", "bound_in", (top 33), _, _, rfl, F, fit_25, F.bindsN fun _ _ _ _ _ _ us hl => match us, hl with | [_, _], _ => rfl⟩, F.kp⟩
theorem fit_26 : fitB sg Pw.sub ⟨2, 2, Pr.b_bound⟩ (top 34) ((["one", "most"] : List Str)) ["one", "most"] = true := by
  decide +kernel
theorem df_26 (c : He.SaysD fa fn K) : ∃ (fd : FuncData), Def K sg Pw 26 (He.ga K "bound") fd ["one", "most"] ∧ PySem.W.keepIn K (.ref (He.ga K "bound")) = true := by
  obtain ⟨fd, F⟩ := c.def_ 28 (d := dF "bound" 34) rfl
  exact ⟨fd, ⟨"bound", "bound", (top 34), _, _, rfl, F, fit_26, F.bindsN fun _ _ _ _ _ _ us hl => match us, hl with | [_, _], _ => rfl⟩, F.kp⟩
theorem fit_27 : fitB sg Pw.sub ⟨1, 3, Pr.b__law_pen⟩ (top 36) ((["script", "fold", "cell"] : List Str)) ["script"] = true := by
  decide +kernel
theorem df_27 (c : He.SaysD fa fn K) : ∃ (fd : FuncData), Def K sg Pw 27 (He.ga K "_law_pen") fd ["script"] ∧ PySem.W.keepIn K (.ref (He.ga K "_law_pen")) = true := by
  obtain ⟨fd, F⟩ := c.def_ 29 (d := dF "_law_pen" 36) rfl
  exact ⟨fd, ⟨"_law_pen", "_law_pen", (top 36), _, _, rfl, F, fit_27, F.bindsN fun _ _ _ _ _ _ us hl => match us, hl with | [_], _ => rfl⟩, F.kp⟩
theorem fit_28 : fitB sg Pw.sub ⟨2, 5, Pr.b__law_draw⟩ (top 37) ((["pen", "many", "cell", "digit", "blend"] : List Str)) ["pen", "many"] = true := by
  decide +kernel
theorem df_28 (c : He.SaysD fa fn K) : ∃ (fd : FuncData), Def K sg Pw 28 (He.ga K "_law_draw") fd ["pen", "many"] ∧ PySem.W.keepIn K (.ref (He.ga K "_law_draw")) = true := by
  obtain ⟨fd, F⟩ := c.def_ 30 (d := dF "_law_draw" 37) rfl
  exact ⟨fd, ⟨"_law_draw", "_law_draw", (top 37), _, _, rfl, F, fit_28, F.bindsN fun _ _ _ _ _ _ us hl => match us, hl with | [_, _], _ => rfl⟩, F.kp⟩
theorem fit_29 : fitB sg Pw.sub ⟨2, 2, Pr.b__law_pick⟩ (top 38) ((["pen", "some"] : List Str)) ["pen", "some"] = true := by
  decide +kernel
theorem df_29 (c : He.SaysD fa fn K) : ∃ (fd : FuncData), Def K sg Pw 29 (He.ga K "_law_pick") fd ["pen", "some"] ∧ PySem.W.keepIn K (.ref (He.ga K "_law_pick")) = true := by
  obtain ⟨fd, F⟩ := c.def_ 31 (d := dF "_law_pick" 38) rfl
  exact ⟨fd, ⟨"_law_pick", "_law_pick", (top 38), _, _, rfl, F, fit_29, F.bindsN fun _ _ _ _ _ _ us hl => match us, hl with | [_, _], _ => rfl⟩, F.kp⟩
theorem fit_30 : fitB sg Pw.sub ⟨2, 2, Pr.b__law_gcd⟩ (top 39) ((["one", "two"] : List Str)) ["one", "two"] = true := by
  decide +kernel
theorem df_30 (c : He.SaysD fa fn K) : ∃ (fd : FuncData), Def K sg Pw 30 (He.ga K "_law_gcd") fd ["one", "two"] ∧ PySem.W.keepIn K (.ref (He.ga K "_law_gcd")) = true := by
  obtain ⟨fd, F⟩ := c.def_ 32 (d := dF "_law_gcd" 39) rfl
  exact ⟨fd, ⟨"_law_gcd", "_law_gcd", (top 39), _, _, rfl, F, fit_30, F.bindsN fun _ _ _ _ _ _ us hl => match us, hl with | [_, _], _ => rfl⟩, F.kp⟩
theorem fit_31 : fitB sg Pw.sub ⟨2, 3, Pr.b__law_part⟩ (top 40) ((["top", "bottom", "shared"] : List Str)) ["top", "bottom"] = true := by
  decide +kernel
theorem df_31 (c : He.SaysD fa fn K) : ∃ (fd : FuncData), Def K sg Pw 31 (He.ga K "_law_part") fd ["top", "bottom"] ∧ PySem.W.keepIn K (.ref (He.ga K "_law_part")) = true := by
  obtain ⟨fd, F⟩ := c.def_ 33 (d := dF "_law_part" 40) rfl
  exact ⟨fd, ⟨"_law_part", "_law_part", (top 40), _, _, rfl, F, fit_31, F.bindsN fun _ _ _ _ _ _ us hl => match us, hl with | [_, _], _ => rfl⟩, F.kp⟩
theorem fit_32 : fitB sg Pw.sub ⟨2, 2, Pr.b__law_add⟩ (top 41) ((["one", "two"] : List Str)) ["one", "two"] = true := by
  decide +kernel
theorem df_32 (c : He.SaysD fa fn K) : ∃ (fd : FuncData), Def K sg Pw 32 (He.ga K "_law_add") fd ["one", "two"] ∧ PySem.W.keepIn K (.ref (He.ga K "_law_add")) = true := by
  obtain ⟨fd, F⟩ := c.def_ 34 (d := dF "_law_add" 41) rfl
  exact ⟨fd, ⟨"_law_add", "_law_add", (top 41), _, _, rfl, F, fit_32, F.bindsN fun _ _ _ _ _ _ us hl => match us, hl with | [_, _], _ => rfl⟩, F.kp⟩
theorem fit_33 : fitB sg Pw.sub ⟨2, 2, Pr.b__law_by⟩ (top 42) ((["one", "two"] : List Str)) ["one", "two"] = true := by
  decide +kernel
theorem df_33 (c : He.SaysD fa fn K) : ∃ (fd : FuncData), Def K sg Pw 33 (He.ga K "_law_by") fd ["one", "two"] ∧ PySem.W.keepIn K (.ref (He.ga K "_law_by")) = true := by
  obtain ⟨fd, F⟩ := c.def_ 35 (d := dF "_law_by" 42) rfl
  exact ⟨fd, ⟨"_law_by", "_law_by", (top 42), _, _, rfl, F, fit_33, F.bindsN fun _ _ _ _ _ _ us hl => match us, hl with | [_, _], _ => rfl⟩, F.kp⟩
theorem fit_34 : fitB sg Pw.sub ⟨2, 2, Pr.b__law_over⟩ (top 43) ((["one", "two"] : List Str)) ["one", "two"] = true := by
  decide +kernel
theorem df_34 (c : He.SaysD fa fn K) : ∃ (fd : FuncData), Def K sg Pw 34 (He.ga K "_law_over") fd ["one", "two"] ∧ PySem.W.keepIn K (.ref (He.ga K "_law_over")) = true := by
  obtain ⟨fd, F⟩ := c.def_ 36 (d := dF "_law_over" 43) rfl
  exact ⟨fd, ⟨"_law_over", "_law_over", (top 43), _, _, rfl, F, fit_34, F.bindsN fun _ _ _ _ _ _ us hl => match us, hl with | [_, _], _ => rfl⟩, F.kp⟩
theorem fit_35 : fitB sg Pw.sub ⟨2, 2, Pr.b__law_is_less⟩ (top 44) ((["one", "two"] : List Str)) ["one", "two"] = true := by
  decide +kernel
theorem df_35 (c : He.SaysD fa fn K) : ∃ (fd : FuncData), Def K sg Pw 35 (He.ga K "_law_is_less") fd ["one", "two"] ∧ PySem.W.keepIn K (.ref (He.ga K "_law_is_less")) = true := by
  obtain ⟨fd, F⟩ := c.def_ 37 (d := dF "_law_is_less" 44) rfl
  exact ⟨fd, ⟨"_law_is_less", "_law_is_less", (top 44), _, _, rfl, F, fit_35, F.bindsN fun _ _ _ _ _ _ us hl => match us, hl with | [_, _], _ => rfl⟩, F.kp⟩
theorem fit_36 : fitB sg Pw.sub ⟨1, 2, Pr.b__law_worth_of⟩ (top 45) ((["known", "order"] : List Str)) ["known"] = true := by
  decide +kernel
theorem df_36 (c : He.SaysD fa fn K) : ∃ (fd : FuncData), Def K sg Pw 36 (He.ga K "_law_worth_of") fd ["known"] ∧ PySem.W.keepIn K (.ref (He.ga K "_law_worth_of")) = true := by
  obtain ⟨fd, F⟩ := c.def_ 38 (d := dF "_law_worth_of" 45) rfl
  exact ⟨fd, ⟨"_law_worth_of", "_law_worth_of", (top 45), _, _, rfl, F, fit_36, F.bindsN fun _ _ _ _ _ _ us hl => match us, hl with | [_], _ => rfl⟩, F.kp⟩
theorem fit_37 : fitB sg Pw.sub ⟨1, 4, Pr.b__law_known⟩ (top 46) ((["terms", "order", "top", "bottom"] : List Str)) ["terms"] = true := by
  decide +kernel
theorem df_37 (c : He.SaysD fa fn K) : ∃ (fd : FuncData), Def K sg Pw 37 (He.ga K "_law_known") fd ["terms"] ∧ PySem.W.keepIn K (.ref (He.ga K "_law_known")) = true := by
  obtain ⟨fd, F⟩ := c.def_ 39 (d := dF "_law_known" 46) rfl
  exact ⟨fd, ⟨"_law_known", "_law_known", (top 46), _, _, rfl, F, fit_37, F.bindsN fun _ _ _ _ _ _ us hl => match us, hl with | [_], _ => rfl⟩, F.kp⟩
theorem fit_38 : fitB sg Pw.sub ⟨3, 4, Pr.b__law_add_to⟩ (top 47) ((["known", "order", "part", "left"] : List Str)) ["known", "order", "part"] = true := by
  decide +kernel
theorem df_38 (c : He.SaysD fa fn K) : ∃ (fd : FuncData), Def K sg Pw 38 (He.ga K "_law_add_to") fd ["known", "order", "part"] ∧ PySem.W.keepIn K (.ref (He.ga K "_law_add_to")) = true := by
  obtain ⟨fd, F⟩ := c.def_ 40 (d := dF "_law_add_to" 47) rfl
  exact ⟨fd, ⟨"_law_add_to", "_law_add_to", (top 47), _, _, rfl, F, fit_38, F.bindsN fun _ _ _ _ _ _ us hl => match us, hl with | [_, _, _], _ => rfl⟩, F.kp⟩
theorem fit_39 : fitB sg Pw.sub ⟨3, 5, Pr.b__law_series_sum⟩ (top 48) ((["one", "two", "way", "found", "order"] : List Str)) ["one", "two", "way"] = true := by
  decide +kernel
theorem df_39 (c : He.SaysD fa fn K) : ∃ (fd : FuncData), Def K sg Pw 39 (He.ga K "_law_series_sum") fd ["one", "two", "way"] ∧ PySem.W.keepIn K (.ref (He.ga K "_law_series_sum")) = true := by
  obtain ⟨fd, F⟩ := c.def_ 41 (d := dF "_law_series_sum" 48) rfl
  exact ⟨fd, ⟨"_law_series_sum", "_law_series_sum", (top 48), _, _, rfl, F, fit_39, F.bindsN fun _ _ _ _ _ _ us hl => match us, hl with | [_, _, _], _ => rfl⟩, F.kp⟩
theorem fit_40 : fitB sg Pw.sub ⟨2, 5, Pr.b__law_series_product⟩ (top 49) ((["one", "two", "found", "k", "j"] : List Str)) ["one", "two"] = true := by
  decide +kernel
theorem df_40 (c : He.SaysD fa fn K) : ∃ (fd : FuncData), Def K sg Pw 40 (He.ga K "_law_series_product") fd ["one", "two"] ∧ PySem.W.keepIn K (.ref (He.ga K "_law_series_product")) = true := by
  obtain ⟨fd, F⟩ := c.def_ 42 (d := dF "_law_series_product" 49) rfl
  exact ⟨fd, ⟨"_law_series_product", "_law_series_product", (top 49), _, _, rfl, F, fit_40, F.bindsN fun _ _ _ _ _ _ us hl => match us, hl with | [_, _], _ => rfl⟩, F.kp⟩
theorem fit_41 : fitB sg Pw.sub ⟨3, 9, Pr.b__law_expand⟩ (top 50) ((["top", "bottom", "most", "found", "first", "order", "left", "j", "part"] : List Str)) ["top", "bottom", "most"] = true := by
  decide +kernel
theorem df_41 (c : He.SaysD fa fn K) : ∃ (fd : FuncData), Def K sg Pw 41 (He.ga K "_law_expand") fd ["top", "bottom", "most"] ∧ PySem.W.keepIn K (.ref (He.ga K "_law_expand")) = true := by
  obtain ⟨fd, F⟩ := c.def_ 43 (d := dF "_law_expand" 50) rfl
  exact ⟨fd, ⟨"_law_expand", "_law_expand", (top 50), _, _, rfl, F, fit_41, F.bindsN fun _ _ _ _ _ _ us hl => match us, hl with | [_, _, _], _ => rfl⟩, F.kp⟩
theorem fit_42 : fitB sg Pw.sub ⟨3, 8, Pr.b__law_left_of⟩ (top 51) ((["top", "bottom", "terms", "by", "foot", "up", "taken", "order"] : List Str)) ["top", "bottom", "terms"] = true := by
  decide +kernel
theorem df_42 (c : He.SaysD fa fn K) : ∃ (fd : FuncData), Def K sg Pw 42 (He.ga K "_law_left_of") fd ["top", "bottom", "terms"] ∧ PySem.W.keepIn K (.ref (He.ga K "_law_left_of")) = true := by
  obtain ⟨fd, F⟩ := c.def_ 44 (d := dF "_law_left_of" 51) rfl
  exact ⟨fd, ⟨"_law_left_of", "_law_left_of", (top 51), _, _, rfl, F, fit_42, F.bindsN fun _ _ _ _ _ _ us hl => match us, hl with | [_, _, _], _ => rfl⟩, F.kp⟩
theorem fit_43 : fitB sg Pw.sub ⟨3, 12, Pr.b__law_bound⟩ (top 52) ((["top", "bottom", "most", "rest", "foot", "sizes", "known", "orders", "great", "order", "below", "size"] : List Str)) ["top", "bottom", "most"] = true := by
  decide +kernel
theorem df_43 (c : He.SaysD fa fn K) : ∃ (fd : FuncData), Def K sg Pw 43 (He.ga K "_law_bound") fd ["top", "bottom", "most"] ∧ PySem.W.keepIn K (.ref (He.ga K "_law_bound")) = true := by
  obtain ⟨fd, F⟩ := c.def_ 45 (d := dF "_law_bound" 52) rfl
  exact ⟨fd, ⟨"_law_bound", "_law_bound", (top 52), _, _, rfl, F, fit_43, F.bindsN fun _ _ _ _ _ _ us hl => match us, hl with | [_, _, _], _ => rfl⟩, F.kp⟩
theorem fit_44 : fitB sg Pw.sub ⟨2, 6, Pr.b__law_value⟩ (top 53) ((["known", "number", "found", "order", "part", "lap"] : List Str)) ["known", "number"] = true := by
  decide +kernel
theorem df_44 (c : He.SaysD fa fn K) : ∃ (fd : FuncData), Def K sg Pw 44 (He.ga K "_law_value") fd ["known", "number"] ∧ PySem.W.keepIn K (.ref (He.ga K "_law_value")) = true := by
  obtain ⟨fd, F⟩ := c.def_ 46 (d := dF "_law_value" 53) rfl
  exact ⟨fd, ⟨"_law_value", "_law_value", (top 53), _, _, rfl, F, fit_44, F.bindsN fun _ _ _ _ _ _ us hl => match us, hl with | [_, _], _ => rfl⟩, F.kp⟩
theorem fit_45 : fitB sg Pw.sub ⟨4, 8, Pr.b__law_tiny_worth⟩ (top 54) ((["pen", "many", "most", "is_above", "known", "lap", "number", "order"] : List Str)) ["pen", "many", "most", "is_above"] = true := by
  decide +kernel
theorem df_45 (c : He.SaysD fa fn K) : ∃ (fd : FuncData), Def K sg Pw 45 (He.ga K "_law_tiny_worth") fd ["pen", "many", "most", "is_above"] ∧ PySem.W.keepIn K (.ref (He.ga K "_law_tiny_worth")) = true := by
  obtain ⟨fd, F⟩ := c.def_ 47 (d := dF "_law_tiny_worth" 54) rfl
  exact ⟨fd, ⟨"_law_tiny_worth", "_law_tiny_worth", (top 54), _, _, rfl, F, fit_45, F.bindsN fun _ _ _ _ _ _ us hl => match us, hl with | [_, _, _, _], _ => rfl⟩, F.kp⟩
theorem fit_46 : fitB sg Pw.sub ⟨4, 8, Pr.b__law_small_worth⟩ (top 55) ((["pen", "many", "most", "is_above", "known", "lap", "number", "order"] : List Str)) ["pen", "many", "most", "is_above"] = true := by
  decide +kernel
theorem df_46 (c : He.SaysD fa fn K) : ∃ (fd : FuncData), Def K sg Pw 46 (He.ga K "_law_small_worth") fd ["pen", "many", "most", "is_above"] ∧ PySem.W.keepIn K (.ref (He.ga K "_law_small_worth")) = true := by
  obtain ⟨fd, F⟩ := c.def_ 48 (d := dF "_law_small_worth" 55) rfl
  exact ⟨fd, ⟨"_law_small_worth", "_law_small_worth", (top 55), _, _, rfl, F, fit_46, F.bindsN fun _ _ _ _ _ _ us hl => match us, hl with | [_, _, _, _], _ => rfl⟩, F.kp⟩
theorem fit_47 : fitB sg Pw.sub ⟨2, 4, Pr.b__law_power_of⟩ (top 56) ((["number", "times", "found", "lap"] : List Str)) ["number", "times"] = true := by
  decide +kernel
theorem df_47 (c : He.SaysD fa fn K) : ∃ (fd : FuncData), Def K sg Pw 47 (He.ga K "_law_power_of") fd ["number", "times"] ∧ PySem.W.keepIn K (.ref (He.ga K "_law_power_of")) = true := by
  obtain ⟨fd, F⟩ := c.def_ 49 (d := dF "_law_power_of" 56) rfl
  exact ⟨fd, ⟨"_law_power_of", "_law_power_of", (top 56), _, _, rfl, F, fit_47, F.bindsN fun _ _ _ _ _ _ us hl => match us, hl with | [_, _], _ => rfl⟩, F.kp⟩
theorem fit_48 : fitB sg Pw.sub ⟨1, 20, Pr.b_law⟩ (top 57) ((["script", "pen", "lap", "bottom", "top", "one", "begin", "turn", "most", "told", "terms", "order", "size", "below", "part", "number", "value", "less", "left", "most_left"] : List Str)) ["script"] = true := by
  decide +kernel
theorem df_48 (c : He.SaysD fa fn K) : ∃ (fd : FuncData), Def K sg Pw 48 (He.ga K "law") fd ["script"] ∧ PySem.W.keepIn K (.ref (He.ga K "law")) = true := by
  obtain ⟨fd, F⟩ := c.def_ 50 (d := dF "law" 57) rfl
  exact ⟨fd, ⟨"law", "law", (top 57), _, _, rfl, F, fit_48, F.bindsN fun _ _ _ _ _ _ us hl => match us, hl with | [_], _ => rfl⟩, F.kp⟩
theorem ib_BadNumber : initB2 (inClass (top 3) 0) "self" "what" "what" "number" "number" = true := by
  decide +kernel
theorem ib_BadWorth : initB (inClass (top 4) 0) "self" "worth" "worth" = true := by
  decide +kernel
variable {Pm : Program} {w : World} {mg : Str → Option Value} {h : Heap}
theorem tx (X : K.In h) (G : h.Ns mainGlobals mg) (c : He.SaysD fa fn K) (cx : (fx.all fun f => f.ok K) = true) : TX Pm w K mg (tb K) sg Pw := by
  have fxa : ∀ (i : Nat) (f : Fx), fx[i]? = some f → f.ok K = true := fun i f hf => List.all_eq_true.mp cx f (List.mem_of_getElem? hf)
  refine { hK := rfl, bi := ?bi, gcd := ?gcd, gl := ?gl, fns := ?fns, ins := ?ins, insAll := ?insAll, mkC := ?mkC, eqF := ?eqF, ins2 := ?ins2, exn := ?exn, exc := ?exc, han := ?han }
  case bi =>
    intro b hb
    simp only [biNames, List.mem_cons, List.not_mem_nil, or_false] at hb
    rcases hb with rfl | rfl | rfl | rfl | rfl | rfl | rfl | rfl | rfl | rfl | rfl | rfl | rfl | rfl | rfl | rfl | rfl | rfl | rfl
    · exact He.free_ok X G (c.fact 49 (f := .free "len") rfl)
    · exact He.free_ok X G (c.fact 51 (f := .free "all") rfl)
    · exact He.free_ok X G (c.fact 62 (f := .free "any") rfl)
    · exact He.free_ok X G (c.fact 52 (f := .free "tuple") rfl)
    · exact He.free_ok X G (c.fact 53 (f := .free "list") rfl)
    · exact He.free_ok X G (c.fact 56 (f := .free "repr") rfl)
    · exact He.free_ok X G (c.fact 57 (f := .free "abs") rfl)
    · exact He.free_ok X G (c.fact 58 (f := .free "int") rfl)
    · exact He.free_ok X G (c.fact 65 (f := .free "max") rfl)
    · exact He.free_ok X G (c.fact 64 (f := .free "min") rfl)
    · exact He.free_ok X G (c.fact 63 (f := .free "sum") rfl)
    · exact He.free_ok X G (c.fact 66 (f := .free "sorted") rfl)
    · exact He.free_ok X G (c.fact 61 (f := .free "dict") rfl)
    · exact He.free_ok X G (c.fact 60 (f := .free "str") rfl)
    · exact He.free_ok X G (c.fact 59 (f := .free "bool") rfl)
    · exact He.free_ok X G (c.fact 54 (f := .free "range") rfl)
    · exact He.free_ok X G (c.fact 55 (f := .free "zip") rfl)
    · exact He.free_ok X G (c.fact 67 (f := .free "enumerate") rfl)
    · exact He.free_ok X G (c.fact 50 (f := .free "isinstance") rfl)
  case gcd => exact fun _ => gcd_ok X G (fxa 5 .gcd rfl)
  case gl =>
    intro g x d h1 h2
    cases (show (none : Option Str) = some x from h1)
  case fns =>
    intro f x h1 h2
    match f, h1 with
    | 0, h1 =>
      obtain rfl : ("is_whole" : Str) = x := Option.some.inj (show some ("is_whole" : Str) = some x from h1)
      obtain ⟨fd, d, k⟩ := df_0 (K := K) c
      exact ⟨_, fd, _, He.glo_ok X G (c.fact 0 (f := .glo "is_whole") rfl), k, d⟩
    | 1, h1 =>
      obtain rfl : ("is_count" : Str) = x := Option.some.inj (show some ("is_count" : Str) = some x from h1)
      obtain ⟨fd, d, k⟩ := df_1 (K := K) c
      exact ⟨_, fd, _, He.glo_ok X G (c.fact 1 (f := .glo "is_count") rfl), k, d⟩
    | 2, h1 =>
      obtain rfl : ("is_fraction" : Str) = x := Option.some.inj (show some ("is_fraction" : Str) = some x from h1)
      obtain ⟨fd, d, k⟩ := df_2 (K := K) c
      exact ⟨_, fd, _, He.glo_ok X G (c.fact 2 (f := .glo "is_fraction") rfl), k, d⟩
    | 3, h1 =>
      obtain rfl : ("fraction_of" : Str) = x := Option.some.inj (show some ("fraction_of" : Str) = some x from h1)
      obtain ⟨fd, d, k⟩ := df_3 (K := K) c
      exact ⟨_, fd, _, He.glo_ok X G (c.fact 3 (f := .glo "fraction_of") rfl), k, d⟩
    | 4, h1 =>
      obtain rfl : ("added" : Str) = x := Option.some.inj (show some ("added" : Str) = some x from h1)
      obtain ⟨fd, d, k⟩ := df_4 (K := K) c
      exact ⟨_, fd, _, He.glo_ok X G (c.fact 4 (f := .glo "added") rfl), k, d⟩
    | 5, h1 =>
      obtain rfl : ("multiplied" : Str) = x := Option.some.inj (show some ("multiplied" : Str) = some x from h1)
      obtain ⟨fd, d, k⟩ := df_5 (K := K) c
      exact ⟨_, fd, _, He.glo_ok X G (c.fact 5 (f := .glo "multiplied") rfl), k, d⟩
    | 6, h1 =>
      obtain rfl : ("divided" : Str) = x := Option.some.inj (show some ("divided" : Str) = some x from h1)
      obtain ⟨fd, d, k⟩ := df_6 (K := K) c
      exact ⟨_, fd, _, He.glo_ok X G (c.fact 6 (f := .glo "divided") rfl), k, d⟩
    | 7, h1 =>
      obtain rfl : ("is_less" : Str) = x := Option.some.inj (show some ("is_less" : Str) = some x from h1)
      obtain ⟨fd, d, k⟩ := df_7 (K := K) c
      exact ⟨_, fd, _, He.glo_ok X G (c.fact 7 (f := .glo "is_less") rfl), k, d⟩
    | 8, h1 =>
      obtain rfl : ("is_term" : Str) = x := Option.some.inj (show some ("is_term" : Str) = some x from h1)
      obtain ⟨fd, d, k⟩ := df_8 (K := K) c
      exact ⟨_, fd, _, He.glo_ok X G (c.fact 8 (f := .glo "is_term") rfl), k, d⟩
    | 9, h1 =>
      obtain rfl : ("is_worth" : Str) = x := Option.some.inj (show some ("is_worth" : Str) = some x from h1)
      obtain ⟨fd, d, k⟩ := df_9 (K := K) c
      exact ⟨_, fd, _, He.glo_ok X G (c.fact 9 (f := .glo "is_worth") rfl), k, d⟩
    | 10, h1 =>
      obtain rfl : ("summed" : Str) = x := Option.some.inj (show some ("summed" : Str) = some x from h1)
      obtain ⟨fd, d, k⟩ := df_10 (K := K) c
      exact ⟨_, fd, _, He.glo_ok X G (c.fact 10 (f := .glo "summed") rfl), k, d⟩
    | 11, h1 =>
      obtain rfl : ("sum_of" : Str) = x := Option.some.inj (show some ("sum_of" : Str) = some x from h1)
      obtain ⟨fd, d, k⟩ := df_11 (K := K) c
      exact ⟨_, fd, _, He.glo_ok X G (c.fact 11 (f := .glo "sum_of") rfl), k, d⟩
    | 12, h1 =>
      obtain rfl : ("negative" : Str) = x := Option.some.inj (show some ("negative" : Str) = some x from h1)
      obtain ⟨fd, d, k⟩ := df_12 (K := K) c
      exact ⟨_, fd, _, He.glo_ok X G (c.fact 12 (f := .glo "negative") rfl), k, d⟩
    | 13, h1 =>
      obtain rfl : ("product_of" : Str) = x := Option.some.inj (show some ("product_of" : Str) = some x from h1)
      obtain ⟨fd, d, k⟩ := df_13 (K := K) c
      exact ⟨_, fd, _, He.glo_ok X G (c.fact 13 (f := .glo "product_of") rfl), k, d⟩
    | 14, h1 =>
      obtain rfl : ("sign_of" : Str) = x := Option.some.inj (show some ("sign_of" : Str) = some x from h1)
      obtain ⟨fd, d, k⟩ := df_14 (K := K) c
      exact ⟨_, fd, _, He.glo_ok X G (c.fact 14 (f := .glo "sign_of") rfl), k, d⟩
    | 15, h1 =>
      obtain rfl : ("is_quotient" : Str) = x := Option.some.inj (show some ("is_quotient" : Str) = some x from h1)
      obtain ⟨fd, d, k⟩ := df_15 (K := K) c
      exact ⟨_, fd, _, He.glo_ok X G (c.fact 15 (f := .glo "is_quotient") rfl), k, d⟩
    | 16, h1 =>
      obtain rfl : ("need_quotient" : Str) = x := Option.some.inj (show some ("need_quotient" : Str) = some x from h1)
      obtain ⟨fd, d, k⟩ := df_16 (K := K) c
      exact ⟨_, fd, _, He.glo_ok X G (c.fact 16 (f := .glo "need_quotient") rfl), k, d⟩
    | 17, h1 =>
      obtain rfl : ("need_most" : Str) = x := Option.some.inj (show some ("need_most" : Str) = some x from h1)
      obtain ⟨fd, d, k⟩ := df_17 (K := K) c
      exact ⟨_, fd, _, He.glo_ok X G (c.fact 17 (f := .glo "need_most") rfl), k, d⟩
    | 18, h1 =>
      obtain rfl : ("cut_off" : Str) = x := Option.some.inj (show some ("cut_off" : Str) = some x from h1)
      obtain ⟨fd, d, k⟩ := df_18 (K := K) c
      exact ⟨_, fd, _, He.glo_ok X G (c.fact 18 (f := .glo "cut_off") rfl), k, d⟩
    | 19, h1 =>
      obtain rfl : ("shifted" : Str) = x := Option.some.inj (show some ("shifted" : Str) = some x from h1)
      obtain ⟨fd, d, k⟩ := df_19 (K := K) c
      exact ⟨_, fd, _, He.glo_ok X G (c.fact 19 (f := .glo "shifted") rfl), k, d⟩
    | 20, h1 =>
      obtain rfl : ("expanded_in" : Str) = x := Option.some.inj (show some ("expanded_in" : Str) = some x from h1)
      obtain ⟨fd, d, k⟩ := df_20 (K := K) c
      exact ⟨_, fd, _, He.glo_ok X G (c.fact 20 (f := .glo "expanded_in") rfl), k, d⟩
    | 21, h1 =>
      obtain rfl : ("expanded" : Str) = x := Option.some.inj (show some ("expanded" : Str) = some x from h1)
      obtain ⟨fd, d, k⟩ := df_21 (K := K) c
      exact ⟨_, fd, _, He.glo_ok X G (c.fact 21 (f := .glo "expanded") rfl), k, d⟩
    | 22, h1 =>
      obtain rfl : ("left_in" : Str) = x := Option.some.inj (show some ("left_in" : Str) = some x from h1)
      obtain ⟨fd, d, k⟩ := df_22 (K := K) c
      exact ⟨_, fd, _, He.glo_ok X G (c.fact 22 (f := .glo "left_in") rfl), k, d⟩
    | 23, h1 =>
      obtain rfl : ("size_of" : Str) = x := Option.some.inj (show some ("size_of" : Str) = some x from h1)
      obtain ⟨fd, d, k⟩ := df_23 (K := K) c
      exact ⟨_, fd, _, He.glo_ok X G (c.fact 23 (f := .glo "size_of") rfl), k, d⟩
    | 24, h1 =>
      obtain rfl : ("greatest" : Str) = x := Option.some.inj (show some ("greatest" : Str) = some x from h1)
      obtain ⟨fd, d, k⟩ := df_24 (K := K) c
      exact ⟨_, fd, _, He.glo_ok X G (c.fact 24 (f := .glo "greatest") rfl), k, d⟩
    | 25, h1 =>
      obtain rfl : ("bound_in" : Str) = x := Option.some.inj (show some ("bound_in" : Str) = some x from h1)
      obtain ⟨fd, d, k⟩ := df_25 (K := K) c
      exact ⟨_, fd, _, He.glo_ok X G (c.fact 25 (f := .glo "bound_in") rfl), k, d⟩
    | 26, h1 =>
      obtain rfl : ("bound" : Str) = x := Option.some.inj (show some ("bound" : Str) = some x from h1)
      obtain ⟨fd, d, k⟩ := df_26 (K := K) c
      exact ⟨_, fd, _, He.glo_ok X G (c.fact 26 (f := .glo "bound") rfl), k, d⟩
    | 27, h1 =>
      obtain rfl : ("_law_pen" : Str) = x := Option.some.inj (show some ("_law_pen" : Str) = some x from h1)
      obtain ⟨fd, d, k⟩ := df_27 (K := K) c
      exact ⟨_, fd, _, He.glo_ok X G (c.fact 27 (f := .glo "_law_pen") rfl), k, d⟩
    | 28, h1 =>
      obtain rfl : ("_law_draw" : Str) = x := Option.some.inj (show some ("_law_draw" : Str) = some x from h1)
      obtain ⟨fd, d, k⟩ := df_28 (K := K) c
      exact ⟨_, fd, _, He.glo_ok X G (c.fact 28 (f := .glo "_law_draw") rfl), k, d⟩
    | 29, h1 =>
      obtain rfl : ("_law_pick" : Str) = x := Option.some.inj (show some ("_law_pick" : Str) = some x from h1)
      obtain ⟨fd, d, k⟩ := df_29 (K := K) c
      exact ⟨_, fd, _, He.glo_ok X G (c.fact 29 (f := .glo "_law_pick") rfl), k, d⟩
    | 30, h1 =>
      obtain rfl : ("_law_gcd" : Str) = x := Option.some.inj (show some ("_law_gcd" : Str) = some x from h1)
      obtain ⟨fd, d, k⟩ := df_30 (K := K) c
      exact ⟨_, fd, _, He.glo_ok X G (c.fact 30 (f := .glo "_law_gcd") rfl), k, d⟩
    | 31, h1 =>
      obtain rfl : ("_law_part" : Str) = x := Option.some.inj (show some ("_law_part" : Str) = some x from h1)
      obtain ⟨fd, d, k⟩ := df_31 (K := K) c
      exact ⟨_, fd, _, He.glo_ok X G (c.fact 31 (f := .glo "_law_part") rfl), k, d⟩
    | 32, h1 =>
      obtain rfl : ("_law_add" : Str) = x := Option.some.inj (show some ("_law_add" : Str) = some x from h1)
      obtain ⟨fd, d, k⟩ := df_32 (K := K) c
      exact ⟨_, fd, _, He.glo_ok X G (c.fact 32 (f := .glo "_law_add") rfl), k, d⟩
    | 33, h1 =>
      obtain rfl : ("_law_by" : Str) = x := Option.some.inj (show some ("_law_by" : Str) = some x from h1)
      obtain ⟨fd, d, k⟩ := df_33 (K := K) c
      exact ⟨_, fd, _, He.glo_ok X G (c.fact 33 (f := .glo "_law_by") rfl), k, d⟩
    | 34, h1 =>
      obtain rfl : ("_law_over" : Str) = x := Option.some.inj (show some ("_law_over" : Str) = some x from h1)
      obtain ⟨fd, d, k⟩ := df_34 (K := K) c
      exact ⟨_, fd, _, He.glo_ok X G (c.fact 34 (f := .glo "_law_over") rfl), k, d⟩
    | 35, h1 =>
      obtain rfl : ("_law_is_less" : Str) = x := Option.some.inj (show some ("_law_is_less" : Str) = some x from h1)
      obtain ⟨fd, d, k⟩ := df_35 (K := K) c
      exact ⟨_, fd, _, He.glo_ok X G (c.fact 35 (f := .glo "_law_is_less") rfl), k, d⟩
    | 36, h1 =>
      obtain rfl : ("_law_worth_of" : Str) = x := Option.some.inj (show some ("_law_worth_of" : Str) = some x from h1)
      obtain ⟨fd, d, k⟩ := df_36 (K := K) c
      exact ⟨_, fd, _, He.glo_ok X G (c.fact 36 (f := .glo "_law_worth_of") rfl), k, d⟩
    | 37, h1 =>
      obtain rfl : ("_law_known" : Str) = x := Option.some.inj (show some ("_law_known" : Str) = some x from h1)
      obtain ⟨fd, d, k⟩ := df_37 (K := K) c
      exact ⟨_, fd, _, He.glo_ok X G (c.fact 37 (f := .glo "_law_known") rfl), k, d⟩
    | 38, h1 =>
      obtain rfl : ("_law_add_to" : Str) = x := Option.some.inj (show some ("_law_add_to" : Str) = some x from h1)
      obtain ⟨fd, d, k⟩ := df_38 (K := K) c
      exact ⟨_, fd, _, He.glo_ok X G (c.fact 38 (f := .glo "_law_add_to") rfl), k, d⟩
    | 39, h1 =>
      obtain rfl : ("_law_series_sum" : Str) = x := Option.some.inj (show some ("_law_series_sum" : Str) = some x from h1)
      obtain ⟨fd, d, k⟩ := df_39 (K := K) c
      exact ⟨_, fd, _, He.glo_ok X G (c.fact 39 (f := .glo "_law_series_sum") rfl), k, d⟩
    | 40, h1 =>
      obtain rfl : ("_law_series_product" : Str) = x := Option.some.inj (show some ("_law_series_product" : Str) = some x from h1)
      obtain ⟨fd, d, k⟩ := df_40 (K := K) c
      exact ⟨_, fd, _, He.glo_ok X G (c.fact 40 (f := .glo "_law_series_product") rfl), k, d⟩
    | 41, h1 =>
      obtain rfl : ("_law_expand" : Str) = x := Option.some.inj (show some ("_law_expand" : Str) = some x from h1)
      obtain ⟨fd, d, k⟩ := df_41 (K := K) c
      exact ⟨_, fd, _, He.glo_ok X G (c.fact 41 (f := .glo "_law_expand") rfl), k, d⟩
    | 42, h1 =>
      obtain rfl : ("_law_left_of" : Str) = x := Option.some.inj (show some ("_law_left_of" : Str) = some x from h1)
      obtain ⟨fd, d, k⟩ := df_42 (K := K) c
      exact ⟨_, fd, _, He.glo_ok X G (c.fact 42 (f := .glo "_law_left_of") rfl), k, d⟩
    | 43, h1 =>
      obtain rfl : ("_law_bound" : Str) = x := Option.some.inj (show some ("_law_bound" : Str) = some x from h1)
      obtain ⟨fd, d, k⟩ := df_43 (K := K) c
      exact ⟨_, fd, _, He.glo_ok X G (c.fact 43 (f := .glo "_law_bound") rfl), k, d⟩
    | 44, h1 =>
      obtain rfl : ("_law_value" : Str) = x := Option.some.inj (show some ("_law_value" : Str) = some x from h1)
      obtain ⟨fd, d, k⟩ := df_44 (K := K) c
      exact ⟨_, fd, _, He.glo_ok X G (c.fact 44 (f := .glo "_law_value") rfl), k, d⟩
    | 45, h1 =>
      obtain rfl : ("_law_tiny_worth" : Str) = x := Option.some.inj (show some ("_law_tiny_worth" : Str) = some x from h1)
      obtain ⟨fd, d, k⟩ := df_45 (K := K) c
      exact ⟨_, fd, _, He.glo_ok X G (c.fact 45 (f := .glo "_law_tiny_worth") rfl), k, d⟩
    | 46, h1 =>
      obtain rfl : ("_law_small_worth" : Str) = x := Option.some.inj (show some ("_law_small_worth" : Str) = some x from h1)
      obtain ⟨fd, d, k⟩ := df_46 (K := K) c
      exact ⟨_, fd, _, He.glo_ok X G (c.fact 46 (f := .glo "_law_small_worth") rfl), k, d⟩
    | 47, h1 =>
      obtain rfl : ("_law_power_of" : Str) = x := Option.some.inj (show some ("_law_power_of" : Str) = some x from h1)
      obtain ⟨fd, d, k⟩ := df_47 (K := K) c
      exact ⟨_, fd, _, He.glo_ok X G (c.fact 47 (f := .glo "_law_power_of") rfl), k, d⟩
    | 48, h1 =>
      obtain rfl : ("law" : Str) = x := Option.some.inj (show some ("law" : Str) = some x from h1)
      obtain ⟨fd, d, k⟩ := df_48 (K := K) c
      exact ⟨_, fd, _, He.glo_ok X G (c.fact 48 (f := .glo "law") rfl), k, d⟩
    | n + 49, h1 => cases (show (none : Option Str) = some x from h1)
  case ins =>
    intro c' C nms h
    simp only [tb] at h
    cases h
  case insAll =>
    intro c' hc
    simp only [sg, List.mem_cons, List.not_mem_nil, or_false] at hc
    all_goals first | exact hc.elim | cases hc
  case mkC =>
    intro c' C nms h
    simp only [tb] at h
    cases h
  case eqF =>
    intro c' f C nms hf h
    simp only [tb] at h
    cases h
  case ins2 =>
    intro c1 c2 C C' nms nms' ne h h'
    simp only [tb] at h h'
    cases h
  case exn =>
    intro c' hc x nms h0 ne
    simp only [sg, List.mem_cons, List.not_mem_nil, or_false] at hc
    rcases hc with rfl | rfl | rfl
    · obtain ⟨rfl, rfl⟩ := (Prod.mk.injEq _ _ _ _).mp (Option.some.inj (show some (("RareError" : Str), ([] : List Str)) = some (x, nms) from h0))
      exact absurd rfl ne
    · obtain ⟨rfl, rfl⟩ := (Prod.mk.injEq _ _ _ _).mp (Option.some.inj (show some (("BadNumber" : Str), (["what", "number"] : List Str)) = some (x, nms) from h0))
      exact ⟨_, rfl⟩
    · obtain ⟨rfl, rfl⟩ := (Prod.mk.injEq _ _ _ _).mp (Option.some.inj (show some (("BadWorth" : Str), (["worth"] : List Str)) = some (x, nms) from h0))
      exact ⟨_, rfl⟩
  case exc =>
    intro c' C nms h
    simp only [tb] at h
    by_cases e1 : c' = 1
    · subst e1
      obtain ⟨rfl, rfl⟩ := (Prod.mk.injEq _ _ _ _).mp (Option.some.inj (show some (He.ga K "BadNumber", (["what", "number"] : List Str)) = some (C, nms) from h))
      obtain ⟨fd, F⟩ := c.def_ 0 (d := dM "BadNumber" "__init__" "BadNumber.__init__" 3 0) rfl
      have q0 := exg_ok (fxa 2 (.exg "BadNumber" "what") rfl)
      have q1 := exg_ok (fxa 3 (.exg "BadNumber" "number") rfl)
      have ox := oex_ok (fxa 0 (.oex "BadNumber") rfl)
      refine ⟨"BadNumber", by simp, rfl, by simp [sg], He.glo_ok X G (c.fact 69 (f := .glo "BadNumber") rfl), ox, fun f hf => ?_, q0.2.1, q0.2.2.1, q0.2.2.2.1, _, fd, ["self", "what", "number"], q0.2.2.2.2.2.1, q0.2.2.2.2.2.2, fun base => initX2_ok F ib_BadNumber ox q0.1 q1.1, F.bindsN fun _ _ _ _ _ _ us hl => match us, hl with | [_, _, _], _ => rfl⟩
      simp only [List.mem_cons, List.not_mem_nil, or_false] at hf
      rcases hf with rfl | rfl
      · exact q0.1
      · exact q1.1
    · rw [if_neg e1] at h
      by_cases e2 : c' = 2
      · subst e2
        obtain ⟨rfl, rfl⟩ := (Prod.mk.injEq _ _ _ _).mp (Option.some.inj (show some (He.ga K "BadWorth", (["worth"] : List Str)) = some (C, nms) from h))
        obtain ⟨fd, F⟩ := c.def_ 1 (d := dM "BadWorth" "__init__" "BadWorth.__init__" 4 0) rfl
        have q0 := exg_ok (fxa 4 (.exg "BadWorth" "worth") rfl)
        have ox := oex_ok (fxa 1 (.oex "BadWorth") rfl)
        refine ⟨"BadWorth", by simp, rfl, by simp [sg], He.glo_ok X G (c.fact 70 (f := .glo "BadWorth") rfl), ox, fun f hf => ?_, q0.2.1, q0.2.2.1, q0.2.2.2.1, _, fd, ["self", "worth"], q0.2.2.2.2.2.1, q0.2.2.2.2.2.2, fun base => initX_ok F ib_BadWorth ox q0.1, F.bindsN fun _ _ _ _ _ _ us hl => match us, hl with | [_, _], _ => rfl⟩
        simp only [List.mem_cons, List.not_mem_nil, or_false] at hf
        subst hf
        exact q0.1
      · rw [if_neg e2] at h
        cases h
  case han =>
    intro c2 hc
    simp only [sg, List.mem_cons, List.not_mem_nil, or_false] at hc
    rcases hc with rfl | rfl | rfl
    · refine ⟨_, "RareError", _, rfl, He.glo_ok X G (c.fact 68 (f := .glo "RareError") rfl), ?_⟩
      intro c' C nms h
      simp only [tb] at h
      by_cases e1 : c' = 1
      · subst e1
        obtain ⟨rfl, rfl⟩ := (Prod.mk.injEq _ _ _ _).mp (Option.some.inj (show some (He.ga K "BadNumber", (["what", "number"] : List Str)) = some (C, nms) from h))
        exact He.exm_ok (c.fact 71 (f := .exm "BadNumber" "RareError" true) rfl)
      · rw [if_neg e1] at h
        by_cases e2 : c' = 2
        · subst e2
          obtain ⟨rfl, rfl⟩ := (Prod.mk.injEq _ _ _ _).mp (Option.some.inj (show some (He.ga K "BadWorth", (["worth"] : List Str)) = some (C, nms) from h))
          exact He.exm_ok (c.fact 74 (f := .exm "BadWorth" "RareError" true) rfl)
        · rw [if_neg e2] at h
          cases h
    · refine ⟨_, "BadNumber", _, rfl, He.glo_ok X G (c.fact 69 (f := .glo "BadNumber") rfl), ?_⟩
      intro c' C nms h
      simp only [tb] at h
      by_cases e1 : c' = 1
      · subst e1
        obtain ⟨rfl, rfl⟩ := (Prod.mk.injEq _ _ _ _).mp (Option.some.inj (show some (He.ga K "BadNumber", (["what", "number"] : List Str)) = some (C, nms) from h))
        exact He.exm_ok (c.fact 72 (f := .exm "BadNumber" "BadNumber" true) rfl)
      · rw [if_neg e1] at h
        by_cases e2 : c' = 2
        · subst e2
          obtain ⟨rfl, rfl⟩ := (Prod.mk.injEq _ _ _ _).mp (Option.some.inj (show some (He.ga K "BadWorth", (["worth"] : List Str)) = some (C, nms) from h))
          exact He.exm_ok (c.fact 75 (f := .exm "BadWorth" "BadNumber" false) rfl)
        · rw [if_neg e2] at h
          cases h
    · refine ⟨_, "BadWorth", _, rfl, He.glo_ok X G (c.fact 70 (f := .glo "BadWorth") rfl), ?_⟩
      intro c' C nms h
      simp only [tb] at h
      by_cases e1 : c' = 1
      · subst e1
        obtain ⟨rfl, rfl⟩ := (Prod.mk.injEq _ _ _ _).mp (Option.some.inj (show some (He.ga K "BadNumber", (["what", "number"] : List Str)) = some (C, nms) from h))
        exact He.exm_ok (c.fact 73 (f := .exm "BadNumber" "BadWorth" false) rfl)
      · rw [if_neg e1] at h
        by_cases e2 : c' = 2
        · subst e2
          obtain ⟨rfl, rfl⟩ := (Prod.mk.injEq _ _ _ _).mp (Option.some.inj (show some (He.ga K "BadWorth", (["worth"] : List Str)) = some (C, nms) from h))
          exact He.exm_ok (c.fact 76 (f := .exm "BadWorth" "BadWorth" true) rfl)
        · rw [if_neg e2] at h
          cases h
end
end My

/-! R34: the law's end. -/
namespace R
open L2 PyProof.Rows PySem.Spec PySem
theorem walk_G {l : PySem.W.OpenLaw} {n k : Nat} {q : Program} {loose : List Str} {XP : (Str → Option Value) → Heap → Prop} {YP : World → Heap → Prop} {dr : DefRec} {x : Str}
    (hn : l.most = some n) (hn2 : n ≤ sizeLine) (hdf : dr.params.defaults = []) (room : Room k callerA)
    (F : ∀ (w : World) (mg : Str → Option Value) (at_ : Addr) (h : Heap), YP w h → h.Ns mainGlobals mg → mg dr.name = some (.ref at_) →
      ∃ (K : PySem.W.Frag) (fd : FuncData) (sp : Sp), K.In h ∧ (∀ (sh : Shared) (u : Value), BindsTo sh fd ⟨[u], []⟩ [(x, u)]) ∧
        (∀ (H : Hp) (a : Addr) (is : List Int), is.length ≤ n → Only H → SqL K H a (is.map V.int) → sp [.ref a] H (fun v _ => v = .bl true) fun _ _ _ => False) ∧
        ∀ base : Heap, K.In base → base.Ns mainGlobals mg → FnG l.prog w K mg base k at_ fd [x] sp) :
    PySem.W.WalkO q loose XP YP l.row.toRowW dr [] (fun f vs => PySem.call f vs) := by
  refine Att.attach_call hn hdf fun w s₀ t mg mb at_ o pm cd doc a vs is Gr Y ho hd hcd hmg hobj hints hlen hg => ?_
  obtain ⟨K, fd, sp, kin, hb, hsp, hF⟩ := F w mg at_ _ Y Gr.T.g hmg
  exact law_callG kin Gr.T.g Gr.T.b Gr.T.builtins Gr.T.nolimit hg hobj hints (Nat.le_trans hlen hn2) room hF hb fun H hO hS => hsp H a is hlen hO hS
theorem sp_start {T : Tb} {P : Prog} {n f : Nat} {H : Hp} {a : Addr} {is : List Int} (hS : SqL T.K H a (is.map V.int)) (h : ∃ κ, callN P n f [.scr (is.map .int)] [] = .ok (.bl true, κ)) :
    spD T (callN P n) f [.ref a] H (fun v _ => v = .bl true) fun _ _ _ => False := by
  obtain ⟨κ, e⟩ := h
  refine ⟨⟨H, []⟩, [], [.scr (is.map .int)], .cons (.scr hS (RVs.ints is)) .nil, ⟨Same.refl _, by simp, rfl, by simp⟩, ?_⟩
  rw [e]
  intro w' H' _ _ v hv
  cases hv
  rfl
end R

/-! M1: how the evaluator is simplified, and what its loops keep. -/
namespace R
open PySem L2

/-- a mark by which what stands behind is left alone till its turn -/
structure Tk {A : Type} (f : A) : Type where
theorem mbind_ok {α β : Type} (a : α) (f : α → Out β) : Out.bind (.ok a) f = f a := rfl
def bd {α β : Type} (f : α → Out β) (t : Tk f) (m : Out α) : Out β := m.bind f
@[simp ↓] theorem bind_bd {α β : Type} (m : Out α) (f : α → Out β) : Out.bind m f = bd f ⟨⟩ m := rfl
@[simp] theorem bd_ok {α β : Type} (a : α) (f : α → Out β) (t : Tk f) : bd f t (.ok a) = f a := rfl
@[simp] theorem bd_exc {α β : Type} (c : Nat) (fs : List D) (k : Cells) (f : α → Out β) (t : Tk f) : bd f t (.exc c fs k) = .exc c fs k := rfl
@[simp] theorem opt_some' {α : Type} (a : α) : opt (some a) = .ok a := rfl
def exEd {α : Type} (f : α → Res) (t : Tk f) (o : Out α) (σ : Sl) : Res := exE o σ f
@[simp ↓] theorem exE_d {α : Type} (o : Out α) (σ : Sl) (f : α → Res) : exE o σ f = exEd f ⟨⟩ o σ := rfl
@[simp] theorem exE_ok' {α : Type} (a : α) (σ : Sl) (f : α → Res) (t : Tk f) : exEd f t (.ok a) σ = f a := rfl
@[simp] theorem exE_exc' {α : Type} (c : Nat) (fs : List D) (k : Cells) (σ : Sl) (f : α → Res) (t : Tk f) : exEd f t (.exc c fs k) σ = .xc c fs σ k := rfl
def exOd {α : Type} (f : α → Res) (t : Tk f) (o : Option α) : Res := exO o f
@[simp ↓] theorem exO_d {α : Type} (o : Option α) (f : α → Res) : exO o f = exOd f ⟨⟩ o := rfl
@[simp] theorem exO_some' {α : Type} (a : α) (f : α → Res) (t : Tk f) : exOd f t (some a) = f a := rfl
/-- the rest of a block -/
def Res.then (f : Sl → Cells → Res) (t : Tk f) (r : Res) : Res := match r with
  | .nx σ κ => f σ κ
  | r => r
@[simp] theorem then_nx (σ : Sl) (κ : Cells) (f : Sl → Cells → Res) (t : Tk f) : Res.then f t (.nx σ κ) = f σ κ := rfl
@[simp] theorem then_rt (d : D) (κ : Cells) (f : Sl → Cells → Res) (t : Tk f) : Res.then f t (.rt d κ) = .rt d κ := rfl
@[simp] theorem then_bk (σ : Sl) (κ : Cells) (f : Sl → Cells → Res) (t : Tk f) : Res.then f t (.bk σ κ) = .bk σ κ := rfl
@[simp] theorem then_xc (c : Nat) (fs : List D) (σ : Sl) (κ : Cells) (f : Sl → Cells → Res) (t : Tk f) : Res.then f t (.xc c fs σ κ) = .xc c fs σ κ := rfl
/-- loops, left alone -/
def forD (step : D → Sl → Cells → Res) (t : Tk step) (xs : List D) (σ : Sl) (κ : Cells) : Res := forLoop step xs σ κ
@[simp ↓] theorem for_d (step : D → Sl → Cells → Res) (xs : List D) (σ : Sl) (κ : Cells) : forLoop step xs σ κ = forD step ⟨⟩ xs σ κ := rfl
def compD (step : D → Cells → Out (List D × Cells)) (t : Tk step) (xs : List D) (κ : Cells) : Out (List D × Cells) := compLoop step xs κ
@[simp ↓] theorem comp_d (step : D → Cells → Out (List D × Cells)) (xs : List D) (κ : Cells) : compLoop step xs κ = compD step ⟨⟩ xs κ := rfl
/-- while, left alone -/
def whD (test : Sl → Cells → Out (Bool × Cells)) (body : Sl → Cells → Res) (t : Tk test) (u : Tk body) (n : Nat) (σ : Sl) (κ : Cells) : Res := whileLoop test body n σ κ
@[simp ↓] theorem wh_d (test : Sl → Cells → Out (Bool × Cells)) (body : Sl → Cells → Res) (n : Nat) (σ : Sl) (κ : Cells) : whileLoop test body n σ κ = whD test body ⟨⟩ ⟨⟩ n σ κ := rfl
@[simp] theorem exec_cons (Γ : Cxt) (s t : S) (σ : Sl) (κ : Cells) : exec Γ (.cons s t) σ κ = Res.then (fun σ κ => exec Γ t σ κ) ⟨⟩ (exec Γ s σ κ) := by
  rw [exec]
  cases exec Γ s σ κ <;> rfl
@[simp] theorem out_nx (σ : Sl) (κ : Cells) : Res.out (.nx σ κ) = .ok (.non, κ) := rfl
@[simp] theorem out_rt (d : D) (κ : Cells) : Res.out (.rt d κ) = .ok (d, κ) := rfl
@[simp] theorem out_xc (c : Nat) (fs : List D) (σ : Sl) (κ : Cells) : Res.out (.xc c fs σ κ) = .exc c fs κ := rfl
@[simp] theorem d_fz (x : D) : O.d (.fz x) = x := rfl
@[simp] theorem d_ol (b : Option Nat) (xs : List D) : O.d (.ol b xs) = .lst xs := rfl
@[simp] theorem frz_fz (x : D) : O.frz (.fz x) = some x := rfl
@[simp] theorem frz_ol (xs : List D) : O.frz (.ol none xs) = some (.lst xs) := rfl
@[simp] theorem read_fz (i : Nat) (x : D) : O.read i (.fz x) = .fz x := rfl
@[simp] theorem read_ol (i : Nat) (b : Option Nat) (xs : List D) : O.read i (.ol b xs) = .ol (some i) xs := rfl
@[simp] theorem bor_fz (x : D) : O.bor (.fz x) = [] := rfl
@[simp] theorem bor_oln (xs : List D) : O.bor (.ol none xs) = [] := rfl
@[simp] theorem bor_ols (i : Nat) (xs : List D) : O.bor (.ol (some i) xs) = [i] := rfl
@[simp] theorem mnoexc_ok {α : Type} (a : α) : noexc (.ok a) = .ok a := rfl

/-- a block's k-th statement, what stands behind k statements -/
def sN : Nat → S → S
  | 0, .cons s _ => s
  | n + 1, .cons _ t => sN n t
  | _, s => s
def sR : Nat → S → S
  | n + 1, .cons _ t => sR n t
  | _, s => s
/-- one turn of a call -/
theorem callN_eq {P : Prog} {n f : Nat} {fn : Fn} {ds : List D} {κ : Cells} (hf : P.fns[f]? = some fn) (hl : ds.length = fn.ps) :
    callN P (n + 1) f ds κ = (exec ⟨P.gl, [], callN P n, P.fuel, P.sub, P.eqf⟩ fn.body (startS fn ds) κ).out := by
  rw [callN, hf]
  exact if_pos hl

/-- a comprehension each turn of which gives one thing -/
theorem comp_each {I : Nat → Cells → Prop} {T : Nat → D → Prop} {step : D → Cells → Out (List D × Cells)} : ∀ (xs : List D) (k : Nat) (κ : Cells),
    (∀ (j : Nat) (x : D) (κ : Cells), xs[j]? = some x → I (k + j) κ → ∃ y κ', step x κ = .ok ([y], κ') ∧ I (k + j + 1) κ' ∧ T (k + j) y) →
    I k κ → ∃ ys κ', compLoop step xs κ = .ok (ys, κ') ∧ ys.length = xs.length ∧ I (k + xs.length) κ' ∧ ∀ (j : Nat) (y : D), ys[j]? = some y → T (k + j) y
  | [], k, κ, _, hi => ⟨[], κ, rfl, rfl, hi, fun j y h => by simp at h⟩
  | x :: xs, k, κ, hs, hi => by
    obtain ⟨y, κ1, e1, i1, t1⟩ := hs 0 x κ rfl hi
    obtain ⟨ys, κ2, e2, l2, i2, t2⟩ := comp_each xs (k + 1) κ1 (fun j x' κ' hx hi' => by
      have := hs (j + 1) x' κ' (by simpa using hx) (by rw [show k + (j + 1) = k + 1 + j by omega]; exact hi')
      rw [show k + (j + 1) = k + 1 + j by omega] at this
      exact this) i1
    refine ⟨y :: ys, κ2, ?_, by simp [l2], by rw [show k + (x :: xs).length = k + 1 + xs.length by simp; omega]; exact i2, ?_⟩
    · rw [compLoop, e1, mbind_ok, e2, mbind_ok]
      rfl
    · intro j z hz
      cases j with
      | zero => simp at hz; subst hz; exact t1
      | succ j =>
        have := t2 j z (by simpa using hz)
        rw [show k + (j + 1) = k + 1 + j by omega]
        exact this
/-- a comprehension without effect -/
theorem comp_map {g : D → D} {step : D → Cells → Out (List D × Cells)} (κ : Cells) : ∀ (xs : List D),
    (∀ x ∈ xs, step x κ = .ok ([g x], κ)) → compLoop step xs κ = .ok (xs.map g, κ)
  | [], _ => rfl
  | x :: xs, h => by
    rw [compLoop, h x (by simp), mbind_ok, comp_map κ xs (fun y hy => h y (by simp [hy])), mbind_ok]
    rfl
/-- a comprehension that keeps some things -/
theorem comp_filter {p : D → Bool} {g : D → D} {step : D → Cells → Out (List D × Cells)} (κ : Cells) : ∀ (xs : List D),
    (∀ x ∈ xs, step x κ = .ok (if p x then [g x] else [], κ)) → compLoop step xs κ = .ok ((xs.filter p).map g, κ)
  | [], _ => rfl
  | x :: xs, h => by
    rw [compLoop, h x (by simp), mbind_ok, comp_filter κ xs (fun y hy => h y (by simp [hy])), mbind_ok]
    cases hp : p x <;> simp [hp]
/-- a for that goes through -/
theorem for_inv {I : Nat → Sl → Cells → Prop} {step : D → Sl → Cells → Res} : ∀ (xs : List D) (k : Nat) (σ : Sl) (κ : Cells),
    (∀ (j : Nat) (x : D) (σ : Sl) (κ : Cells), xs[j]? = some x → I (k + j) σ κ → ∃ σ' κ', step x σ κ = .nx σ' κ' ∧ I (k + j + 1) σ' κ') →
    I k σ κ → ∃ σ' κ', forLoop step xs σ κ = .nx σ' κ' ∧ I (k + xs.length) σ' κ'
  | [], k, σ, κ, _, hi => ⟨σ, κ, rfl, hi⟩
  | x :: xs, k, σ, κ, hs, hi => by
    obtain ⟨σ1, κ1, e1, i1⟩ := hs 0 x σ κ rfl hi
    obtain ⟨σ2, κ2, e2, i2⟩ := for_inv xs (k + 1) σ1 κ1 (fun j x' σ' κ' hx hi' => by
      have := hs (j + 1) x' σ' κ' (by simpa using hx) (by rw [show k + (j + 1) = k + 1 + j by omega]; exact hi')
      rw [show k + (j + 1) = k + 1 + j by omega] at this
      exact this) i1
    refine ⟨σ2, κ2, ?_, by rw [show k + (x :: xs).length = k + 1 + xs.length by simp; omega]; exact i2⟩
    rw [forLoop, e1]
    exact e2
/-- the same, by an invariant that looks at what is left -/
theorem for_list {I : List D → Sl → Cells → Prop} {step : D → Sl → Cells → Res}
    (hs : ∀ (x : D) (xs : List D) (σ : Sl) (κ : Cells), I (x :: xs) σ κ → ∃ σ' κ', step x σ κ = .nx σ' κ' ∧ I xs σ' κ') : ∀ (xs : List D) (σ : Sl) (κ : Cells),
    I xs σ κ → ∃ σ' κ', forLoop step xs σ κ = .nx σ' κ' ∧ I [] σ' κ'
  | [], σ, κ, hi => ⟨σ, κ, rfl, hi⟩
  | x :: xs, σ, κ, hi => by
    obtain ⟨σ1, κ1, e1, i1⟩ := hs x xs σ κ hi
    obtain ⟨σ2, κ2, e2, i2⟩ := for_list hs xs σ1 κ1 i1
    refine ⟨σ2, κ2, ?_, i2⟩
    rw [forLoop, e1]
    exact e2

/-! ### comparisons -/
@[simp] theorem eqD_int (i j : Int) : eqD (.int i) (.int j) = some (i == j) := by
  simp [eqD, D.py, SeqAt.shaped, PyData.canLay0, PyData.depth, PyData.eqv]
theorem eqD_str {x y : Str} (hx : PyData.strOk x = true) (hy : PyData.strOk y = true) : eqD (.str x) (.str y) = some (x == y) := by
  simp [eqD, D.py, SeqAt.shaped, PyData.canLay0, PyData.depth, PyData.eqv, hx, hy]
theorem idxT (xs : List D) (i : Nat) (d : D) (h : xs[i]? = some d) : idxD (.tup xs) (.int i) = some d := by
  have hl : i < xs.length := by
    rcases Nat.lt_or_ge i xs.length with h' | h'
    · exact h'
    · rw [List.getElem?_eq_none h'] at h; simp at h
  have e : ixN xs.length (i : Int) = some i := by simp [ixN, hl]
  show (ixN xs.length (i : Int)).bind _ = _
  rw [e]
  exact h
theorem idxL (xs : List D) (i : Nat) (d : D) (h : xs[i]? = some d) : idxD (.lst xs) (.int i) = some d := idxT xs i d h

/-! ### what each form comes to -/
def varO (κ : Cells) (i : Nat) : Option (Option O) → Out (O × Cells)
  | some (some o) => .ok (o.read i, κ)
  | _ => .bad
@[simp] theorem varO_some (κ : Cells) (i : Nat) (o : O) : varO κ i (some (some o)) = .ok (o.read i, κ) := rfl
@[simp] theorem e_var (Γ : Cxt) {i} (σ : Sl) (κ : Cells) : ev Γ (.var i) σ κ = varO κ i σ[i]? := by
  rw [ev]
  rcases σ[i]? with _ | _ | _ <;> rfl
@[simp] theorem e_cst (Γ : Cxt) {d} (σ : Sl) (κ : Cells) : ev Γ (.cst d) σ κ = (.ok (.fz d, κ)) := by
  rw [ev]
@[simp] theorem e_gcn (Γ : Cxt) {g} (σ : Sl) (κ : Cells) : ev Γ (.gcn g) σ κ = ((opt Γ.gl[g]?).bind fun d => .ok (.fz d, κ)) := by
  rw [ev]
@[simp] theorem e_tup (Γ : Cxt) {es} (σ : Sl) (κ : Cells) : ev Γ (.tup es) σ κ = ((evs Γ es σ κ).bind fun r => .ok (.fz (.tup r.1), r.2)) := by
  rw [ev]
@[simp] theorem e_lst (Γ : Cxt) {es} (σ : Sl) (κ : Cells) : ev Γ (.lst es) σ κ = ((evs Γ es σ κ).bind fun r => .ok (.ol none r.1, r.2)) := by
  rw [ev]
@[simp] theorem e_bin (Γ : Cxt) {op a b} (σ : Sl) (κ : Cells) : ev Γ (.bin op a b) σ κ = ((ev Γ a σ κ).bind fun x => (ev Γ b σ x.2).bind fun y => (opt (binD op x.1.d y.1.d)).bind fun o => .ok (o, y.2)) := by
  rw [ev]
@[simp] theorem e_neg (Γ : Cxt) {a} (σ : Sl) (κ : Cells) : ev Γ (.neg a) σ κ = ((ev Γ a σ κ).bind fun x => (opt (negD x.1.d)).bind fun d => .ok (.fz d, x.2)) := by
  rw [ev]
@[simp] theorem e_not (Γ : Cxt) {a} (σ : Sl) (κ : Cells) : ev Γ (.not a) σ κ = ((ev Γ a σ κ).bind fun x => (opt (truD x.1.d)).bind fun b => .ok (.fz (.bl (!b)), x.2)) := by
  rw [ev]
@[simp] theorem e_and (Γ : Cxt) {a b} (σ : Sl) (κ : Cells) : ev Γ (.and a b) σ κ = ((ev Γ a σ κ).bind fun x => (opt (truD x.1.d)).bind fun c => if c then ev Γ b σ x.2 else .ok x) := by
  rw [ev]
@[simp] theorem e_or (Γ : Cxt) {a b} (σ : Sl) (κ : Cells) : ev Γ (.or a b) σ κ = ((ev Γ a σ κ).bind fun x => (opt (truD x.1.d)).bind fun c => if c then .ok x else ev Γ b σ x.2) := by
  rw [ev]
@[simp] theorem e_cmp (Γ : Cxt) {op a b} (σ : Sl) (κ : Cells) : ev Γ (.cmp op a b) σ κ = ((ev Γ a σ κ).bind fun x => (ev Γ b σ x.2).bind fun y => (opt (cmpC y.2 op x.1.d y.1.d)).bind fun c => .ok (.fz (.bl c), y.2)) := by
  rw [ev]
@[simp] theorem e_chain (Γ : Cxt) {op op' a b c} (σ : Sl) (κ : Cells) : ev Γ (.chain op op' a b c) σ κ = ((ev Γ a σ κ).bind fun x => (ev Γ b σ x.2).bind fun y => (opt (cmpD op x.1.d y.1.d)).bind fun t =>
      if t then (ev Γ c σ y.2).bind fun z => (opt (cmpD op' y.1.d z.1.d)).bind fun t' => .ok (.fz (.bl t'), z.2) else .ok (.fz (.bl false), y.2)) := by
  rw [ev]
@[simp] theorem e_ite (Γ : Cxt) {c a b} (σ : Sl) (κ : Cells) : ev Γ (.ite c a b) σ κ = ((ev Γ c σ κ).bind fun x => (opt (truD x.1.d)).bind fun t => if t then ev Γ a σ x.2 else ev Γ b σ x.2) := by
  rw [ev]
@[simp] theorem e_idx (Γ : Cxt) {a i} (σ : Sl) (κ : Cells) : ev Γ (.idx a i) σ κ = ((ev Γ a σ κ).bind fun x => (ev Γ i σ x.2).bind fun y => (opt (idxC y.2 x.1.d y.1.d)).bind fun d => .ok (.fz d, y.2)) := by
  rw [ev]
@[simp] theorem e_slc (Γ : Cxt) {a lo hi} (σ : Sl) (κ : Cells) : ev Γ (.slc a lo hi) σ κ = ((ev Γ a σ κ).bind fun x => (ev Γ lo σ x.2).bind fun l => (opt (boundD l.1)).bind fun lo' => (ev Γ hi σ l.2).bind fun h =>
      (opt (boundD h.1)).bind fun hi' => (opt (slcD lo' hi' x.1.d)).bind fun o => .ok (o, h.2)) := by
  rw [ev]
@[simp] theorem e_rev (Γ : Cxt) {a} (σ : Sl) (κ : Cells) : ev Γ (.rev a) σ κ = ((ev Γ a σ κ).bind fun x => (opt (revD x.1.d)).bind fun o => .ok (o, x.2)) := by
  rw [ev]
def fldO (m : List (Nat × Nat)) (d : D) : Option D := match d with
  | .ins c fs => (m.lookup c).bind fun j => fs[j]?
  | _ => none
@[simp] theorem fldO_ins (m : List (Nat × Nat)) (c : Nat) (fs : List D) : fldO m (.ins c fs) = (m.lookup c).bind fun j => fs[j]? := rfl
@[simp] theorem e_fld (Γ : Cxt) {a m} (σ : Sl) (κ : Cells) : ev Γ (.fld a m) σ κ = ((ev Γ a σ κ).bind fun x => (opt (fldO m x.1.d)).bind fun d => .ok (.fz d, x.2)) := by
  rw [ev]
  refine congrArg (Out.bind _) (funext fun x => ?_)
  generalize x.1.d = d
  cases d <;> rfl
@[simp] theorem e_exf (Γ : Cxt) {f} (σ : Sl) (κ : Cells) : ev Γ (.exf f) σ κ = ((opt Γ.hx[f]?).bind fun d => .ok (.fz d, κ)) := by
  rw [ev]
@[simp] theorem e_isi (Γ : Cxt) {a tys tt_} (σ : Sl) (κ : Cells) : ev Γ (.isi a tys tt_) σ κ = ((ev Γ a σ κ).bind fun x => if hasTy x.1.d then .ok (.fz (.bl (tys.any (isTy x.1.d))), x.2) else .bad) := by
  rw [ev]
@[simp] theorem e_call (Γ : Cxt) {f es} (σ : Sl) (κ : Cells) : ev Γ (.call f es) σ κ = ((evs Γ es σ κ).bind fun r => (Γ.calls f r.1 r.2).bind fun x => .ok (.fz x.1, x.2)) := by
  rw [ev]
@[simp] theorem e_blt1 (Γ : Cxt) {b a} (σ : Sl) (κ : Cells) : ev Γ (.blt1 b a) σ κ = ((ev Γ a σ κ).bind fun x => (opt (blt1C x.2 b x.1)).bind fun o => .ok (o, x.2)) := by
  rw [ev]
@[simp] theorem e_blt2 (Γ : Cxt) {b a a'} (σ : Sl) (κ : Cells) : ev Γ (.blt2 b a a') σ κ = ((ev Γ a σ κ).bind fun x => (ev Γ a' σ x.2).bind fun y => (opt (blt2D b x.1.d y.1.d)).bind fun d => .ok (.fz d, y.2)) := by
  rw [ev]
@[simp] theorem e_make (Γ : Cxt) {c es} (σ : Sl) (κ : Cells) : ev Γ (.make c es) σ κ = ((evs Γ es σ κ).bind fun r => .ok (.fz (.ins c r.1), r.2)) := by
  rw [ev]
def boolD : D → Option Bool
  | .bl t => some t
  | _ => none
@[simp] theorem boolD_bl (b : Bool) : boolD (.bl b) = some b := rfl
def insC : D → Option Nat
  | .ins c _ => some c
  | _ => none
@[simp] theorem insC_ins (c : Nat) (fs : List D) : insC (.ins c fs) = some c := rfl
@[simp] theorem e_eqo (Γ : Cxt) {a b} (σ : Sl) (κ : Cells) : ev Γ (.eqo a b) σ κ = ((ev Γ a σ κ).bind fun x => (ev Γ b σ x.2).bind fun y => (opt x.1.frz).bind fun xd => (opt y.1.frz).bind fun yd =>
      (opt (insC xd)).bind fun c => (opt (Γ.eqf c)).bind fun f => if eqoOk c yd then (noexc (Γ.calls f [xd, yd] y.2)).bind fun r => (opt (boolD r.1)).bind fun t => .ok (.fz (.bl t), r.2) else .bad) := by
  rw [ev]
  refine congrArg (Out.bind _) (funext fun x => ?_)
  refine congrArg (Out.bind _) (funext fun y => ?_)
  refine congrArg (Out.bind _) (funext fun xd => ?_)
  refine congrArg (Out.bind _) (funext fun yd => ?_)
  cases xd <;> try rfl
  refine congrArg (Out.bind _) (funext fun f => ?_)
  split
  · refine congrArg (Out.bind _) (funext fun r => ?_)
    rcases r with ⟨r, k⟩
    cases r <;> rfl
  · rfl
@[simp] theorem e_cell (Γ : Cxt) {ks es} (σ : Sl) (κ : Cells) : ev Γ (.cell ks es) σ κ = ((evs Γ es σ κ).bind fun r => if decide (ks.Nodup) && decide (ks.length = r.1.length) && decide (ks.length ≤ 15) then .ok (.fz (.obj r.2.length), r.2 ++ [⟨false, .dk ((ks.zip r.1).foldl (fun acc kv => putP acc kv.1 kv.2) [])⟩]) else .bad) := by
  rw [ev]
@[simp] theorem e_get (Γ : Cxt) {d k x} (σ : Sl) (κ : Cells) : ev Γ (.get d k x) σ κ = ((ev Γ d σ κ).bind fun dv => (opt (cellN dv.2 dv.1.d)).bind fun n => (ev Γ k σ dv.2).bind fun kv => (ev Γ x σ kv.2).bind fun xv => (opt (readAt xv.2 n)).bind fun kvs => (opt (keyOf kv.1.d)).bind fun kk =>
      (opt (orElseD (lookP kvs kk) xv.1)).bind fun r => .ok (.fz r, xv.2)) := by
  rw [ev]
@[simp] theorem e_pop (Γ : Cxt) {d k x} (σ : Sl) (κ : Cells) : ev Γ (.pop d k x) σ κ = ((ev Γ d σ κ).bind fun dv => (opt (cellN dv.2 dv.1.d)).bind fun n => (ev Γ k σ dv.2).bind fun kv => (ev Γ x σ kv.2).bind fun xv => (opt (openAt xv.2 n)).bind fun kvs => (opt (keyOf kv.1.d)).bind fun kk =>
      (opt (orElseD (lookP kvs kk) xv.1)).bind fun r => .ok (.fz r, if (lookP kvs kk).isSome then xv.2.set n ⟨false, .dk (dropP kvs kk)⟩ else xv.2)) := by
  rw [ev]
@[simp] theorem e_dnew (Γ : Cxt) (σ : Sl) (κ : Cells) : ev Γ .dnew σ κ = .ok (.fz (.obj κ.length), κ ++ [⟨false, .dk []⟩]) := by
  rw [ev]
@[simp] theorem e_dic (Γ : Cxt) {k x} (σ : Sl) (κ : Cells) : ev Γ (.dic k x) σ κ = ((ev Γ k σ κ).bind fun kv => (opt (keyOf kv.1.d)).bind fun kk => (ev Γ x σ kv.2).bind fun xv => (opt xv.1.frz).bind fun d => .ok (.fz (.obj xv.2.length), xv.2 ++ [⟨false, .dk [(kk, d)]⟩])) := by
  rw [ev]
@[simp] theorem e_dcp (Γ : Cxt) {a} (σ : Sl) (κ : Cells) : ev Γ (.dcp a) σ κ = ((ev Γ a σ κ).bind fun x => (opt (dcpD x.2 x.1.d)).bind fun kvs => .ok (.fz (.obj x.2.length), x.2 ++ [⟨false, .dk kvs⟩])) := by
  rw [ev]
def objO : O → Option Nat
  | .fz (.obj n) => some n
  | _ => none
@[simp] theorem objO_obj (n : Nat) : objO (.fz (.obj n)) = some n := rfl
/-- the cell that is to be walked -/
def lockO (κ : Cells) (o : O) : Option (Nat × List (Key × D)) := match o with
  | .fz (.obj n) => (openAt κ n).map fun kvs => (n, kvs)
  | _ => none
@[simp] theorem lockO_obj (κ : Cells) (n : Nat) : lockO κ (.fz (.obj n)) = (openAt κ n).map fun kvs => (n, kvs) := rfl
def lckE (Γ : Cxt) (c : E) (σ : Sl) (κ : Cells) : Option (Nat × List (Key × D)) → Out (O × Cells)
  | some (n, kvs) => (noexc (ev Γ c σ (κ.set n ⟨true, .dk kvs⟩))).bind fun y => .ok (y.1, y.2.set n ⟨false, .dk kvs⟩)
  | none => ev Γ c σ κ
@[simp] theorem lckE_some (Γ : Cxt) (c : E) (σ : Sl) (κ : Cells) (n : Nat) (kvs : List (Key × D)) : lckE Γ c σ κ (some (n, kvs)) = (noexc (ev Γ c σ (κ.set n ⟨true, .dk kvs⟩))).bind fun y => .ok (y.1, y.2.set n ⟨false, .dk kvs⟩) := rfl
@[simp] theorem e_lck (Γ : Cxt) {e c} (σ : Sl) (κ : Cells) : ev Γ (.lck e c) σ κ = ((noexc (ev Γ e σ κ)).bind fun x => lckE Γ c σ κ (lockO κ x.1)) := by
  rw [ev]
  refine congrArg (Out.bind _) (funext fun x => ?_)
  generalize x.1 = o
  cases o with
  | fz d =>
    cases d with
    | obj n =>
      rw [lockO_obj]
      unfold openAt
      dsimp only
      generalize κ[n]? = c0
      rcases c0 with _ | ⟨lk, co⟩
      · rfl
      · cases lk <;> cases co <;> rfl
    | _ => rfl
  | _ => rfl
@[simp] theorem e_lrng (Γ : Cxt) {it} (σ : Sl) (κ : Cells) : ev Γ (.lrng it) σ κ = ((evIt Γ it σ κ).bind fun r => if r.1.1.length ≤ sizeLine then .ok (.ol none r.1.1, r.2) else .bad) := by
  rw [ev]
@[simp] theorem e_comp (Γ : Cxt) {own tg it ifs elt} (σ : Sl) (κ : Cells) : ev Γ (.comp own tg it ifs elt) σ κ = ((evIt Γ it σ κ).bind fun r =>
      (noexc (compLoop (fun x κ => (opt (assignT tg x (wipeS σ own))).bind fun σ' => (noexc (evIf Γ ifs σ' κ)).bind fun t =>
        if t.1 then (noexc (ev Γ elt σ' t.2)).bind fun y => (opt y.1.frz).bind fun d => .ok ([d], y.2) else .ok ([], t.2)) r.1.1 r.2)).bind fun r =>
      if r.1.length < sizeLine then .ok (.ol none r.1, r.2) else .bad) := by
  rw [ev]
@[simp] theorem e_comp2 (Γ : Cxt) {own tg it ifs tg2 it2 ifs2 elt} (σ : Sl) (κ : Cells) : ev Γ (.comp2 own tg it ifs tg2 it2 ifs2 elt) σ κ = ((evIt Γ it σ κ).bind fun r =>
      (noexc (compLoop (fun x κ => (opt (assignT tg x (wipeS σ own))).bind fun σ1 => (noexc (evIf Γ ifs σ1 κ)).bind fun t =>
        if t.1 then (noexc (evIt Γ it2 σ1 t.2)).bind fun r2 => compLoop (fun y κ => (opt (assignT tg2 y (wipeS σ1 tg2.ix))).bind fun σ2 => (noexc (evIf Γ ifs2 σ2 κ)).bind fun t2 =>
          if t2.1 then (noexc (ev Γ elt σ2 t2.2)).bind fun z => (opt z.1.frz).bind fun d => .ok ([d], z.2) else .ok ([], t2.2)) r2.1.1 r2.2 else .ok ([], t.2)) r.1.1 r.2)).bind fun r =>
      if r.1.length < sizeLine then .ok (.ol none r.1, r.2) else .bad) := by
  rw [ev]
@[simp] theorem es_nil (Γ : Cxt) (σ : Sl) (κ : Cells) : evs Γ (.nil) σ κ = (.ok ([], κ)) := by
  rw [evs]
@[simp] theorem es_cons (Γ : Cxt) {e es} (σ : Sl) (κ : Cells) : evs Γ (.cons e es) σ κ = ((ev Γ e σ κ).bind fun x => (opt x.1.frz).bind fun d => (evs Γ es σ x.2).bind fun r => if r.1.length < sizeLine then .ok (d :: r.1, r.2) else .bad) := by
  rw [evs]
@[simp] theorem eif_n (Γ : Cxt) (σ : Sl) (κ : Cells) : evIf Γ (.nil) σ κ = (.ok (true, κ)) := by
  rw [evIf]
@[simp] theorem eif_c (Γ : Cxt) {e} (σ : Sl) (κ : Cells) : evIf Γ (.cons e .nil) σ κ = ((ev Γ e σ κ).bind fun x => (opt (truD x.1.d)).bind fun b => .ok (b, x.2)) := by
  rw [evIf]
def intO : D → Option Int
  | .int j => some j
  | _ => none
@[simp] theorem intO_int (j : Int) : intO (.int j) = some j := rfl
@[simp] theorem eit_rng1 (Γ : Cxt) {a} (σ : Sl) (κ : Cells) : evIt Γ (.rng1 a) σ κ = ((ev Γ a σ κ).bind fun x => (opt (intO x.1.d)).bind fun j => (opt (rangeD 0 j)).bind fun xs => .ok ((xs, []), x.2)) := by
  rw [evIt]
  refine congrArg (Out.bind _) (funext fun x => ?_)
  generalize x.1.d = d
  cases d <;> rfl
@[simp] theorem eit_zip (Γ : Cxt) {a b} (σ : Sl) (κ : Cells) : evIt Γ (.zip a b) σ κ = ((ev Γ a σ κ).bind fun x => (ev Γ b σ x.2).bind fun y => (opt (seqD x.1.d)).bind fun xs => (opt (seqD y.1.d)).bind fun ys => .ok ((zipD xs ys, x.1.bor ++ y.1.bor), y.2)) := by
  rw [evIt]
@[simp] theorem eit_rng2 (Γ : Cxt) {a b} (σ : Sl) (κ : Cells) : evIt Γ (.rng2 a b) σ κ = ((ev Γ a σ κ).bind fun x => (ev Γ b σ x.2).bind fun y => (opt (intO x.1.d)).bind fun i => (opt (intO y.1.d)).bind fun j => (opt (rangeD i j)).bind fun xs => .ok ((xs, []), y.2)) := by
  rw [evIt]
  refine congrArg (Out.bind _) (funext fun x => ?_)
  refine congrArg (Out.bind _) (funext fun y => ?_)
  generalize x.1.d = d
  generalize y.1.d = e
  cases d <;> cases e <;> rfl
/-- what is walked, and what it is borrowed from -/
def walkO (κ : Cells) (o : O) : Option (List D × List Nat) := match o with
  | .fz (.obj n) => (lockedAt κ n).map fun kvs => (kvs.map fun p => kD p.1, [])
  | o => (seqD o.d).map fun xs => (xs, o.bor)
@[simp] theorem walkO_obj (κ : Cells) (n : Nat) : walkO κ (.fz (.obj n)) = (lockedAt κ n).map fun kvs => (kvs.map fun p => kD p.1, []) := rfl
@[simp] theorem walkO_tup (κ : Cells) (xs : List D) : walkO κ (.fz (.tup xs)) = some (xs, []) := rfl
@[simp] theorem walkO_flst (κ : Cells) (xs : List D) : walkO κ (.fz (.lst xs)) = some (xs, []) := rfl
@[simp] theorem walkO_scr (κ : Cells) (xs : List D) : walkO κ (.fz (.scr xs)) = some (xs, []) := rfl
@[simp] theorem walkO_ol (κ : Cells) (b : Option Nat) (xs : List D) : walkO κ (.ol b xs) = some (xs, O.bor (.ol b xs)) := rfl
@[simp] theorem eit_walk (Γ : Cxt) {a} (σ : Sl) (κ : Cells) : evIt Γ (.walk a) σ κ = ((ev Γ a σ κ).bind fun x => (opt (walkO x.2 x.1)).bind fun xs => .ok (xs, x.2)) := by
  rw [evIt]
  refine congrArg (Out.bind _) (funext fun x => ?_)
  rcases x with ⟨o, k⟩
  cases o with
  | fz d =>
    cases d <;> try (simp only [walkO, O.d, O.bor, seqD, Option.map, opt, Out.bind]; done)
    rename_i n
    show (opt (lockedAt k n)).bind _ = (opt ((lockedAt k n).map _)).bind _
    cases lockedAt k n <;> rfl
  | _ => simp only [walkO, O.d, O.bor, seqD, Option.map, opt, Out.bind]
@[simp] theorem x_nil (Γ : Cxt) (σ : Sl) (κ : Cells) : exec Γ (.nil) σ κ = (.nx σ κ) := by
  rw [exec]
@[simp] theorem x_set (Γ : Cxt) {i e} (σ : Sl) (κ : Cells) : exec Γ (.set i e) σ κ = (exE (ev Γ e σ κ) σ fun x => storeO σ i x.1 fun σ => .nx σ x.2) := by
  rw [exec]
@[simp] theorem x_sets (Γ : Cxt) {tg e} (σ : Sl) (κ : Cells) : exec Γ (.sets tg e) σ κ = (exE (ev Γ e σ κ) σ fun x => exO x.1.frz fun d => exO (assignT tg d σ) fun σ => .nx σ x.2) := by
  rw [exec]
@[simp] theorem x_par (Γ : Cxt) {is es} (σ : Sl) (κ : Cells) : exec Γ (.par is es) σ κ = (exec.exec1 Γ is es σ κ) := by
  rw [exec]
def augAt (Γ : Cxt) (i : Nat) (e : E) (o : Option (Option O)) (σ : Sl) (κ : Cells) : Res := match o with
  | some (some (.fz (.int a))) => exE (ev Γ e σ κ) σ fun x => exO (intO x.1.d) fun b => exO (setAt σ i (some (.fz (.int (a + b))))) fun σ => .nx σ x.2
  | _ => .bad
@[simp] theorem augAt_int (Γ : Cxt) (i : Nat) (e : E) (a : Int) (σ : Sl) (κ : Cells) : augAt Γ i e (some (some (.fz (.int a)))) σ κ =
    exE (ev Γ e σ κ) σ fun x => exO (intO x.1.d) fun b => exO (setAt σ i (some (.fz (.int (a + b))))) fun σ => .nx σ x.2 := rfl
@[simp] theorem x_augA (Γ : Cxt) {i e} (σ : Sl) (κ : Cells) : exec Γ (.aug i .add e) σ κ = augAt Γ i e σ[i]? σ κ := by
  rw [exec]
  rcases σ[i]? with _ | _ | o <;> try rfl
  cases o with
  | fz d =>
    cases d <;> try rfl
    refine congrArg (exE _ _) (funext fun x => ?_)
    rcases x with ⟨x, k⟩
    cases x with
    | fz d => cases d <;> rfl
    | _ => rfl
  | _ => rfl
def appAt (Γ : Cxt) (i : Nat) (e : E) (o : Option (Option O)) (σ : Sl) (κ : Cells) : Res := match o with
  | some (some (.ol none xs)) => exE (ev Γ e σ κ) σ fun x => exO x.1.frz fun d => if xs.length < sizeLine then .nx (σ.set i (some (.ol none (xs ++ [d])))) x.2 else .bad
  | _ => .bad
@[simp] theorem appAt_ol (Γ : Cxt) (i : Nat) (e : E) (xs : List D) (σ : Sl) (κ : Cells) : appAt Γ i e (some (some (.ol none xs))) σ κ =
    exE (ev Γ e σ κ) σ fun x => exO x.1.frz fun d => if xs.length < sizeLine then .nx (σ.set i (some (.ol none (xs ++ [d])))) x.2 else .bad := rfl
@[simp] theorem x_app (Γ : Cxt) {i e} (σ : Sl) (κ : Cells) : exec Γ (.app i e) σ κ = appAt Γ i e σ[i]? σ κ := by
  rw [exec]
  rcases σ[i]? with _ | _ | o <;> try rfl
/-- a place of what a slot holds is written -/
def putW (Γ : Cxt) (k : E) (i : Nat) (d : D) (f : Sl → Cells → Res) (t : Tk f) (o : Option (Option O)) (σ : Sl) (κ : Cells) : Res := match o with
  | some (some o) => exE (ev Γ k σ κ) σ fun y => (match o with
      | .fz (.obj n) => exO (keyOf y.1.d) fun kk => exO (openAt y.2 n) fun kvs => if kvs.length < sizeLine then f σ (y.2.set n ⟨false, .dk (putP kvs kk d)⟩) else .bad
      | o => exO (putO o y.1.d d) fun o => f (σ.set i (some o)) y.2)
  | _ => .bad
@[simp] theorem putW_obj (Γ : Cxt) (k : E) (i n : Nat) (d : D) (f : Sl → Cells → Res) (t : Tk f) (σ : Sl) (κ : Cells) : putW Γ k i d f t (some (some (.fz (.obj n)))) σ κ =
    exE (ev Γ k σ κ) σ fun y => exO (keyOf y.1.d) fun kk => exO (openAt y.2 n) fun kvs => if kvs.length < sizeLine then f σ (y.2.set n ⟨false, .dk (putP kvs kk d)⟩) else .bad := rfl
@[simp] theorem putW_ol (Γ : Cxt) (k : E) (i : Nat) (xs : List D) (d : D) (f : Sl → Cells → Res) (t : Tk f) (σ : Sl) (κ : Cells) : putW Γ k i d f t (some (some (.ol none xs))) σ κ =
    exE (ev Γ k σ κ) σ fun y => exO (putO (.ol none xs) y.1.d d) fun o => f (σ.set i (some o)) y.2 := rfl
@[simp ↓] theorem putAt_d (Γ : Cxt) (i : Nat) (k : E) (d : D) (σ : Sl) (κ : Cells) (f : Sl → Cells → Res) : R.putAt Γ i k d σ κ f = putW Γ k i d f ⟨⟩ σ[i]? σ κ := by
  unfold R.putAt putW
  rcases σ[i]? with _ | _ | o <;> try rfl
@[simp] theorem x_put (Γ : Cxt) {i k e} (σ : Sl) (κ : Cells) : exec Γ (.put i k e) σ κ =
    (exE (ev Γ e σ κ) σ fun x => exO x.1.frz fun d => R.putAt Γ i k d σ x.2 .nx) := by
  rw [exec]
@[simp] theorem putAll_nil (Γ : Cxt) (σ : Sl) (κ : Cells) : putAll Γ [] [] σ κ = .nx σ κ := rfl
@[simp] theorem putAll_n (Γ : Cxt) (i : Nat) (ts : List (Nat × Option E)) (d : D) (ds : List D) (σ : Sl) (κ : Cells) : putAll Γ ((i, none) :: ts) (d :: ds) σ κ = exO (setAt σ i (some (.fz d))) fun σ => putAll Γ ts ds σ κ := rfl
@[simp] theorem putAll_s (Γ : Cxt) (i : Nat) (k : E) (ts : List (Nat × Option E)) (d : D) (ds : List D) (σ : Sl) (κ : Cells) : putAll Γ ((i, some k) :: ts) (d :: ds) σ κ = R.putAt Γ i k d σ κ (putAll Γ ts ds) := rfl
def tupO : D → Option (List D)
  | .tup xs => some xs
  | _ => none
@[simp] theorem tupO_tup (xs : List D) : tupO (.tup xs) = some xs := rfl
@[simp] theorem x_puts (Γ : Cxt) {ts e} (σ : Sl) (κ : Cells) : exec Γ (.puts ts e) σ κ =
    (exE (ev Γ e σ κ) σ fun x => exO x.1.frz fun d => exO (tupO d) fun ds => if ds.length = ts.length then putAll Γ ts ds σ x.2 else .bad) := by
  rw [exec]
  refine congrArg (exE _ _) (funext fun x => ?_)
  refine congrArg (exO _) (funext fun d => ?_)
  cases d <;> rfl
def lockS (Γ : Cxt) (s : S) (σ : Sl) (κ : Cells) : Option (Nat × List (Key × D)) → Res
  | some (n, kvs) => reopen n kvs (exec Γ s σ (κ.set n ⟨true, .dk kvs⟩))
  | none => exec Γ s σ κ
@[simp] theorem lockS_some (Γ : Cxt) (s : S) (σ : Sl) (κ : Cells) (n : Nat) (kvs : List (Key × D)) : lockS Γ s σ κ (some (n, kvs)) = reopen n kvs (exec Γ s σ (κ.set n ⟨true, .dk kvs⟩)) := rfl
@[simp] theorem reopen_nx (n : Nat) (kvs : List (Key × D)) (σ : Sl) (κ : Cells) : reopen n kvs (.nx σ κ) = .nx σ (κ.set n ⟨false, .dk kvs⟩) := rfl
@[simp] theorem x_lock (Γ : Cxt) {e s} (σ : Sl) (κ : Cells) : exec Γ (.lock e s) σ κ = (exE (noexc (ev Γ e σ κ)) σ fun x => lockS Γ s σ κ (lockO κ x.1)) := by
  rw [exec]
  refine congrArg (exE _ _) (funext fun x => ?_)
  generalize x.1 = o
  cases o with
  | fz d =>
    cases d with
    | obj n =>
      rw [lockO_obj]
      unfold openAt
      dsimp only
      generalize κ[n]? = c0
      rcases c0 with _ | ⟨lk, co⟩
      · rfl
      · cases lk <;> cases co <;> rfl
    | _ => rfl
  | _ => rfl
@[simp] theorem x_drop (Γ : Cxt) {e} (σ : Sl) (κ : Cells) : exec Γ (.drop e) σ κ = (exE (ev Γ e σ κ) σ fun x => .nx σ x.2) := by
  rw [exec]
@[simp] theorem x_ret (Γ : Cxt) {e} (σ : Sl) (κ : Cells) : exec Γ (.ret e) σ κ = (exE (ev Γ e σ κ) σ fun x => exO x.1.frz fun d => .rt d x.2) := by
  rw [exec]
@[simp] theorem x_retN (Γ : Cxt) (σ : Sl) (κ : Cells) : exec Γ (.retN) σ κ = (.rt .non κ) := by
  rw [exec]
@[simp] theorem x_ite (Γ : Cxt) {c a b} (σ : Sl) (κ : Cells) : exec Γ (.ite c a b) σ κ = (exE (ev Γ c σ κ) σ fun x => exO (truD x.1.d) fun t => if t then exec Γ a σ x.2 else exec Γ b σ x.2) := by
  rw [exec]
@[simp] theorem x_for (Γ : Cxt) {tg it b} (σ : Sl) (κ : Cells) : exec Γ (.for_ tg it b) σ κ = (exE (evIt Γ it σ κ) σ fun r =>
      unlockR σ r.1.2 (forLoop (fun x σ κ => exO (assignT tg x σ) fun σ => exec Γ b σ κ) r.1.1 (lockAll σ r.1.2) r.2)) := by
  rw [exec]
@[simp] theorem x_whl (Γ : Cxt) {c b} (σ : Sl) (κ : Cells) : exec Γ (.whl c b) σ κ = (whileLoop (fun σ κ => (ev Γ c σ κ).bind fun x => (opt (truD x.1.d)).bind fun t => .ok (t, x.2)) (fun σ κ => exec Γ b σ κ) Γ.fuel σ κ) := by
  rw [exec]
@[simp] theorem x_raise (Γ : Cxt) {c es} (σ : Sl) (κ : Cells) : exec Γ (.raise c es) σ κ = (exE (evs Γ es σ κ) σ fun r => .xc c r.1 σ r.2) := by
  rw [exec]
def caught (Γ : Cxt) (hs : S) (r : Res) : Res := match r with
  | .xc c fs σ κ => exec.execH Γ hs c fs σ κ
  | r => r
@[simp] theorem x_try (Γ : Cxt) {b hs} (σ : Sl) (κ : Cells) : exec Γ (.try_ b hs) σ κ = caught Γ hs (exec Γ b σ κ) := by
  rw [exec]
  cases exec Γ b σ κ <;> rfl
@[simp] theorem caught_xc (Γ : Cxt) (hs : S) (c : Nat) (fs : List D) (σ : Sl) (κ : Cells) : caught Γ hs (.xc c fs σ κ) = exec.execH Γ hs c fs σ κ := rfl
@[simp] theorem caught_nx (Γ : Cxt) (hs : S) (σ : Sl) (κ : Cells) : caught Γ hs (.nx σ κ) = .nx σ κ := rfl
@[simp] theorem x_brk (Γ : Cxt) (σ : Sl) (κ : Cells) : exec Γ (.brk) σ κ = (.bk σ κ) := by
  rw [exec]
@[simp] theorem x_cnt (Γ : Cxt) (σ : Sl) (κ : Cells) : exec Γ (.cnt) σ κ = (.ct σ κ) := by
  rw [exec]
@[simp] theorem x_pass (Γ : Cxt) (σ : Sl) (κ : Cells) : exec Γ (.pass) σ κ = (.nx σ κ) := by
  rw [exec]
def frzAt (i : Nat) (o : Option (Option O)) (σ : Sl) (κ : Cells) : Res := match o with
  | some (some (.fz _)) => .nx σ κ
  | some (some o) => exO o.frz fun d => .nx (σ.set i (some (.fz d))) κ
  | _ => .nx σ κ
@[simp] theorem frzAt_fz (i : Nat) (d : D) (σ : Sl) (κ : Cells) : frzAt i (some (some (.fz d))) σ κ = .nx σ κ := rfl
@[simp] theorem frzAt_ol (i : Nat) (xs : List D) (σ : Sl) (κ : Cells) : frzAt i (some (some (.ol none xs))) σ κ = .nx (σ.set i (some (.fz (.lst xs)))) κ := rfl
@[simp] theorem x_frz (Γ : Cxt) {i} (σ : Sl) (κ : Cells) : exec Γ (.frz i) σ κ = frzAt i σ[i]? σ κ := by
  rw [exec]
  rcases σ[i]? with _ | _ | o <;> try rfl



/-! ### the small operations -/
@[simp] theorem truD_bl (b : Bool) : truD (.bl b) = some b := rfl
@[simp] theorem truD_int (i : Int) : truD (.int i) = some (i != 0) := rfl
@[simp] theorem b_add (i j : Int) : binD .add (.int i) (.int j) = some (.fz (.int (i + j))) := rfl
@[simp] theorem b_sub (i j : Int) : binD .sub (.int i) (.int j) = some (.fz (.int (i - j))) := rfl
theorem b_mul {i j : Int} (h : mulOk i j = true) : binD .mul (.int i) (.int j) = some (.fz (.int (i * j))) := if_pos h
theorem b_fdiv {i j : Int} (h : divOk j = true) : binD .fdiv (.int i) (.int j) = some (.fz (.int (i.fdiv j))) := if_pos h
theorem b_mod {i j : Int} (h : j ≠ 0) : binD .mod (.int i) (.int j) = some (.fz (.int (i.fmod j))) := if_neg h
theorem b_pow {i : Int} {j : Nat} (h : j ≤ 1000) (hi : i.natAbs < 2 ^ 64) : binD .pow (.int i) (.int j) = some (.fz (.int (i ^ j))) := by
  have h1 : (0 : Int) ≤ (j : Int) := by omega
  have h2 : (j : Int) ≤ 1000000 := by omega
  unfold binD
  simp only [decide_eq_true h1, decide_eq_true h2, decide_eq_true hi, Bool.and_self, if_true, Int.toNat_natCast]
theorem b_addT {xs ys : List D} (h : xs.length + ys.length ≤ sizeLine) : binD .add (.tup xs) (.tup ys) = some (.fz (.tup (xs ++ ys))) := if_pos h
theorem b_addL {xs ys : List D} (h : xs.length + ys.length ≤ sizeLine) : binD .add (.lst xs) (.lst ys) = some (.ol none (xs ++ ys)) := if_pos h
theorem flat_rep {α : Type} (d : α) : ∀ n : Nat, (List.replicate n [d]).flatten = List.replicate n d
  | 0 => rfl
  | n + 1 => by rw [List.replicate_succ, List.replicate_succ, List.flatten_cons, flat_rep d n]; rfl
theorem b_mulL {d : D} {n : Nat} (h : n ≤ 1000) : binD .mul (.lst [d]) (.int n) = some (.ol none (List.replicate n d)) := by
  have h1 : -(2 ^ 63) ≤ (n : Int) := by omega
  have h2 : (n : Int) < 2 ^ 63 := by omega
  have h3 : n ≤ sizeLine := by rw [sizeLine_eq]; omega
  rw [← flat_rep]
  have h4 : ([d].length * n ≤ sizeLine) := by
    rw [List.length_singleton, Nat.one_mul]
    exact h3
  unfold binD
  simp only [decide_eq_true h1, decide_eq_true h2, decide_eq_true h4, Bool.and_self, if_true, Int.toNat_natCast]
theorem b_mulT {d : D} {n : Nat} (h0 : 1 ≤ n) (h : n ≤ 1000) : binD .mul (.tup [d]) (.int n) = some (.fz (.tup (List.replicate n d))) := by
  have h1 : 1 ≤ (n : Int) := by omega
  have h2 : (n : Int) ≤ 1000 := by omega
  rw [← flat_rep]
  simp [binD, h1, h2]
@[simp] theorem n_int (i : Int) : negD (.int i) = some (.int (-i)) := rfl
@[simp] theorem cC_eq (κ : Cells) (x y : D) : cmpC κ .eq x y = eqC κ x y := rfl
@[simp] theorem cC_ne (κ : Cells) (x y : D) : cmpC κ .ne x y = (eqC κ x y).map (!·) := rfl
@[simp] theorem cC_in (κ : Cells) (x y : D) : cmpC κ .in_ x y = inC κ x y := rfl
@[simp] theorem cC_lt (κ : Cells) (x y : D) : cmpC κ .lt x y = cmpD .lt x y := rfl
@[simp] theorem cC_le (κ : Cells) (x y : D) : cmpC κ .le x y = cmpD .le x y := rfl
@[simp] theorem cC_gt (κ : Cells) (x y : D) : cmpC κ .gt x y = cmpD .gt x y := rfl
@[simp] theorem cC_ge (κ : Cells) (x y : D) : cmpC κ .ge x y = cmpD .ge x y := rfl
@[simp] theorem cC_is (κ : Cells) (x y : D) : cmpC κ .is x y = cmpD .is x y := rfl
@[simp] theorem cC_isnt (κ : Cells) (x y : D) : cmpC κ .isnt x y = cmpD .isnt x y := rfl
@[simp] theorem inC_obj (κ : Cells) (x : D) (n : Nat) : inC κ x (.obj n) = (readAt κ n).bind fun kvs => (keyOf x).map fun k => (lookP kvs k).isSome := rfl
@[simp] theorem inC_lst (κ : Cells) (x : D) (xs : List D) : inC κ x (.lst xs) = inD x (.lst xs) := rfl
@[simp] theorem inC_tup (κ : Cells) (x : D) (xs : List D) : inC κ x (.tup xs) = inD x (.tup xs) := rfl
@[simp] theorem eqC_int (κ : Cells) (i : Int) (y : D) : eqC κ (.int i) y = eqD (.int i) y := rfl
@[simp] theorem eqC_str (κ : Cells) (i : Str) (y : D) : eqC κ (.str i) y = eqD (.str i) y := rfl
@[simp] theorem eqC_tup (κ : Cells) (i : List D) (y : D) : eqC κ (.tup i) y = eqD (.tup i) y := rfl
@[simp] theorem eqC_lst (κ : Cells) (i : List D) (y : D) : eqC κ (.lst i) y = eqD (.lst i) y := rfl
@[simp] theorem eqC_bl (κ : Cells) (i : Bool) (y : D) : eqC κ (.bl i) y = eqD (.bl i) y := rfl
@[simp] theorem eqC_nonO (κ : Cells) (n : Nat) : eqC κ .non (.obj n) = (openAt κ n).map fun _ => false := rfl
@[simp] theorem eqC_nonN (κ : Cells) : eqC κ .non .non = eqD .non .non := rfl
@[simp] theorem eqC_obj (κ : Cells) (n m : Nat) : eqC κ (.obj n) (.obj m) = (openAt κ n).bind fun a => (openAt κ m).bind fun b => if a.length = b.length then eqKv a b else some false := rfl
@[simp] theorem bC_obj (κ : Cells) (b : Blt) (n : Nat) : blt1C κ b (.fz (.obj n)) = bltKv κ n b := rfl
@[simp] theorem bC_ol (κ : Cells) (b : Blt) (c : Option Nat) (xs : List D) : blt1C κ b (.ol c xs) = blt1D b (.ol c xs) := rfl
@[simp] theorem bC_tup (κ : Cells) (b : Blt) (xs : List D) : blt1C κ b (.fz (.tup xs)) = blt1D b (.fz (.tup xs)) := rfl
@[simp] theorem bC_lst (κ : Cells) (b : Blt) (xs : List D) : blt1C κ b (.fz (.lst xs)) = blt1D b (.fz (.lst xs)) := rfl
@[simp] theorem bC_scr (κ : Cells) (b : Blt) (xs : List D) : blt1C κ b (.fz (.scr xs)) = blt1D b (.fz (.scr xs)) := rfl
@[simp] theorem bC_int (κ : Cells) (b : Blt) (i : Int) : blt1C κ b (.fz (.int i)) = blt1D b (.fz (.int i)) := rfl
@[simp] theorem bC_str (κ : Cells) (b : Blt) (i : Str) : blt1C κ b (.fz (.str i)) = blt1D b (.fz (.str i)) := rfl
@[simp] theorem bC_bl (κ : Cells) (b : Blt) (i : Bool) : blt1C κ b (.fz (.bl i)) = blt1D b (.fz (.bl i)) := rfl
@[simp] theorem bC_non (κ : Cells) (b : Blt) : blt1C κ b (.fz .non) = blt1D b (.fz .non) := rfl
@[simp] theorem kv_len' (κ : Cells) (n : Nat) : bltKv κ n .len = (openAt κ n).map fun kvs => .fz (.int kvs.length) := rfl
@[simp] theorem kv_list' (κ : Cells) (n : Nat) : bltKv κ n .list = (readAt κ n).map fun kvs => .ol none (kvs.map fun p => kD p.1) := rfl
@[simp] theorem kv_sorted' (κ : Cells) (n : Nat) : bltKv κ n .sorted = (readAt κ n).bind fun kvs => (intKeys kvs).bind fun is => if is.length < 64 then some (.ol none ((sortI is).map .int)) else none := rfl
@[simp] theorem kv_min' (κ : Cells) (n : Nat) : bltKv κ n .min = (openAt κ n).bind fun kvs => (intKeys kvs).bind fun is => is.min?.map fun i => .fz (.int i) := rfl
@[simp] theorem kv_max' (κ : Cells) (n : Nat) : bltKv κ n .max = (openAt κ n).bind fun kvs => (intKeys kvs).bind fun is => is.max?.map fun i => .fz (.int i) := rfl
@[simp] theorem cellN_obj (κ : Cells) (n : Nat) : cellN κ (.obj n) = (readAt κ n).map fun _ => n := rfl
@[simp] theorem oe_some (d : D) (o : O) : orElseD (some d) o = some d := rfl
@[simp] theorem oe_none (d : D) : orElseD none (.fz d) = some d := rfl
@[simp] theorem dcp_obj (κ : Cells) (n : Nat) : dcpD κ (.obj n) = readAt κ n := rfl
@[simp] theorem dcp_lst (κ : Cells) (ps : List D) : dcpD κ (.lst ps) = (pairsD ps).map fun kvs => kvs.foldl (fun acc kv => putP acc kv.1 kv.2) [] := rfl
@[simp] theorem ix_obj (κ : Cells) (n : Nat) (y : D) : idxC κ (.obj n) y = (readAt κ n).bind fun kvs => idxD (.dK kvs) y := rfl
@[simp] theorem ix_dK (kvs : List (Key × D)) (y : D) : idxD (.dK kvs) y = (keyOf y).bind (lookP kvs) := rfl
@[simp] theorem c_eq (x y : D) : cmpD .eq x y = eqD x y := rfl
@[simp] theorem c_ne (x y : D) : cmpD .ne x y = (eqD x y).map (!·) := rfl
@[simp] theorem c_lt (i j : Int) : cmpD .lt (.int i) (.int j) = some (decide (i < j)) := rfl
@[simp] theorem c_gt (i j : Int) : cmpD .gt (.int i) (.int j) = some (decide (j < i)) := rfl
@[simp] theorem c_le (i j : Int) : cmpD .le (.int i) (.int j) = some (decide (i ≤ j)) := rfl
@[simp] theorem c_ge (i j : Int) : cmpD .ge (.int i) (.int j) = some (decide (j ≤ i)) := rfl
@[simp] theorem c_isB (a b : Bool) : cmpD .is (.bl a) (.bl b) = some (decide (a = b)) := rfl
@[simp] theorem c_isntB (a b : Bool) : cmpD .isnt (.bl a) (.bl b) = some (!decide (a = b)) := rfl
@[simp] theorem ix_tup (κ : Cells) (xs : List D) (i : Int) : idxC κ (.tup xs) (.int i) = atI xs i := rfl
@[simp] theorem ix_lst (κ : Cells) (xs : List D) (i : Int) : idxC κ (.lst xs) (.int i) = atI xs i := rfl
theorem atI_nat {α : Type} {xs : List α} {j : Nat} {d : α} (h : xs[j]? = some d) : atI xs (j : Int) = some d := by
  have hl : j < xs.length := by
    rcases (Nat.lt_or_ge j xs.length) with h' | h'
    · exact h'
    · rw [List.getElem?_eq_none h'] at h; simp at h
  have e : ixN xs.length (j : Int) = some j := by simp [ixN, hl]
  show (ixN xs.length (j : Int)).bind _ = _
  rw [e]
  exact h
@[simp] theorem atI_0 {α : Type} (a : α) (xs : List α) : atI (a :: xs) 0 = some a := atI_nat (j := 0) rfl
@[simp] theorem atI_1 {α : Type} (a b : α) (xs : List α) : atI (a :: b :: xs) 1 = some b := atI_nat (j := 1) rfl
@[simp] theorem atI_2 {α : Type} (a b c : α) (xs : List α) : atI (a :: b :: c :: xs) 2 = some c := atI_nat (j := 2) rfl
@[simp] theorem bd_non : boundD (.fz .non) = some none := rfl
@[simp] theorem bd_int (i : Int) : boundD (.fz (.int i)) = some (some i) := rfl
@[simp] theorem l_tup (xs : List D) : blt1D .len (.fz (.tup xs)) = some (.fz (.int xs.length)) := rfl
@[simp] theorem l_lst (b : Option Nat) (xs : List D) : blt1D .len (.ol b xs) = some (.fz (.int xs.length)) := rfl
@[simp] theorem l_flst (xs : List D) : blt1D .len (.fz (.lst xs)) = some (.fz (.int xs.length)) := rfl
@[simp] theorem t_tup (xs : List D) : blt1D .tuple (.fz (.tup xs)) = some (.fz (.tup xs)) := rfl
@[simp] theorem t_lst (b : Option Nat) (xs : List D) : blt1D .tuple (.ol b xs) = some (.fz (.tup xs)) := rfl
@[simp] theorem t_flst (xs : List D) : blt1D .tuple (.fz (.lst xs)) = some (.fz (.tup xs)) := rfl
@[simp] theorem li_tup (xs : List D) : blt1D .list (.fz (.tup xs)) = some (.ol none xs) := rfl
@[simp] theorem li_lst (b : Option Nat) (xs : List D) : blt1D .list (.ol b xs) = some (.ol none xs) := rfl
@[simp] theorem li_flst (xs : List D) : blt1D .list (.fz (.lst xs)) = some (.ol none xs) := rfl
@[simp] theorem li_fscr (xs : List D) : blt1D .list (.fz (.scr xs)) = some (.ol none xs) := rfl
@[simp] theorem i_int (i : Int) : blt1D .int (.fz (.int i)) = some (.fz (.int i)) := rfl
@[simp] theorem a_int (i : Int) : blt1D .abs (.fz (.int i)) = some (.fz (.int (if i < 0 then -i else i))) := rfl
@[simp] theorem b2_max (i j : Int) : blt2D .max (.int i) (.int j) = some (.int (if j > i then j else i)) := rfl
@[simp] theorem b2_gcd (i j : Int) : blt2D .gcd (.int i) (.int j) = some (.int ((Nat.gcd i.natAbs j.natAbs : Nat) : Int)) := rfl
theorem asBools_map {α : Type} (f : α → Bool) : ∀ xs : List α, asBools (xs.map fun x => .bl (f x)) = some (xs.map f)
  | [] => rfl
  | x :: xs => by simp [asBools, asBools_map f xs]
theorem all_map {α : Type} (b : Option Nat) (f : α → Bool) (xs : List α) : blt1D .all (.ol b (xs.map fun x => .bl (f x))) = some (.fz (.bl (xs.all f))) := by
  simp [blt1D, asBools_map]
theorem any_map {α : Type} (b : Option Nat) (f : α → Bool) (xs : List α) : blt1D .any (.ol b (xs.map fun x => .bl (f x))) = some (.fz (.bl (xs.any f))) := by
  simp [blt1D, asBools_map]
@[simp] theorem sq_tup (xs : List D) : seqD (.tup xs) = some xs := rfl
@[simp] theorem sq_lst (xs : List D) : seqD (.lst xs) = some xs := rfl
@[simp] theorem sq_scr (xs : List D) : seqD (.scr xs) = some xs := rfl
theorem range_nat {n : Nat} (h : n ≤ 2 ^ 40) : rangeD 0 (n : Int) = some ((List.range n).map fun (k : Nat) => D.int (k : Int)) := by
  have h2 : (n : Int) < 2 ^ 62 := by omega
  have h1 : -(2 ^ 62) ≤ (n : Int) := by omega
  unfold rangeD
  rw [decide_eq_true h1, decide_eq_true h2]
  simp
theorem zip_eq : ∀ xs ys : List D, zipD xs ys = (xs.zip ys).map fun p => .tup [p.1, p.2]
  | [], ys => by simp [zipD]
  | x :: xs, [] => by simp [zipD]
  | x :: xs, y :: ys => by simp [zipD, zip_eq xs ys]
@[simp] theorem st_fz (σ : Sl) (i : Nat) (d : D) (f : Sl → Res) : storeO σ i (.fz d) f = exO (setAt σ i (some (.fz d))) f := rfl
@[simp] theorem st_ol (σ : Sl) (i : Nat) (xs : List D) (f : Sl → Res) : storeO σ i (.ol none xs) f = exO (setAt σ i (some (.ol none xs))) f := rfl
@[simp] theorem k_int (i : Int) : keyOf (.int i) = some (.inl i) := rfl
@[simp] theorem k_str (x : Str) : keyOf (.str x) = some (.inr x) := rfl
@[simp] theorem h_non : hasTy .non = true := by simp only [hasTy]
@[simp] theorem h_bl (b : Bool) : hasTy (.bl b) = true := by simp only [hasTy]
@[simp] theorem h_int (i : Int) : hasTy (.int i) = true := by simp only [hasTy]
@[simp] theorem h_str (x : Str) : hasTy (.str x) = true := by simp only [hasTy]
@[simp] theorem h_tup (xs : List D) : hasTy (.tup xs) = true := by simp only [hasTy]
@[simp] theorem h_lst (xs : List D) : hasTy (.lst xs) = true := by simp only [hasTy]
@[simp] theorem h_ins (c : Nat) (xs : List D) : hasTy (.ins c xs) = true := by simp only [hasTy]

def slotFree : Option (Option O) → Bool
  | some (some (.ol (some _) _)) => false
  | some (some (.od (some _) _)) => false
  | some (some (.ot (some _) _)) => false
  | some _ => true
  | none => false
@[simp] theorem sf_none : slotFree (some none) = true := by simp only [slotFree]
@[simp] theorem sf_fz (d : D) : slotFree (some (some (.fz d))) = true := by simp only [slotFree]
@[simp] theorem sf_ol (xs : List D) : slotFree (some (some (.ol none xs))) = true := by simp only [slotFree]
@[simp] theorem sf_map (u : Option D) : slotFree (some (Option.map O.fz u)) = true := by cases u <;> simp only [slotFree, Option.map]
theorem setAt_eq (σ : Sl) (i : Nat) (o : Option O) : setAt σ i o = if slotFree σ[i]? = true then some (σ.set i o) else none := by
  unfold setAt unlocked
  rcases σ[i]? with _ | _ | o <;> rfl
end R

/-! Q0: fractions; how large they may be. -/
namespace R
open PySem L2
open scoped Rat
abbrev P0 : Prog := Pr.prog 100000
/-- what the bodies know -/
def Gm (n : Nat) : Cxt := ⟨P0.gl, [], callN P0 n, P0.fuel, P0.sub, P0.eqf⟩
@[simp] theorem Gm_calls (n : Nat) : (Gm n).calls = callN P0 n := rfl
@[simp] theorem Gm_fuel (n : Nat) : (Gm n).fuel = 100000 := rfl
theorem call0 {n f : Nat} {fn : Fn} {ds : List D} {κ : Cells} (hf : P0.fns[f]? = some fn) (hl : ds.length = fn.ps) :
    callN P0 (n + 1) f ds κ = (exec (Gm n) fn.body (startS fn ds) κ).out := callN_eq hf hl
theorem log_lt {n k : Nat} (h : n < 2 ^ (k + 1)) : n.log2 < k + 1 := by
  rcases Nat.eq_zero_or_pos n with h0 | h0
  · subst h0; simp
  · exact (Nat.log2_lt (by omega)).mpr h
/-- a number below 2^k -/
def Lt2 (k : Nat) (i : Int) : Prop := i.natAbs < 2 ^ k
theorem Lt2.up {k l : Nat} {i : Int} (h : Lt2 k i) (hl : k ≤ l) : Lt2 l i := Nat.lt_of_lt_of_le h (Nat.pow_le_pow_right (by decide) hl)
theorem Lt2.mul {k l : Nat} {i j : Int} (h : Lt2 k i) (g : Lt2 l j) : Lt2 (k + l) (i * j) := by
  unfold Lt2 at *
  rw [Int.natAbs_mul]; rw [Nat.pow_add]
  exact Nat.mul_lt_mul'' h g
theorem Lt2.ok {k l : Nat} {i j : Int} (h : Lt2 (k + 1) i) (g : Lt2 (l + 1) j) (hk : k + l ≤ 10000) : mulOk i j = true := by
  have h1 := log_lt h
  have h2 := log_lt g
  exact (decide_eq_true (by omega))
theorem divOk_lt {k : Nat} {j : Int} (h0 : j ≠ 0) (h : Lt2 (k + 1) j) (hk : k ≤ 8000) : divOk j = true := by
  have h := log_lt h
  unfold divOk
  rw [decide_eq_true h0, decide_eq_true (show j.natAbs.log2 < 9000 by omega)]
  rfl
/-- a fraction as it is written -/
def frD (q : Rat) : D := .tup [.int q.num, .int q.den]
/-- small in top and bottom -/
def Sz (k : Nat) (q : Rat) : Prop := Lt2 k q.num ∧ Lt2 k q.den
theorem Sz.up {k l : Nat} {q : Rat} (h : Sz k q) (hl : k ≤ l) : Sz l q := ⟨h.1.up hl, h.2.up hl⟩
theorem den0 (q : Rat) : (q.den : Int) ≠ 0 := by have := q.den_nz; omega
theorem den0' (q : Rat) : 0 < (q.den : Int) := by have := q.den_pos; omega
theorem frD0 : frD 0 = .tup [.int 0, .int 1] := rfl
theorem frD1 : frD 1 = .tup [.int 1, .int 1] := rfl
/-- z / Δ, z not beyond M -/
def Dv (Δ M : Nat) (r : Rat) : Prop := ∃ z : Int, z.natAbs ≤ M ∧ r = z /. Δ
theorem Dv.sz {Δ M : Nat} {r : Rat} (h : Dv Δ M r) (h0 : 0 < Δ) {k : Nat} (hM : M < 2 ^ k) (hD : Δ < 2 ^ k) : Sz k r := by
  obtain ⟨z, hz, rfl⟩ := h
  have h1 : (z /. (Δ : Int)).num.natAbs ≤ z.natAbs := by
    rw [Rat.num_divInt, Int.sign_eq_one_of_pos (by omega), Int.one_mul]
    exact Int.natAbs_ediv_le_natAbs _ _
  have h2 : (z /. (Δ : Int)).den ≤ Δ := by
    rw [Rat.den_divInt, if_neg (by omega), Int.natAbs_natCast]
    exact Nat.div_le_self _ _
  exact ⟨show _ < _ by omega, show _ < _ by rw [Int.natAbs_natCast]; omega⟩
theorem Dv.up {Δ M M' : Nat} {r : Rat} (h : Dv Δ M r) (hm : M ≤ M') : Dv Δ M' r := let ⟨z, a, b⟩ := h; ⟨z, Nat.le_trans a hm, b⟩
theorem Dv.zero (Δ M : Nat) : Dv Δ M 0 := ⟨0, Nat.zero_le _, by simp⟩
theorem Dv.neg {Δ M : Nat} {r : Rat} (h : Dv Δ M r) : Dv Δ M (-r) := by
  obtain ⟨z, a, rfl⟩ := h
  exact ⟨-z, by omega, Rat.neg_divInt _ _⟩
theorem Dv.add {Δ M M' : Nat} {r s : Rat} (h : Dv Δ M r) (g : Dv Δ M' s) (h0 : 0 < Δ) : Dv Δ (M + M') (r + s) := by
  obtain ⟨z, a, rfl⟩ := h
  obtain ⟨y, b, rfl⟩ := g
  have hd : (Δ : Int) ≠ 0 := by omega
  refine ⟨z + y, by omega, ?_⟩
  rw [Rat.divInt_add_divInt _ _ hd hd, ← Int.add_mul, Rat.divInt_mul_right hd]
theorem Dv.mul {Δ Δ' M M' : Nat} {r s : Rat} (h : Dv Δ M r) (g : Dv Δ' M' s) : Dv (Δ * Δ') (M * M') (r * s) := by
  obtain ⟨z, a, rfl⟩ := h
  obtain ⟨y, b, rfl⟩ := g
  refine ⟨z * y, by rw [Int.natAbs_mul]; exact Nat.mul_le_mul a b, ?_⟩
  rw [Rat.divInt_mul_divInt, Int.natCast_mul]
theorem Dv.scale {Δ M : Nat} {r : Rat} (h : Dv Δ M r) (k : Nat) (hk : 0 < k) : Dv (Δ * k) (M * k) r := by
  obtain ⟨z, a, rfl⟩ := h
  refine ⟨z * k, by rw [Int.natAbs_mul, Int.natAbs_natCast]; exact Nat.mul_le_mul_right _ a, ?_⟩
  rw [Int.natCast_mul, Rat.divInt_mul_right (by omega)]
theorem Dv.self (r : Rat) : Dv r.den r.num.natAbs r := ⟨r.num, Nat.le_refl _, (Rat.num_divInt_den r).symm⟩
/-! ### the program's sums -/
theorem fdiv_gcd {a b : Int} (hb : b ≠ 0) : a.fdiv (if 0 < b then ((Nat.gcd a.natAbs b.natAbs : Nat) : Int) else -((Nat.gcd a.natAbs b.natAbs : Nat) : Int)) = (a /. b).num ∧
    b.fdiv (if 0 < b then ((Nat.gcd a.natAbs b.natAbs : Nat) : Int) else -((Nat.gcd a.natAbs b.natAbs : Nat) : Int)) = (a /. b).den := by
  have hg : (Nat.gcd a.natAbs b.natAbs : Int) ∣ a := Int.ofNat_dvd_left.mpr (Nat.gcd_dvd_left _ _)
  have hg2 : (Nat.gcd a.natAbs b.natAbs : Int) ∣ b := Int.ofNat_dvd_left.mpr (Nat.gcd_dvd_right _ _)
  have gp : 0 < Nat.gcd a.natAbs b.natAbs := Nat.gcd_pos_of_pos_right _ (by omega)
  have eg : b.gcd a = Nat.gcd a.natAbs b.natAbs := Nat.gcd_comm _ _
  rw [Rat.num_divInt, Rat.den_divInt, if_neg hb, eg]
  generalize Nat.gcd a.natAbs b.natAbs = G at *
  by_cases h : 0 < b
  · rw [if_pos h, Int.sign_eq_one_of_pos h, Int.one_mul, Int.fdiv_eq_ediv_of_nonneg _ (by omega), Int.fdiv_eq_ediv_of_nonneg _ (by omega)]
    refine ⟨rfl, ?_⟩
    rw [Int.natCast_ediv]
    congr 1
    omega
  · have hn : b < 0 := by omega
    rw [if_neg h, Int.sign_eq_neg_one_of_neg hn]
    have e : ∀ c : Int, (G : Int) ∣ c → c.fdiv (-(G : Int)) = -(c / G) := fun c hc => by
      obtain ⟨d, rfl⟩ := hc
      rw [Int.mul_ediv_cancel_left _ (by omega), show (G : Int) * d = (-(G : Int)) * (-d) by rw [Int.neg_mul_neg], Int.mul_fdiv_cancel_left _ (by omega)]
    rw [e a hg, e b hg2, Int.natCast_ediv]
    refine ⟨?_, ?_⟩
    · rw [Int.neg_mul, Int.one_mul, Int.neg_ediv_of_dvd hg]
    · rw [← Int.neg_ediv_of_dvd hg2]
      congr 1
      omega
theorem gcd_lt {k : Nat} {a b : Int} (hb : b ≠ 0) (h : Lt2 k b) : Lt2 k ((Nat.gcd a.natAbs b.natAbs : Nat) : Int) ∧ ((Nat.gcd a.natAbs b.natAbs : Nat) : Int) ≠ 0 := by
  have h1 := Nat.gcd_le_right a.natAbs (show 0 < b.natAbs by omega)
  have gp : 0 < Nat.gcd a.natAbs b.natAbs := Nat.gcd_pos_of_pos_right _ (by omega)
  refine ⟨?_, by omega⟩
  unfold Lt2 at *
  rw [Int.natAbs_natCast]
  omega
theorem fracof_ok (n : Nat) (a b : Int) (κ : Cells) (hb : b ≠ 0) (hs : Lt2 (8000 + 1) b) : callN P0 (n + 1) 3 [.int a, .int b] κ = .ok (frD (a /. b), κ) := by
  rw [call0 (fn := ⟨2, 3, Pr.b_fraction_of⟩) rfl rfl]
  obtain ⟨g1, g2⟩ := gcd_lt (a := a) hb hs
  have hd : divOk ((Nat.gcd a.natAbs b.natAbs : Nat) : Int) = true := divOk_lt g2 g1 (by decide)
  have hd' : divOk (-((Nat.gcd a.natAbs b.natAbs : Nat) : Int)) = true := divOk_lt (by omega) (show Lt2 _ _ by unfold Lt2 at *; rw [Int.natAbs_neg]; exact g1) (by decide)
  obtain ⟨e1, e2⟩ := fdiv_gcd (a := a) hb
  by_cases h : 0 < b
  · rw [if_pos h] at e1 e2
    simp [sizeLine_eq, startS, wipeS, assignT, assign1, setAt_eq, isTy, Pr.b_fraction_of, h, b_fdiv hd, frD, e1, e2]
  · rw [if_neg h] at e1 e2
    simp [sizeLine_eq, startS, wipeS, assignT, assign1, setAt_eq, isTy, Pr.b_fraction_of, h, b_fdiv hd', frD, e1, e2]
theorem added_eq (p q : Rat) : (p.num * q.den + q.num * p.den) /. ((p.den : Int) * q.den) = p + q := by
  rw [Rat.add_def', ← Int.natCast_mul, Rat.divInt_ofNat]
theorem mul_eq (p q : Rat) : (p.num * q.num) /. ((p.den : Int) * q.den) = p * q := by
  rw [Rat.mul_def', ← Int.natCast_mul, Rat.divInt_ofNat]
theorem div_eq (p q : Rat) : (p.num * q.den) /. ((p.den : Int) * q.num) = p / q := by
  rw [Rat.div_def, Rat.inv_def]
  conv => rhs; rw [← Rat.num_divInt_den p]
  rw [Rat.divInt_mul_divInt]
theorem num0 {q : Rat} (h : q ≠ 0) : q.num ≠ 0 := fun z => h (Rat.num_eq_zero.mp z)
theorem added_ok (n : Nat) (p q : Rat) (κ : Cells) (hp : Sz (4000 + 1) p) (hq : Sz (3998 + 1) q) : callN P0 (n + 2) 4 [frD p, frD q] κ = .ok (frD (p + q), κ) := by
  rw [call0 (fn := ⟨2, 2, Pr.b_added⟩) rfl rfl]
  have e := fracof_ok n (p.num * q.den + q.num * p.den) (p.den * q.den) κ (Int.mul_ne_zero (den0 p) (den0 q)) ((hp.2.mul hq.2).up (by decide))
  rw [added_eq] at e
  simp [sizeLine_eq, startS, wipeS, assignT, assign1, setAt_eq, isTy, Pr.b_added, frD, b_mul (hp.1.ok hq.2 (by decide)), b_mul (hq.1.ok hp.2 (by decide)), b_mul (hp.2.ok hq.2 (by decide))]
  rw [e]
  simp [sizeLine_eq, startS, wipeS, assignT, assign1, setAt_eq, isTy, frD]
theorem divided_ok (n : Nat) (p q : Rat) (κ : Cells) (h0 : q ≠ 0) (hp : Sz (4000 + 1) p) (hq : Sz (3998 + 1) q) : callN P0 (n + 2) 6 [frD p, frD q] κ = .ok (frD (p / q), κ) := by
  rw [call0 (fn := ⟨2, 2, Pr.b_divided⟩) rfl rfl]
  have e := fracof_ok n (p.num * q.den) (p.den * q.num) κ (Int.mul_ne_zero (den0 p) (num0 h0)) ((hp.2.mul hq.1).up (by decide))
  rw [div_eq] at e
  simp [sizeLine_eq, startS, wipeS, assignT, assign1, setAt_eq, isTy, Pr.b_divided, frD, b_mul (hp.1.ok hq.2 (by decide)), b_mul (hp.2.ok hq.1 (by decide))]
  rw [e]
  simp [sizeLine_eq, startS, wipeS, assignT, assign1, setAt_eq, isTy, frD]
end R

/-! Q1: the law's own fractions. -/
namespace R
open PySem L2
open scoped Rat
theorem wh_stop {test : Sl → Cells → Out (Bool × Cells)} {body : Sl → Cells → Res} {n : Nat} {σ : Sl} {κ κ' : Cells} (h : test σ κ = .ok (false, κ')) : whileLoop test body (n + 1) σ κ = .nx σ κ' := by
  rw [whileLoop, h]
  rfl
theorem wh_step {test : Sl → Cells → Out (Bool × Cells)} {body : Sl → Cells → Res} {n : Nat} {σ σ' : Sl} {κ κ' κ2 : Cells} (h : test σ κ = .ok (true, κ')) (hb : body σ κ' = .nx σ' κ2) : whileLoop test body (n + 1) σ κ = whileLoop test body n σ' κ2 := by
  rw [whileLoop, h]
  show (match body σ κ' with
    | .nx σ κ => whileLoop test body n σ κ
    | .ct σ κ => whileLoop test body n σ κ
    | .bk σ κ => .nx σ κ
    | r => r) = _
  rw [hb]
theorem euc_half {a b : Nat} (hb : 0 < b) (hab : b ≤ a) : b * (a % b) * 2 ≤ a * b := by
  have h1 := Nat.mod_add_div a b
  have h2 : 1 ≤ a / b := (Nat.one_le_div_iff hb).mpr hab
  have h3 := Nat.mod_lt a hb
  have h4 : b ≤ b * (a / b) := Nat.le_mul_of_pos_right b (by omega)
  have h5 : a % b * 2 ≤ a := by omega
  calc b * (a % b) * 2 = b * (a % b * 2) := by rw [Nat.mul_assoc]
    _ ≤ b * a := Nat.mul_le_mul_left b h5
    _ = a * b := Nat.mul_comm b a
def sl2 (a b : Nat) : Sl := [some (.fz (.int a)), some (.fz (.int b))]
theorem euc_wh {test : Sl → Cells → Out (Bool × Cells)} {body : Sl → Cells → Res} {κ : Cells} (h0 : ∀ a, test (sl2 a 0) κ = .ok (false, κ)) (h1 : ∀ a b, 0 < b → test (sl2 a b) κ = .ok (true, κ)) (h2 : ∀ a b, 0 < b → body (sl2 a b) κ = .nx (sl2 b (a % b)) κ) :
    ∀ (m a b fuel : Nat), b ≤ a → a * b < 2 ^ m → m < fuel → whileLoop test body fuel (sl2 a b) κ = .nx (sl2 (Nat.gcd a b) 0) κ
  | m, a, b, fuel, hab, hlt, hm => by
    obtain ⟨f, rfl⟩ : ∃ f, fuel = f + 1 := ⟨fuel - 1, by omega⟩
    rcases Nat.eq_zero_or_pos b with hb | hb
    · subst hb
      rw [wh_stop (h0 a), Nat.gcd_zero_right]
    · rw [wh_step (h1 a b hb) (h2 a b hb)]
      have hh := euc_half hb hab
      cases m with
      | zero =>
        have : 0 < a * b := Nat.mul_pos (by omega) hb
        simp at hlt
        omega
      | succ m =>
        have eg : Nat.gcd a b = Nat.gcd b (a % b) := by rw [Nat.gcd_comm a b, Nat.gcd_rec b a, Nat.gcd_comm]
        rw [eg]
        exact euc_wh h0 h1 h2 m b (a % b) f (Nat.le_of_lt (Nat.mod_lt a hb)) (by rw [Nat.pow_succ] at hlt; omega) (by omega)
theorem euc_wh2 {test : Sl → Cells → Out (Bool × Cells)} {body : Sl → Cells → Res} {κ : Cells} (h0 : ∀ a, test (sl2 a 0) κ = .ok (false, κ)) (h1 : ∀ a b, 0 < b → test (sl2 a b) κ = .ok (true, κ)) (h2 : ∀ a b, 0 < b → body (sl2 a b) κ = .nx (sl2 b (a % b)) κ)
    (m a b fuel : Nat) (hlt : a * b < 2 ^ m) (hm : m + 1 < fuel) : whileLoop test body fuel (sl2 a b) κ = .nx (sl2 (Nat.gcd a b) 0) κ := by
  by_cases hab : b ≤ a
  · exact euc_wh h0 h1 h2 m a b fuel hab hlt (by omega)
  · obtain ⟨f, rfl⟩ : ∃ f, fuel = f + 1 := ⟨fuel - 1, by omega⟩
    rw [wh_step (h1 a b (by omega)) (h2 a b (by omega)), Nat.mod_eq_of_lt (by omega), Nat.gcd_comm]
    exact euc_wh h0 h1 h2 m b a f (by omega) (by rw [Nat.mul_comm]; exact hlt) (by omega)
theorem abs_nat (a : Int) : (if a < 0 then -a else a) = (a.natAbs : Int) := by split <;> omega
theorem a_nat (a : Int) : blt1D .abs (.fz (.int a)) = some (.fz (.int a.natAbs)) := by
  rw [a_int, abs_nat]
theorem lgcd_ok (n : Nat) (a b : Int) (κ : Cells) (ha : Lt2 (9000 + 1) a) (hb : Lt2 (9000 + 1) b) : callN P0 (n + 1) 30 [.int a, .int b] κ = .ok (.int (Nat.gcd a.natAbs b.natAbs : Nat), κ) := by
  rw [call0 (fn := ⟨2, 2, Pr.b__law_gcd⟩) rfl rfl]
  have hm : a.natAbs * b.natAbs < 2 ^ (9001 + 9001) := by
    rw [Nat.pow_add]
    exact Nat.mul_lt_mul'' ha hb
  have hw := euc_wh2 (κ := κ) (test := fun σ κ => (ev (Gm n) (.cmp .ne (.var 1) (.cst (.int 0))) σ κ).bind fun x => (opt (truD x.1.d)).bind fun t => .ok (t, x.2))
    (body := fun σ κ => exec (Gm n) (.cons (.par [0, 1] (.cons (.var 1) (.cons (.bin .mod (.var 0) (.var 1)) .nil))) .nil) σ κ)
    (fun a => by simp [sizeLine_eq, startS, wipeS, assignT, assign1, setAt_eq, isTy, sl2]) (fun a b hb => by simp [sizeLine_eq, startS, wipeS, assignT, assign1, setAt_eq, isTy, sl2]; omega) (fun a b hb => by
      have h0 : ((b : Nat) : Int) ≠ 0 := by omega
      have e : ((a : Nat) : Int).fmod ((b : Nat) : Int) = ((a % b : Nat) : Int) := by rw [Int.fmod_eq_emod_of_nonneg _ (by omega)]; omega
      simp [sizeLine_eq, startS, wipeS, assignT, assign1, setAt_eq, isTy, sl2, exec.exec1, exec.evos, exec.assignO, b_mod h0, e])
    (9001 + 9001) a.natAbs b.natAbs 100000 hm (by decide)
  simp [sizeLine_eq, startS, wipeS, assignT, assign1, setAt_eq, isTy, -a_int, a_nat, Pr.b__law_gcd, exec.exec1, exec.evos, exec.assignO]
  refine Eq.trans (congrArg (fun z => (Res.then _ _ z).out) hw) ?_
  simp [sizeLine_eq, startS, wipeS, assignT, assign1, setAt_eq, isTy, sl2]
theorem lpart_ok (n : Nat) (a b : Int) (κ : Cells) (h0 : b ≠ 0) (ha : Lt2 (9000 + 1) a) (hb : Lt2 (8000 + 1) b) : callN P0 (n + 2) 31 [.int a, .int b] κ = .ok (frD (a /. b), κ) := by
  rw [call0 (fn := ⟨2, 3, Pr.b__law_part⟩) rfl rfl]
  obtain ⟨g1, g2⟩ := gcd_lt (a := a) h0 hb
  have hd : divOk ((Nat.gcd a.natAbs b.natAbs : Nat) : Int) = true := divOk_lt g2 g1 (by decide)
  have hd' : divOk (-((Nat.gcd a.natAbs b.natAbs : Nat) : Int)) = true := divOk_lt (by omega) (show Lt2 _ _ by unfold Lt2 at *; rw [Int.natAbs_neg]; exact g1) (by decide)
  obtain ⟨e1, e2⟩ := fdiv_gcd (a := a) h0
  have eg := lgcd_ok n a b κ ha (hb.up (by decide))
  by_cases h : 0 < b
  · rw [if_pos h] at e1 e2
    simp [sizeLine_eq, startS, wipeS, assignT, assign1, setAt_eq, isTy, Pr.b__law_part, h, b_fdiv hd, frD, e1, e2, eg]
  · rw [if_neg h] at e1 e2
    simp [sizeLine_eq, startS, wipeS, assignT, assign1, setAt_eq, isTy, Pr.b__law_part, h, b_fdiv hd', frD, e1, e2, eg]
theorem Lt2.add {k : Nat} {i j : Int} (h : Lt2 k i) (g : Lt2 k j) : Lt2 (k + 1) (i + j) := by
  unfold Lt2 at *
  have := Int.natAbs_add_le i j
  rw [Nat.pow_succ]
  omega
theorem ladd_ok (n : Nat) (p q : Rat) (κ : Cells) (hp : Sz (4000 + 1) p) (hq : Sz (3998 + 1) q) : callN P0 (n + 3) 32 [frD p, frD q] κ = .ok (frD (p + q), κ) := by
  rw [call0 (fn := ⟨2, 2, Pr.b__law_add⟩) rfl rfl]
  have e := lpart_ok n (p.num * q.den + q.num * p.den) (p.den * q.den) κ (Int.mul_ne_zero (den0 p) (den0 q)) (((hp.1.mul hq.2).add ((hq.1.mul hp.2).up (by decide))).up (by decide)) ((hp.2.mul hq.2).up (by decide))
  rw [added_eq] at e
  simp [sizeLine_eq, startS, wipeS, assignT, assign1, setAt_eq, isTy, Pr.b__law_add, frD, b_mul (hp.1.ok hq.2 (by decide)), b_mul (hq.1.ok hp.2 (by decide)), b_mul (hp.2.ok hq.2 (by decide))]
  rw [e]
  simp [sizeLine_eq, startS, wipeS, assignT, assign1, setAt_eq, isTy, frD]
theorem lby_ok (n : Nat) (p q : Rat) (κ : Cells) (hp : Sz (4000 + 1) p) (hq : Sz (3998 + 1) q) : callN P0 (n + 3) 33 [frD p, frD q] κ = .ok (frD (p * q), κ) := by
  rw [call0 (fn := ⟨2, 2, Pr.b__law_by⟩) rfl rfl]
  have e := lpart_ok n (p.num * q.num) (p.den * q.den) κ (Int.mul_ne_zero (den0 p) (den0 q)) ((hp.1.mul hq.1).up (by decide)) ((hp.2.mul hq.2).up (by decide))
  rw [mul_eq] at e
  simp [sizeLine_eq, startS, wipeS, assignT, assign1, setAt_eq, isTy, Pr.b__law_by, frD, b_mul (hp.1.ok hq.1 (by decide)), b_mul (hp.2.ok hq.2 (by decide))]
  rw [e]
  simp [sizeLine_eq, startS, wipeS, assignT, assign1, setAt_eq, isTy, frD]
theorem lover_ok (n : Nat) (p q : Rat) (κ : Cells) (h0 : q ≠ 0) (hp : Sz (4000 + 1) p) (hq : Sz (3998 + 1) q) : callN P0 (n + 3) 34 [frD p, frD q] κ = .ok (frD (p / q), κ) := by
  rw [call0 (fn := ⟨2, 2, Pr.b__law_over⟩) rfl rfl]
  have e := lpart_ok n (p.num * q.den) (p.den * q.num) κ (Int.mul_ne_zero (den0 p) (num0 h0)) ((hp.1.mul hq.2).up (by decide)) ((hp.2.mul hq.1).up (by decide))
  rw [div_eq] at e
  simp [sizeLine_eq, startS, wipeS, assignT, assign1, setAt_eq, isTy, Pr.b__law_over, frD, b_mul (hp.1.ok hq.2 (by decide)), b_mul (hp.2.ok hq.1 (by decide))]
  rw [e]
  simp [sizeLine_eq, startS, wipeS, assignT, assign1, setAt_eq, isTy, frD]
end R

/-! Q2: sums of powers as lists; dicts of them. -/
namespace R
open PySem L2
open scoped Rat
/-- orders with what stands ahead of them -/
abbrev W := List (Int × Rat)
def cf : W → Int → Rat
  | [], _ => 0
  | p :: w, k => (if p.1 = k then p.2 else 0) + cf w k
def keysW (w : W) : List Int := w.map (·.1)
def tD (p : Int × Rat) : D := .tup [.int p.1, .int p.2.num, .int p.2.den]
def wD (w : W) : D := .tup (w.map tD)
structure Can (w : W) : Prop where
  asc : w.Pairwise fun a b => a.1 < b.1
  nz : ∀ p ∈ w, p.2 ≠ 0
theorem cf_app (w v : W) (k : Int) : cf (w ++ v) k = cf w k + cf v k := by
  induction w with
  | nil => simp [cf]; grind
  | cons p w ih => simp only [List.cons_append, cf, ih]; grind
theorem cf_no {w : W} {k : Int} (h : ∀ p ∈ w, p.1 ≠ k) : cf w k = 0 := by
  induction w with
  | nil => rfl
  | cons p w ih =>
    rw [cf, if_neg (h p (by simp)), ih fun q hq => h q (by simp [hq])]
    grind
theorem cf_mem {w : W} (nd : (keysW w).Nodup) {p : Int × Rat} (h : p ∈ w) : cf w p.1 = p.2 := by
  induction w with
  | nil => simp at h
  | cons q w ih =>
    rw [keysW, List.map_cons, List.nodup_cons] at nd
    rcases (List.mem_cons.mp h) with e | e
    · subst e
      rw [cf, if_pos rfl, cf_no fun r hr z => nd.1 (by rw [← z]; exact List.mem_map_of_mem hr)]
      grind
    · have ne : q.1 ≠ p.1 := fun z => nd.1 (by rw [z]; exact List.mem_map_of_mem e)
      rw [cf, if_neg ne, ih nd.2 e]
      grind
theorem Can.nd {w : W} (h : Can w) : (keysW w).Nodup := by
  rw [keysW, List.Nodup, List.pairwise_map]
  exact h.asc.imp fun hab => by omega
theorem Can.tail {p : Int × Rat} {w : W} (h : Can (p :: w)) : Can w := ⟨(List.pairwise_cons.mp h.asc).2, fun q hq => h.nz q (by simp [hq])⟩
theorem Can.head {p : Int × Rat} {w : W} (h : Can (p :: w)) : ∀ q ∈ w, p.1 < q.1 := (List.pairwise_cons.mp h.asc).1
theorem cf_head {p : Int × Rat} {w : W} (h : Can (p :: w)) : cf (p :: w) p.1 = p.2 := cf_mem h.nd (by simp)
theorem cf_low {p : Int × Rat} {w : W} (h : Can (p :: w)) {k : Int} (hk : k < p.1) : cf (p :: w) k = 0 := cf_no fun q hq => by
  rcases (List.mem_cons.mp hq) with e | e
  · subst e; omega
  · have := h.head q e; omega
theorem can_ext : ∀ {w v : W}, Can w → Can v → (∀ k, cf w k = cf v k) → w = v
  | [], [], _, _, _ => rfl
  | [], p :: v, _, hv, h => by
    have := h p.1
    rw [cf_head hv] at this
    exact absurd this.symm (hv.nz p (by simp))
  | p :: w, [], hw, _, h => by
    have := h p.1
    rw [cf_head hw] at this
    exact absurd this (hw.nz p (by simp))
  | p :: w, q :: v, hw, hv, h => by
    have e : p.1 = q.1 := by
      rcases Int.lt_trichotomy p.1 q.1 with z | z | z
      · have := h p.1
        rw [cf_head hw, cf_low hv z] at this
        exact absurd this (hw.nz p (by simp))
      · exact z
      · have := h q.1
        rw [cf_head hv, cf_low hw z] at this
        exact absurd this.symm (hv.nz q (by simp))
    have e2 : p.2 = q.2 := by
      have := h p.1
      rw [cf_head hw, e, cf_head hv] at this
      exact this
    have ep : p = q := Prod.ext e e2
    subst ep
    rw [can_ext hw.tail hv.tail fun k => by
      have := h k
      rw [cf, cf] at this
      grind]
theorem cf_nil {w : W} (h : Can w) (z : ∀ k, cf w k = 0) : w = [] := can_ext h ⟨.nil, by simp⟩ z
/-! ### dicts -/
def kd (K : W) : List (Key × D) := K.map fun p => (.inl p.1, frD p.2)
def setW (K : W) (k : Int) (v : Rat) : W := if K.any (fun p => decide (p.1 = k)) = true then K.map (fun p => if p.1 = k then (p.1, v) else p) else K ++ [(k, v)]
def dropW (K : W) (k : Int) : W := K.filter fun p => decide (p.1 ≠ k)
theorem look_kd (K : W) (k : Int) : (lookP (kd K) (.inl k)) = (K.find? fun p => decide (p.1 = k)).map fun p => frD p.2 := by
  induction K with
  | nil => rfl
  | cons p K ih =>
    unfold lookP kd at *
    rw [List.map_cons, List.find?_cons, List.find?_cons]
    by_cases h : p.1 = k
    · simp [h]
    · simp only [Sum.inl.injEq, h, decide_false]
      exact ih
theorem find_cf {K : W} (nd : (keysW K).Nodup) (k : Int) : (∃ p, K.find? (fun p => decide (p.1 = k)) = some p ∧ p.1 = k ∧ p.2 = cf K k) ∨ (K.find? (fun p => decide (p.1 = k)) = none ∧ cf K k = 0) := by
  cases e : K.find? (fun p => decide (p.1 = k)) with
  | none =>
    refine .inr ⟨rfl, cf_no fun p hp z => ?_⟩
    have := List.find?_eq_none.mp e p hp
    simp [z] at this
  | some p =>
    have h1 := List.mem_of_find?_eq_some e
    have h2 : p.1 = k := by simpa using List.find?_some e
    refine .inl ⟨p, rfl, h2, ?_⟩
    rw [← h2]
    exact (cf_mem nd h1).symm
theorem get_kd {K : W} (nd : (keysW K).Nodup) (k : Int) : orElseD (lookP (kd K) (.inl k)) (.fz (.tup [.int 0, .int 1])) = some (frD (cf K k)) := by
  rw [look_kd]
  rcases find_cf nd k with ⟨p, e, _, h⟩ | ⟨e, h⟩
  · rw [e, ← h]; rfl
  · rw [e, h]; rfl
theorem put_kd (K : W) (k : Int) (v : Rat) : putP (kd K) (.inl k) (frD v) = kd (setW K k v) := by
  have ha : ((kd K).any fun p => decide (p.1 = Sum.inl k)) = K.any fun p => decide (p.1 = k) := by
    unfold kd
    rw [List.any_map]
    congr 1
    funext p
    simp
  unfold putP setW
  rw [ha]
  split
  · unfold kd
    rw [List.map_map]; rw [List.map_map]
    refine (List.map_congr_left fun p hp => ?_)
    by_cases h : p.1 = k <;> simp [h]
  · unfold kd
    rw [List.map_append]
    rfl
theorem drop_kd (K : W) (k : Int) : dropP (kd K) (.inl k) = kd (dropW K k) := by
  unfold dropP dropW kd
  rw [List.filter_map]
  congr 1
  refine (List.filter_congr fun p hp => ?_)
  simp
theorem cf_put {K : W} (nd : (keysW K).Nodup) (k : Int) (v : Rat) (j : Int) : cf (setW K k v) j = if j = k then v else cf K j := by
  unfold setW
  by_cases ha : K.any (fun p => decide (p.1 = k)) = true
  · rw [if_pos ha]
    induction K with
    | nil => simp at ha
    | cons p K ih =>
      rw [keysW, List.map_cons, List.nodup_cons] at nd
      rw [List.map_cons, cf]
      by_cases hp : p.1 = k
      · have e : K.map (fun q => if q.1 = k then (q.1, v) else q) = K := by
          rw [show K = K.map id by simp]
          rw [List.map_map]
          refine List.map_congr_left fun q hq => ?_
          have : q.1 ≠ k := fun z => nd.1 (by rw [hp, ← z]; exact List.mem_map_of_mem hq)
          simp [this]
        rw [e, if_pos hp]
        simp only [hp]
        by_cases hj : j = k
        · subst hj
          have e2 : cf K j = 0 := cf_no fun q hq z => nd.1 (by rw [hp, ← z]; exact List.mem_map_of_mem hq)
          rw [if_pos rfl, if_pos rfl, e2]
          grind
        · rw [if_neg (fun z => hj z.symm), if_neg hj, cf, if_neg (by rw [hp]; exact fun z => hj z.symm)]
      · have ha' : K.any (fun p => decide (p.1 = k)) = true := by simpa [hp] using ha
        rw [if_neg hp, ih nd.2 ha']
        by_cases hj : j = k
        · subst hj
          rw [if_pos rfl, if_pos rfl, if_neg hp]
          grind
        · rw [if_neg hj, if_neg hj, cf]
  · rw [if_neg ha, cf_app]
    have e2 : cf K k = 0 := cf_no fun q hq z => ha (List.any_eq_true.mpr ⟨q, hq, by simp [z]⟩)
    simp only [cf]
    by_cases hj : j = k
    · subst hj; rw [e2, if_pos rfl]; grind
    · rw [if_neg (fun z => hj z.symm), if_neg hj]; grind
theorem keys_put (K : W) (k : Int) (v : Rat) : keysW (setW K k v) = if k ∈ keysW K then keysW K else keysW K ++ [k] := by
  have hm : (K.any (fun p => decide (p.1 = k)) = true) ↔ k ∈ keysW K := by
    rw [List.any_eq_true, keysW, List.mem_map]
    exact ⟨fun ⟨p, h, e⟩ => ⟨p, h, by simpa using e⟩, fun ⟨p, h, e⟩ => ⟨p, h, by simpa using e⟩⟩
  unfold setW
  by_cases h : k ∈ keysW K
  · rw [if_pos (hm.mpr h), if_pos h]
    unfold keysW
    rw [List.map_map]
    refine (List.map_congr_left fun p hp => ?_)
    by_cases e : (p.1 = k) <;> simp [e]
  · rw [if_neg (fun z => h (hm.mp z)), if_neg h]
    simp [keysW]
theorem nd_put {K : W} (nd : (keysW K).Nodup) (k : Int) (v : Rat) : (keysW (setW K k v)).Nodup := by
  rw [keys_put]
  split
  · exact nd
  · rename_i h
    rw [List.nodup_append]
    exact ⟨nd, by simp, fun a ha b hb => by simp at hb; subst hb; exact fun z => h (by rw [← z]; exact ha)⟩
theorem cf_drop (K : W) (k j : Int) : cf (dropW K k) j = if j = k then 0 else cf K j := by
  unfold dropW
  induction K with
  | nil => simp [cf]
  | cons p K ih =>
    by_cases h : p.1 = k
    · rw [List.filter_cons_of_neg (by simp [h]), ih, cf]
      by_cases hj : j = k
      · rw [if_pos hj, if_pos hj]
      · rw [if_neg hj, if_neg hj, if_neg (by rw [h]; exact fun z => hj z.symm)]; grind
    · rw [List.filter_cons_of_pos (by simp [h]), cf, ih, cf]
      by_cases hj : j = k
      · rw [if_pos hj, if_pos hj, if_neg (by rw [hj]; exact h)]; grind
      · rw [if_neg hj, if_neg hj]
theorem nd_drop {K : W} (nd : (keysW K).Nodup) (k : Int) : (keysW (dropW K k)).Nodup := by
  unfold keysW dropW at *
  exact nd.sublist (List.filter_sublist.map _)
theorem nodup_sub {α : Type} [DecidableEq α] : ∀ {l m : List α}, l.Nodup → (∀ x ∈ l, x ∈ m) → l.length ≤ m.length
  | [], m, _, _ => Nat.zero_le _
  | a :: l, m, nd, h => by
    rw [List.nodup_cons] at nd
    have h1 := nodup_sub (m := m.erase a) nd.2 fun x hx => (List.mem_erase_of_ne fun z => nd.1 (by rw [← z]; exact hx)).mpr (h x (by simp [hx]))
    rw [List.length_erase_of_mem (h a (by simp))] at h1
    have : 0 < m.length := List.length_pos_of_mem (h a (by simp))
    simp only [List.length_cons]
    omega
/-- ints that are unlike, in a row of so many -/
theorem nodup_range {l : List Int} (nd : l.Nodup) {lo : Int} {m : Nat} (h : ∀ k ∈ l, lo ≤ k ∧ k < lo + m) : l.length ≤ m := by
  have h1 : (l.map fun k => (k - lo).toNat).Nodup := by
    rw [List.Nodup, List.pairwise_map]
    refine nd.imp_of_mem fun ha hb ne => ?_
    have := h _ ha
    have := h _ hb
    omega
  have h2 : ∀ x ∈ l.map fun k => (k - lo).toNat, x ∈ List.range m := fun x hx => by
    obtain ⟨k, hk, rfl⟩ := List.mem_map.mp hx
    have := h k hk
    exact List.mem_range.mpr (by omega)
  have h3 := nodup_sub h1 h2
  simpa using h3
theorem keys_kd (K : W) : intKeys (kd K) = some (keysW K) := by
  induction K with
  | nil => rfl
  | cons p K ih =>
    show (intKeys (kd K)).map (p.1 :: ·) = _
    rw [ih]; rfl
theorem sortI_mem (l : List Int) (k : Int) : k ∈ sortI l ↔ k ∈ l := List.mem_mergeSort
theorem sortI_asc {l : List Int} (nd : l.Nodup) : (sortI l).Pairwise (· < ·) := by
  have h1 : (sortI l).Pairwise fun a b => decide (a ≤ b) = true := List.pairwise_mergeSort (fun a b c h1 h2 => by simp at *; omega) (fun a b => by simp; omega) l
  have h2 : (sortI l).Nodup := (List.mergeSort_perm l _).nodup_iff.mpr nd
  exact (List.pairwise_and_iff.mpr ⟨h1, h2⟩).imp fun ⟨a, b⟩ => by simp at a; omega
/-- the worth of a dict -/
def nrm (K : W) : W := ((sortI (keysW K)).filter fun k => decide (cf K k ≠ 0)).map fun k => (k, cf K k)
theorem nrm_can {K : W} (nd : (keysW K).Nodup) : Can (nrm K) := by
  refine ⟨?_, fun p hp => ?_⟩
  · unfold nrm
    rw [List.pairwise_map]
    exact (sortI_asc nd).filter _
  · obtain ⟨k, hk, rfl⟩ := List.mem_map.mp hp
    simpa using (List.mem_filter.mp hk).2
theorem nrm_cf {K : W} (nd : (keysW K).Nodup) (k : Int) : cf (nrm K) k = cf K k := by
  by_cases h : cf K k = 0
  · rw [h]
    refine cf_no fun p hp z => ?_
    obtain ⟨j, hj, rfl⟩ := List.mem_map.mp hp
    have := (List.mem_filter.mp hj).2
    simp only [ne_eq, decide_not, Bool.not_eq_true', decide_eq_false_iff_not] at this
    exact this (by rw [show j = k from z]; exact h)
  · have hm : k ∈ keysW K := by
      by_cases z : k ∈ keysW K
      · exact z
      · exact absurd (cf_no fun p hp e => z (by rw [← e]; exact List.mem_map_of_mem hp)) h
    have : ((k, cf K k) : Int × Rat) ∈ nrm K := List.mem_map.mpr ⟨k, List.mem_filter.mpr ⟨(sortI_mem _ _).mpr hm, by simp [h]⟩, rfl⟩
    exact cf_mem (nrm_can nd).nd this
end R

/-! Q3: sums of powers, as the program makes them. -/
namespace R
open PySem L2
open scoped Rat
theorem for_d_eq (step : D → Sl → Cells → Res) (t : Tk step) (xs : List D) (σ : Sl) (κ : Cells) : forD step t xs σ κ = forLoop step xs σ κ := rfl
theorem comp_d_eq (step : D → Cells → Out (List D × Cells)) (t : Tk step) (xs : List D) (κ : Cells) : compD step t xs κ = compLoop step xs κ := rfl
/-- an int that is no further than two lists need -/
theorem le_line {n : Nat} (h : n ≤ 100000) : n < sizeLine := by rw [sizeLine_eq]; omega
theorem le_line' {n : Nat} (h : n ≤ 100000) : n ≤ sizeLine := by rw [sizeLine_eq]; omega
@[simp] theorem read_last (κ : Cells) (kvs : List (Key × D)) (b : Bool) : readAt (κ ++ [⟨b, .dk kvs⟩]) κ.length = some kvs := by simp [readAt]
@[simp] theorem open_last (κ : Cells) (kvs : List (Key × D)) : openAt (κ ++ [⟨false, .dk kvs⟩]) κ.length = some kvs := by simp [openAt]
@[simp] theorem set_last (κ : Cells) (c c' : Cell) : (κ ++ [c]).set κ.length c' = κ ++ [c'] := by simp
@[simp] theorem ul_nil (was : Sl) (r : Res) : unlockR was [] r = r := by cases r <;> rfl
@[simp] theorem la_nil (σ : Sl) : lockAll σ [] = σ := rfl
theorem comp_intsD {q : Int → Bool} {g : Int → D} {step : D → Cells → Out (List D × Cells)} {t : Tk step} {κ : Cells} : ∀ {l : List Int},
    (∀ k ∈ l, step (.int k) κ = .ok (if q k then [g k] else [], κ)) → compD step t (l.map .int) κ = .ok ((l.filter q).map g, κ) := by
  intro l h
  show compLoop step (l.map .int) κ = _
  induction l with
  | nil => rfl
  | cons k l ih =>
    rw [List.map_cons, compLoop, h k (by simp), mbind_ok, ih fun j hj => h j (by simp [hj]), mbind_ok]
    cases hq : q k <;> simp [hq]
/-- a triple of a sum -/
def TR (x : D) (p : Int × Rat) : Prop := ∃ a b : Int, x = .tup [.int p.1, .int a, .int b] ∧ b ≠ 0 ∧ Lt2 (8000 + 1) b ∧ p.2 = a /. b
inductive TRs : List D → W → Prop
  | nil : TRs [] []
  | cons {x : D} {p : Int × Rat} {xs : List D} {L : W} : TR x p → TRs xs L → TRs (x :: xs) (p :: L)
theorem TRs.len : ∀ {xs : List D} {L : W}, TRs xs L → xs.length = L.length
  | _, _, .nil => rfl
  | _, _, .cons _ r => by (simp [r.len])
theorem TRs.append : ∀ {xs ys : List D} {L M : W}, TRs xs L → TRs ys M → TRs (xs ++ ys) (L ++ M)
  | _, _, _, _, .nil, q => q
  | _, _, _, _, .cons a r, q => .cons a (r.append q)
theorem TR.tD {p : Int × Rat} (h : Sz (8000 + 1) p.2) : TR (tD p) p := ⟨p.2.num, p.2.den, rfl, den0 _, h.2, (Rat.num_divInt_den _).symm⟩
theorem TRs.wD : ∀ {w : W}, (∀ p ∈ w, Sz (8000 + 1) p.2) → TRs (w.map tD) w
  | [], _ => .nil
  | p :: w, h => .cons (TR.tD (h p (by simp))) (TRs.wD fun q hq => h q (by simp [hq]))
/-- how large what is summed may be -/
structure Fit (L : W) (Δ M : Nat) (lo : Int) : Prop where
  d0 : 0 < Δ
  dv : ∀ p ∈ L, Dv Δ M p.2
  lo : ∀ p ∈ L, lo ≤ p.1 ∧ p.1 < lo + 60
  dk : Δ < 2 ^ 3999
  mb : L.length * M < 2 ^ 3999
theorem dv_cf {Δ M : Nat} (h0 : 0 < Δ) : ∀ {L : W}, (∀ p ∈ L, Dv Δ M p.2) → ∀ k, Dv Δ (L.length * M) (cf L k)
  | [], _, k => Dv.zero _ _
  | p :: L, h, k => by
    have h1 := dv_cf h0 (L := L) (fun q hq => h q (by simp [hq])) k
    have h2 := h p (by simp)
    rw [cf, List.length_cons, Nat.succ_mul, Nat.add_comm]
    refine Dv.add ?_ h1 h0
    split
    · exact h2
    · exact Dv.zero _ _
theorem Fit.tail {p : Int × Rat} {L : W} {Δ M : Nat} {lo : Int} (h : Fit (p :: L) Δ M lo) : Fit L Δ M lo :=
  ⟨h.d0, fun q hq => h.dv q (by simp [hq]), fun q hq => h.lo q (by simp [hq]), h.dk, by have := h.mb; rw [List.length_cons, Nat.succ_mul] at this; omega⟩
/-- what the dict holds while it is filled -/
structure Fil (L : W) (Δ M : Nat) (lo : Int) (K R : W) : Prop where
  nd : (keysW K).Nodup
  lo : ∀ k ∈ keysW K, lo ≤ k ∧ k < lo + 60
  eq : ∀ k, cf K k + cf R k = cf L k
  dv : ∀ k, Dv Δ ((L.length - R.length) * M) (cf K k)
  sub : R.length ≤ L.length
  mem : ∀ p ∈ R, p ∈ L
theorem Fil.start (L : W) (Δ M : Nat) (lo : Int) : Fil L Δ M lo [] L := ⟨by simp [keysW], by simp [keysW], fun k => by rw [cf]; grind, fun k => Dv.zero _ _, Nat.le_refl _, fun _ h => h⟩
theorem Fil.step {L K R : W} {Δ M : Nat} {lo : Int} {p : Int × Rat} (f : Fit L Δ M lo) (h : Fil L Δ M lo K (p :: R)) : Fil L Δ M lo (setW K p.1 (cf K p.1 + p.2)) R := by
  have hl := h.sub
  rw [List.length_cons] at hl
  refine ⟨nd_put h.nd _ _, fun k hk => ?_, fun k => ?_, fun k => ?_, by omega, fun q hq => h.mem q (by simp [hq])⟩
  · rw [keys_put] at hk
    split at hk
    · exact h.lo k hk
    · rcases List.mem_append.mp hk with z | z
      · exact h.lo k z
      · simp at z; subst z; exact f.lo p (h.mem p (by simp))
  · have := h.eq k
    rw [cf_put h.nd]
    rw [cf] at this
    by_cases e : k = p.1
    · subst e; rw [if_pos rfl] at this ⊢; grind
    · rw [if_neg (fun z => e z.symm)] at this; rw [if_neg e]; grind
  · rw [cf_put h.nd]
    have e : (L.length - R.length) * M = (L.length - (p :: R).length) * M + M := by
      rw [← Nat.succ_mul, List.length_cons]; congr 1; omega
    rw [e]
    split
    · exact Dv.add (h.dv _) (f.dv p (h.mem p (by simp))) f.d0
    · exact (h.dv k).up (by omega)
theorem Fil.sz {L K R : W} {Δ M : Nat} {lo : Int} (f : Fit L Δ M lo) (h : Fil L Δ M lo K R) (k : Int) : Sz 3999 (cf K k) :=
  (h.dv k).sz f.d0 (Nat.lt_of_le_of_lt (Nat.mul_le_mul_right M (Nat.sub_le _ _)) f.mb) f.dk
theorem Fit.sz {L : W} {Δ M : Nat} {lo : Int} (f : Fit L Δ M lo) {p : Int × Rat} (hp : p ∈ L) : Sz 3999 p.2 := by
  refine (f.dv p hp).sz f.d0 (Nat.lt_of_le_of_lt ?_ f.mb) f.dk
  have : 0 < L.length := List.length_pos_of_mem hp
  exact Nat.le_mul_of_pos_left M this
theorem Fil.len {L K R : W} {Δ M : Nat} {lo : Int} (h : Fil L Δ M lo K R) : K.length ≤ 60 := by
  have := nodup_range h.nd h.lo
  simpa [keysW] using this
theorem kd_len (K : W) : (kd K).length = K.length := by simp [kd]
theorem key_mem {K : W} {k : Int} (nd : (keysW K).Nodup) (h : k ∈ keysW K) : lookP (kd K) (.inl k) = some (frD (cf K k)) := by
  rw [look_kd]
  rcases find_cf nd k with ⟨p, e, _, h2⟩ | ⟨e, _⟩
  · rw [e, ← h2]; rfl
  · obtain ⟨p, hp, e2⟩ := List.mem_map.mp h
    have := List.find?_eq_none.mp e p hp
    simp [e2] at this
theorem summed_ok (n : Nat) (x : D) (xs : List D) (L : W) (Δ M : Nat) (lo : Int) (κ : Cells) (hx : x = .tup xs ∨ x = .lst xs) (hr : TRs xs L) (f : Fit L Δ M lo) :
    ∃ w c, callN P0 (n + 3) 10 [x] κ = .ok (wD w, κ ++ [c]) ∧ Can w ∧ (∀ k, cf w k = cf L k) ∧ keysW w = keysW w := by
  rw [call0 (fn := ⟨1, 5, Pr.b_summed⟩) rfl rfl]
  have hw : ∀ κ : Cells, walkO κ (.fz x) = some (xs, []) := fun κ => by rcases hx with rfl | rfl <;> rfl
  obtain ⟨σ', κ', e1, R0, K, u2, u3, u4, ht, hF, rfl, rfl⟩ := for_list (I := fun rest σ κ1 => ∃ R K u2 u3 u4, TRs rest R ∧ Fil L Δ M lo K R ∧ σ = [some (.fz x), some (.fz (.obj κ.length)), Option.map O.fz u2, Option.map O.fz u3, Option.map O.fz u4] ∧ κ1 = κ ++ [⟨false, .dk (kd K)⟩])
    (step := fun x σ κ => exO (assignT (.t [2, 3, 4]) x σ) fun σ => exec (Gm (n + 2)) (.cons (.put 1 (.var 2) (.call 4 (.cons (.get (.var 1) (.var 2) (.tup (.cons (.cst (.int 0)) (.cons (.cst (.int 1)) .nil)))) (.cons (.call 3 (.cons (.var 3) (.cons (.var 4) .nil))) .nil)))) .nil) σ κ)
    (fun y ys σ κ1 hI => by
      obtain ⟨R, K, u2, u3, u4, ht, hF, rfl, rfl⟩ := hI
      cases ht with
      | @cons _ p _ R ht hts =>
        obtain ⟨a, b, rfl, hb, hlb, hp⟩ := ht
        refine ⟨_, _, ?_, R, setW K p.1 (cf K p.1 + p.2), some (.int p.1), some (.int a), some (.int b), hts, hF.step f, rfl, rfl⟩
        have e1 := fracof_ok (n + 1) a b (κ ++ [⟨false, .dk (kd K)⟩]) hb hlb
        have e2 := added_ok n (cf K p.1) (a /. b) (κ ++ [⟨false, .dk (kd K)⟩]) ((hF.sz f p.1).up (by decide)) (by rw [← hp]; exact f.sz (hF.mem p (by simp)))
        have hl : (kd K).length < 16777216 := by rw [kd_len]; have := hF.len; omega
        simp [sizeLine_eq, startS, wipeS, assignT, assign1, setAt_eq, isTy, get_kd hF.nd, e1, e2, hl, put_kd, hp])
    xs [some (.fz x), some (.fz (.obj κ.length)), none, none, none] (κ ++ [⟨false, .dk (kd [])⟩]) ⟨L, [], none, none, none, hr, Fil.start L Δ M lo, rfl, rfl⟩
  cases ht
  have hnd := hF.nd
  refine ⟨nrm K, ⟨false, .dk (kd K)⟩, ?_, nrm_can hnd, fun k => by rw [nrm_cf hnd]; have := hF.eq k; rw [cf] at this; grind, ?_⟩
  · simp -implicitDefEqProofs [sizeLine_eq, startS, wipeS, assignT, assign1, setAt_eq, isTy, Pr.b_summed, hw]
    refine Eq.trans (congrArg (fun z => (Res.then _ _ z).out) e1) ?_
    have h60 := hF.len
    have hk : (keysW K).length < 64 := by simp only [keysW, List.length_map]; omega
    simp -implicitDefEqProofs [sizeLine_eq, startS, wipeS, assignT, assign1, setAt_eq, isTy, hw, keys_kd, hk]
    rw [comp_intsD (q := fun k => !decide (cf K k = 0)) (g := fun k => tD (k, cf K k)) (fun k hk => ?_)]
    · have hl : ((sortI (keysW K)).filter fun k => !decide (cf K k = 0)).length < 16777216 := by
        have h1 := List.length_filter_le (fun k => !decide (cf K k = 0)) (sortI (keysW K))
        have h2 : (sortI (keysW K)).length = (keysW K).length := List.length_mergeSort _
        omega
      simp -implicitDefEqProofs [sizeLine_eq, startS, wipeS, assignT, assign1, setAt_eq, isTy, hl]
      simp [wD, nrm, Function.comp_def]
    · have e1 := key_mem hnd ((sortI_mem _ _).mp hk)
      by_cases hz : cf K k = 0
      · simp -implicitDefEqProofs [sizeLine_eq, startS, wipeS, assignT, assign1, setAt_eq, isTy, e1, frD, hz]
      · have hz2 : (cf K k).num ≠ 0 := num0 hz
        simp -implicitDefEqProofs [sizeLine_eq, startS, wipeS, assignT, assign1, setAt_eq, isTy, e1, frD, hz, hz2, tD, b_addT (xs := [D.int k]) (ys := [D.int (cf K k).num, D.int (cf K k).den]) (le_line' (by simp))]
  · rfl
end R

/-! Q4: sums, products, parts of sums of powers. -/
namespace R
open PySem L2
open scoped Rat
theorem comp_flatD {α : Type} {f : α → D} {g : α → List D} {step : D → Cells → Out (List D × Cells)} {t : Tk step} {κ : Cells} : ∀ {l : List α},
    (∀ a ∈ l, step (f a) κ = .ok (g a, κ)) → compD step t (l.map f) κ = .ok (l.flatMap g, κ) := by
  intro l h
  show compLoop step (l.map f) κ = _
  induction l with
  | nil => rfl
  | cons k l ih =>
    rw [List.map_cons, compLoop, h k (by simp), mbind_ok, ih fun j hj => h j (by simp [hj]), mbind_ok]
    simp
theorem comp_mapA {α : Type} {f g : α → D} {step : D → Cells → Out (List D × Cells)} {t : Tk step} {κ : Cells} {l : List α} (h : ∀ a ∈ l, step (f a) κ = .ok ([g a], κ)) : compD step t (l.map f) κ = .ok (l.map g, κ) := by
  rw [comp_flatD (g := fun a => [g a]) h]
  congr 2
  clear h
  induction l with
  | nil => rfl
  | cons a l ih => rw [List.flatMap_cons, ih]; rfl
theorem flat_if {α : Type} (q : α → Bool) (g : α → D) : ∀ l : List α, l.flatMap (fun a => if q a = true then [g a] else []) = (l.filter q).map g
  | [] => rfl
  | a :: l => by
    rw [List.flatMap_cons, flat_if q g l]
    cases h : q a <;> simp [h]
theorem comp_filterA {α : Type} {f g : α → D} {q : α → Bool} {step : D → Cells → Out (List D × Cells)} {t : Tk step} {κ : Cells} {l : List α} (h : ∀ a ∈ l, step (f a) κ = .ok (if q a = true then [g a] else [], κ)) : compD step t (l.map f) κ = .ok ((l.filter q).map g, κ) := by
  rw [comp_flatD h, flat_if]
def negW (w : W) : W := w.map fun p => (p.1, -p.2)
def prodW (w v : W) : W := w.flatMap fun p => v.map fun q => (p.1 + q.1, p.2 * q.2)
def cutW (w : W) (most : Int) : W := w.filter fun p => decide (p.1 ≤ most)
def shW (w : W) (by_ : Int) : W := w.map fun p => (p.1 + by_, p.2)
theorem wD_len (w : W) : (w.map tD).length = w.length := by simp
theorem negative_ok (n : Nat) (w : W) (κ : Cells) (hl : w.length ≤ 1000) : callN P0 (n + 1) 12 [wD w] κ = .ok (wD (negW w), κ) := by
  rw [call0 (fn := ⟨1, 4, Pr.b_negative⟩) rfl rfl]
  have h2 : w.length < 16777216 := by omega
  simp -implicitDefEqProofs [sizeLine_eq, startS, wipeS, assignT, assign1, setAt_eq, isTy, Pr.b_negative, wD]
  rw [comp_mapA (f := tD) (g := fun p => tD (p.1, -p.2)) (fun p hp => ?_)]
  · simp -implicitDefEqProofs [sizeLine_eq, startS, wipeS, assignT, assign1, setAt_eq, isTy, h2, negW, Function.comp_def]
  · simp -implicitDefEqProofs [sizeLine_eq, startS, wipeS, assignT, assign1, setAt_eq, isTy, tD]
theorem shifted_ok (n : Nat) (w : W) (b : Int) (κ : Cells) (hl : w.length ≤ 1000) : callN P0 (n + 1) 19 [wD w, .int b] κ = .ok (wD (shW w b), κ) := by
  rw [call0 (fn := ⟨2, 5, Pr.b_shifted⟩) rfl rfl]
  have h2 : w.length < 16777216 := by omega
  simp -implicitDefEqProofs [sizeLine_eq, startS, wipeS, assignT, assign1, setAt_eq, isTy, Pr.b_shifted, wD]
  rw [comp_mapA (f := tD) (g := fun p => tD (p.1 + b, p.2)) (fun p hp => ?_)]
  · simp -implicitDefEqProofs [sizeLine_eq, startS, wipeS, assignT, assign1, setAt_eq, isTy, h2, shW, Function.comp_def]
  · simp -implicitDefEqProofs [sizeLine_eq, startS, wipeS, assignT, assign1, setAt_eq, isTy, tD]
theorem cutoff_ok (n : Nat) (w : W) (most : Int) (κ : Cells) (hl : w.length ≤ 1000) : callN P0 (n + 1) 18 [wD w, .int most] κ = .ok (wD (cutW w most), κ) := by
  rw [call0 (fn := ⟨2, 3, Pr.b_cut_off⟩) rfl rfl]
  have h3 : (w.filter fun p => decide (p.1 ≤ most)).length < 16777216 := by
    have := List.length_filter_le (fun p : Int × Rat => decide (p.1 ≤ most)) w
    omega
  simp -implicitDefEqProofs [sizeLine_eq, startS, wipeS, assignT, assign1, setAt_eq, isTy, Pr.b_cut_off, wD]
  rw [comp_filterA (f := tD) (g := tD) (q := fun p => decide (p.1 ≤ most)) (fun p hp => ?_)]
  · simp -implicitDefEqProofs [sizeLine_eq, startS, wipeS, assignT, assign1, setAt_eq, isTy, h3, cutW]
  · by_cases h : p.1 ≤ most
    · simp -implicitDefEqProofs [sizeLine_eq, startS, wipeS, assignT, assign1, setAt_eq, isTy, tD, h]
    · simp -implicitDefEqProofs [sizeLine_eq, startS, wipeS, assignT, assign1, setAt_eq, isTy, tD, h]
theorem sumof_ok (n : Nat) (w v : W) (Δ M : Nat) (lo : Int) (κ : Cells) (f : Fit (w ++ v) Δ M lo) (hl : w.length ≤ 1000) (hl2 : v.length ≤ 1000) :
    ∃ u c, callN P0 (n + 4) 11 [wD w, wD v] κ = .ok (wD u, κ ++ [c]) ∧ Can u ∧ ∀ k, cf u k = cf w k + cf v k := by
  rw [call0 (fn := ⟨2, 2, Pr.b_sum_of⟩) rfl rfl]
  have ht : TRs (w.map tD ++ v.map tD) (w ++ v) := (TRs.wD fun p hp => (f.sz (List.mem_append_left _ hp)).up (by decide)).append (TRs.wD fun p hp => (f.sz (List.mem_append_right _ hp)).up (by decide))
  obtain ⟨u, c, e, h1, h2, _⟩ := summed_ok n _ _ _ Δ M lo κ (.inl rfl) ht f
  refine ⟨u, c, ?_, h1, fun k => by rw [h2, cf_app]⟩
  simp -implicitDefEqProofs [sizeLine_eq, startS, wipeS, assignT, assign1, setAt_eq, isTy, Pr.b_sum_of, wD, b_addT (xs := w.map tD) (ys := v.map tD) (le_line' (by simp; omega))]
  rw [e]
  simp -implicitDefEqProofs [sizeLine_eq, startS, wipeS, assignT, assign1, setAt_eq, isTy, wD]
theorem prod_TR {w v : W} {k : Nat} (hw : ∀ p ∈ w, Sz (3998 + 1) p.2) (hv : ∀ p ∈ v, Sz (3998 + 1) p.2) : TRs (w.flatMap fun p => v.map fun q => .tup [.int (p.1 + q.1), .int (p.2.num * q.2.num), .int (p.2.den * q.2.den)]) (prodW w v) := by
  induction w with
  | nil => exact .nil
  | cons p w ih =>
    unfold prodW at *
    rw [List.flatMap_cons, List.flatMap_cons]
    refine TRs.append ?_ (ih fun q hq => hw q (by simp [hq]))
    have hp := hw p (by simp)
    clear ih hw
    induction v with
    | nil => exact .nil
    | cons q v ih =>
      have hq := hv q (by simp)
      exact .cons ⟨_, _, rfl, Int.mul_ne_zero (den0 _) (den0 _), (hp.2.mul hq.2).up (by decide), (mul_eq _ _).symm⟩ (ih fun r hr => hv r (by simp [hr]))
theorem prod_len (w v : W) : (prodW w v).length = w.length * v.length := by
  unfold prodW
  induction w with
  | nil => simp
  | cons p w ih => rw [List.flatMap_cons, List.length_append, ih, List.length_map, List.length_cons, Nat.succ_mul]; omega
theorem flat_len (w v : W) : (w.flatMap fun p => v.map fun q => D.tup [.int (p.1 + q.1), .int (p.2.num * q.2.num), .int (p.2.den * q.2.den)]).length = w.length * v.length := by
  induction w with
  | nil => simp
  | cons p w ih => rw [List.flatMap_cons, List.length_append, ih, List.length_map, List.length_cons, Nat.succ_mul]; omega
theorem productof_ok (n : Nat) (w v : W) (Δ M : Nat) (lo : Int) (κ : Cells) (f : Fit (prodW w v) Δ M lo) (hw : ∀ p ∈ w, Sz (3998 + 1) p.2) (hv : ∀ p ∈ v, Sz (3998 + 1) p.2) (hl : w.length ≤ 1000) (hl2 : v.length ≤ 1000) :
    ∃ u c, callN P0 (n + 4) 13 [wD w, wD v] κ = .ok (wD u, κ ++ [c]) ∧ Can u ∧ ∀ k, cf u k = cf (prodW w v) k := by
  rw [call0 (fn := ⟨2, 8, Pr.b_product_of⟩) rfl rfl]
  obtain ⟨u, c, e, h1, h2, _⟩ := summed_ok n _ _ _ Δ M lo κ (.inr rfl) (prod_TR (k := 0) hw hv) f
  refine ⟨u, c, ?_, h1, h2⟩
  have h3 : (w.flatMap fun p => v.map fun q => D.tup [.int (p.1 + q.1), .int (p.2.num * q.2.num), .int (p.2.den * q.2.den)]).length < 16777216 := by
    rw [flat_len]
    have := Nat.mul_le_mul hl hl2
    omega
  simp -implicitDefEqProofs [sizeLine_eq, startS, wipeS, assignT, assign1, setAt_eq, isTy, Pr.b_product_of, wD]
  rw [comp_flatD (f := tD) (g := fun p => v.map fun q => D.tup [.int (p.1 + q.1), .int (p.2.num * q.2.num), .int (p.2.den * q.2.den)]) (fun p hp => ?_)]
  · generalize (w.flatMap fun p => v.map fun q => D.tup [.int (p.1 + q.1), .int (p.2.num * q.2.num), .int (p.2.den * q.2.den)]) = X at e h3 ⊢
    simp -implicitDefEqProofs [sizeLine_eq, startS, wipeS, assignT, assign1, setAt_eq, isTy, h3]
    rw [e]
    simp -implicitDefEqProofs [sizeLine_eq, startS, wipeS, assignT, assign1, setAt_eq, isTy, wD]
  · simp -implicitDefEqProofs [sizeLine_eq, startS, wipeS, assignT, assign1, setAt_eq, isTy, tD, Tg.ix]
    refine comp_mapA (f := tD) (g := fun q => D.tup [.int (p.1 + q.1), .int (p.2.num * q.2.num), .int (p.2.den * q.2.den)]) (fun q hq => ?_)
    have hp := hw p hp
    have hq := hv q hq
    simp -implicitDefEqProofs [sizeLine_eq, startS, wipeS, assignT, assign1, setAt_eq, isTy, tD, b_mul (hp.1.ok hq.1 (by decide)), b_mul (hp.2.ok hq.2 (by decide))]
end R

/-! Q5: series of quotients, plainly. -/
namespace R
open PySem L2
open scoped Rat
/-- sums along a foot -/
def conv (F : Int → Rat) : W → Int → Rat
  | [], _ => 0
  | q :: v, m => q.2 * F (m - q.1) + conv F v m
theorem conv_zero : ∀ (v : W) (m : Int), conv (fun _ => 0) v m = 0
  | [], _ => rfl
  | q :: v, m => by rw [conv, conv_zero v m]; grind
theorem conv_add (F G : Int → Rat) : ∀ (v : W) (m : Int), conv (fun k => F k + G k) v m = conv F v m + conv G v m
  | [], _ => by simp [conv]; grind
  | q :: v, m => by rw [conv, conv, conv, conv_add F G v m]; grind
theorem conv_sub (F G : Int → Rat) : ∀ (v : W) (m : Int), conv (fun k => F k - G k) v m = conv F v m - conv G v m
  | [], _ => by simp [conv]; grind
  | q :: v, m => by rw [conv, conv, conv, conv_sub F G v m]; grind
theorem conv_ext {F G : Int → Rat} : ∀ {v : W} {m : Int}, (∀ q ∈ v, F (m - q.1) = G (m - q.1)) → conv F v m = conv G v m
  | [], _, _ => rfl
  | q :: v, m, h => by rw [conv, conv, h q (by simp), conv_ext fun r hr => h r (by simp [hr])]
theorem conv_one (p : Int × Rat) : ∀ (v : W) (m : Int), conv (fun k => if p.1 = k then p.2 else 0) v m = cf (v.map fun q => (p.1 + q.1, p.2 * q.2)) m
  | [], _ => rfl
  | q :: v, m => by
    rw [conv, List.map_cons, cf, conv_one p v m]
    by_cases h : p.1 = m - q.1
    · rw [if_pos h, if_pos (by show p.1 + q.1 = m; omega)]; grind
    · rw [if_neg h, if_neg (by show ¬ p.1 + q.1 = m; omega)]; grind
theorem cf_prod : ∀ (w v : W) (m : Int), cf (prodW w v) m = conv (cf w) v m
  | [], v, m => by
    rw [show cf ([] : W) = fun _ => (0 : Rat) from rfl, conv_zero]; rfl
  | p :: w, v, m => by
    show cf ((v.map fun q => (p.1 + q.1, p.2 * q.2)) ++ prodW w v) m = _
    rw [cf_app, cf_prod w v m, ← conv_one, ← conv_add]
    rfl
theorem cf_neg : ∀ (w : W) (k : Int), cf (negW w) k = -cf w k
  | [], _ => by simp [negW, cf]
  | p :: w, k => by
    have := cf_neg w k
    unfold negW at *
    rw [List.map_cons, cf, this, cf]
    split <;> grind
theorem cf_cut : ∀ (w : W) (most k : Int), cf (cutW w most) k = if k ≤ most then cf w k else 0
  | [], _, k => by simp [cutW, cf]
  | p :: w, most, k => by
    have ih := cf_cut w most k
    unfold cutW at *
    by_cases h : p.1 ≤ most
    · rw [List.filter_cons_of_pos (by simp [h]), cf, ih, cf]
      by_cases hk : k ≤ most
      · rw [if_pos hk, if_pos hk]
      · rw [if_neg hk, if_neg hk, if_neg (by omega)]; grind
    · rw [List.filter_cons_of_neg (by simp [h]), ih, cf]
      by_cases hk : k ≤ most
      · rw [if_pos hk, if_pos hk, if_neg (by omega)]; grind
      · rw [if_neg hk, if_neg hk]
theorem cf_sh : ∀ (w : W) (b k : Int), cf (shW w b) k = cf w (k - b)
  | [], _, _ => rfl
  | p :: w, b, k => by
    have ih := cf_sh w b k
    unfold shW at *
    rw [List.map_cons, cf, ih, cf]
    by_cases h : p.1 = k - b
    · rw [if_pos h, if_pos (by show p.1 + b = k; omega)]
    · rw [if_neg h, if_neg (by show ¬ p.1 + b = k; omega)]
theorem can_neg {w : W} (h : Can w) : Can (negW w) := by
  unfold negW
  refine ⟨?_, fun p hp => ?_⟩
  · rw [List.pairwise_map]; exact h.asc
  · obtain ⟨q, hq, rfl⟩ := List.mem_map.mp hp
    have := h.nz q hq
    show -q.2 ≠ 0
    grind
theorem can_cut {w : W} (h : Can w) (most : Int) : Can (cutW w most) := ⟨h.asc.filter _, fun p hp => h.nz p (List.mem_filter.mp hp).1⟩
theorem can_sh {w : W} (h : Can w) (b : Int) : Can (shW w b) := by
  unfold shW
  refine ⟨?_, fun p hp => ?_⟩
  · rw [List.pairwise_map]; exact h.asc.imp fun hab => by show _ + b < _ + b; omega
  · obtain ⟨q, hq, rfl⟩ := List.mem_map.mp hp
    exact h.nz q hq
theorem cf_ne {w : W} {k : Int} (h : cf w k ≠ 0) : k ∈ keysW w := by
  by_cases z : k ∈ keysW w
  · exact z
  · exact absurd (cf_no fun p hp e => z (by rw [← e]; exact List.mem_map_of_mem hp)) h
theorem can_mem {w : W} (h : Can w) {k : Int} (hk : k ∈ keysW w) : cf w k ≠ 0 := by
  obtain ⟨p, hp, rfl⟩ := List.mem_map.mp hk
  rw [cf_mem h.nd hp]
  exact h.nz p hp
/-- the terms of a series up to an order -/
structure Exp (top foot : W) (f most : Int) (T : W) : Prop where
  can : Can T
  le : ∀ p ∈ T, p.1 ≤ most
  eq : ∀ k, k ≤ most + f → conv (cf T) foot k = cf top k
/-- a foot -/
structure Foot (foot : W) (f : Int) (b0 : Rat) : Prop where
  can : Can foot
  hd : ∃ ft, foot = (f, b0) :: ft
theorem Foot.b0 {foot : W} {f : Int} {b0 : Rat} (h : Foot foot f b0) : b0 ≠ 0 := by
  obtain ⟨ft, rfl⟩ := h.hd
  exact h.can.nz (f, b0) (by simp)
theorem conv_head {foot : W} {f : Int} {b0 : Rat} (h : Foot foot f b0) (F : Int → Rat) (m : Int) (hz : ∀ k, k < m → F k = 0) : conv F foot (m + f) = b0 * F m := by
  obtain ⟨ft, rfl⟩ := h.hd
  have hh := h.can.head
  rw [conv, show m + f - f = m by omega]
  have : conv F ft (m + f) = 0 := by
    rw [← conv_zero ft (m + f)]
    refine conv_ext fun q hq => ?_
    have := hh q hq
    exact hz _ (by show m + f - q.1 < m; have : f < q.1 := this; omega)
  rw [this]; grind
theorem exp_unique {top foot : W} {f most : Int} {b0 : Rat} {T T' : W} (hf : Foot foot f b0) (h : Exp top foot f most T) (h' : Exp top foot f most T') : T = T' := by
  refine can_ext h.can h'.can ?_
  obtain ⟨lo, hlo⟩ : ∃ lo : Int, (∀ p ∈ T, lo ≤ p.1) ∧ ∀ p ∈ T', lo ≤ p.1 := by
    have mn : ∀ w : W, ∃ lo : Int, ∀ p ∈ w, lo ≤ p.1 := fun w => by
      induction w with
      | nil => exact ⟨0, by simp⟩
      | cons p w ih =>
        obtain ⟨lo, h⟩ := ih
        refine ⟨min lo p.1, fun q hq => ?_⟩
        rcases (List.mem_cons.mp hq) with e | e
        · subst e; omega
        · have := h q e; omega
    obtain ⟨a, ha⟩ := mn T
    obtain ⟨b, hb⟩ := mn T'
    exact ⟨min a b, fun p hp => by have := ha p hp; omega, fun p hp => by have := hb p hp; omega⟩
  have low : ∀ k, k < lo → cf T k = cf T' k := fun k hk => by
    rw [cf_no fun p hp z => by have := hlo.1 p hp; omega, cf_no fun p hp z => by have := hlo.2 p hp; omega]
  have high : ∀ k, most < k → cf T k = cf T' k := fun k hk => by
    rw [cf_no fun p hp z => by have := h.le p hp; omega, cf_no fun p hp z => by have := h'.le p hp; omega]
  have key : ∀ n : Nat, ∀ k : Int, k < lo + n → cf T k = cf T' k := by
    intro n
    induction n with
    | zero => exact fun k hk => low k (by omega)
    | succ n ih =>
      intro k hk
      by_cases hm : most < k
      · exact high k hm
      have e1 := h.eq (k + f) (by omega)
      have e2 := h'.eq (k + f) (by omega)
      have e3 := conv_sub (cf T) (cf T') foot (k + f)
      rw [conv_head hf _ _ fun j hj => by rw [ih j (by omega)]; grind, e1, e2] at e3
      have := hf.b0
      have e4 : b0 * (cf T k - cf T' k) = 0 := by rw [e3]; grind
      rcases Rat.mul_eq_zero.mp e4 with z | z
      · exact absurd z this
      · grind
  exact fun k => key ((k - lo).toNat + 1) k (by omega)
end R

/-! Q6: the series of a quotient, as the program makes it. -/
namespace R
open PySem L2
open scoped Rat
theorem dv_quot {Δ M Δb Mb : Nat} {r b : Rat} {z0 : Int} (h : Dv Δ M r) (hb : Dv Δb Mb b) (hz : z0 ≠ 0) (h0 : 0 < Δb) : Dv (Δ * z0.natAbs) (M * Mb) (r / (z0 /. Δb) * b) := by
  obtain ⟨z, hz1, rfl⟩ := h
  obtain ⟨y, hy1, rfl⟩ := hb
  have e : z /. Δ / (z0 /. Δb) * (y /. Δb) = (z * y) /. (Δ * z0) := by
    rw [Rat.div_def, Rat.inv_divInt, Rat.divInt_mul_divInt, Rat.divInt_mul_divInt]
    rw [show z * (Δb : Int) * y = z * y * Δb by rw [Int.mul_assoc, Int.mul_comm (Δb : Int), ← Int.mul_assoc]]
    exact Rat.divInt_mul_right (by omega)
  rw [e]
  by_cases hp : 0 < z0
  · refine ⟨z * y, by rw [Int.natAbs_mul]; exact Nat.mul_le_mul hz1 hy1, ?_⟩
    rw [Int.natCast_mul, show ((z0.natAbs : Nat) : Int) = z0 by omega]
  · refine ⟨-(z * y), by rw [Int.natAbs_neg, Int.natAbs_mul]; exact Nat.mul_le_mul hz1 hy1, ?_⟩
    rw [Int.natCast_mul, show ((z0.natAbs : Nat) : Int) = -z0 by omega, Int.mul_neg, Rat.neg_divInt_neg]
theorem dv_one {Δ : Nat} (h : 0 < Δ) : Dv Δ Δ 1 := ⟨Δ, by simp, by rw [Rat.divInt_self' (by omega)]⟩
theorem dv_quot1 {Δ M Δb : Nat} {r : Rat} {z0 : Int} (h : Dv Δ M r) (hz : z0 ≠ 0) (h0 : 0 < Δb) : Dv (Δ * z0.natAbs) (M * Δb) (r / (z0 /. Δb)) := by
  have := dv_quot h (dv_one h0) hz h0
  rwa [Rat.mul_one] at this
/-- a quotient that is small enough -/
structure QS (top foot : W) (f : Int) (b0 : Rat) (lo : Int) (Δ0 M0 Δb Mb : Nat) : Prop where
  ct : Can top
  ft : Foot foot f b0
  d0 : 0 < Δ0
  D0 : Δ0 < 2 ^ 64
  m0 : M0 < 2 ^ 64
  db : 0 < Δb
  Db : Δb < 2 ^ 64
  mb : Mb < 2 ^ 64
  dt : ∀ k, Dv Δ0 M0 (cf top k)
  df : ∀ k, Dv Δb Mb (cf foot k)
  rt : ∀ p ∈ top, lo ≤ p.1 ∧ p.1 < lo + 30
  rf : ∀ q ∈ foot, f ≤ q.1 ∧ q.1 < f + 20
theorem can_dv {w : W} (h : Can w) {Δ M : Nat} (hd : ∀ k, Dv Δ M (cf w k)) : ∀ p ∈ w, Dv Δ M p.2 := fun p hp => by rw [← cf_mem h.nd hp]; exact hd _
theorem len_rng {w : W} (h : Can w) {lo : Int} {m : Nat} (hr : ∀ p ∈ w, lo ≤ p.1 ∧ p.1 < lo + m) : w.length ≤ m := by
  have := nodup_range h.nd (lo := lo) (m := m) fun k hk => by obtain ⟨p, hp, rfl⟩ := List.mem_map.mp hk; exact hr p hp
  simpa [keysW] using this
theorem cf_prod1 (t : Int × Rat) : ∀ (v : W) (k : Int), cf (prodW [t] v) k = t.2 * cf v (k - t.1)
  | [], k => by show (0 : Rat) = t.2 * 0; grind
  | q :: v, k => by
    have ih := cf_prod1 t v k
    have e : prodW [t] (q :: v) = (t.1 + q.1, t.2 * q.2) :: prodW [t] v := by simp [prodW]
    rw [e, cf, ih, cf]
    by_cases h : q.1 = k - t.1
    · rw [if_pos h, if_pos (by show t.1 + q.1 = k; omega)]; grind
    · rw [if_neg h, if_neg (by show ¬ t.1 + q.1 = k; omega)]; grind
/-- the loop's state -/
structure ExI (top foot : W) (f most lo : Int) (Δ0 M0 y Mb : Nat) (R T : W) : Prop where
  canR : Can R
  canT : Can T
  leT : ∀ p ∈ T, lo - f ≤ p.1 ∧ p.1 ≤ most
  sep : ∀ p ∈ T, ∀ q ∈ R, p.1 + f < q.1
  eq : ∀ k, k ≤ most + f → cf R k = cf top k - conv (cf T) foot k
  rng : ∀ q ∈ R, lo ≤ q.1 ∧ q.1 < lo + 60
  dv : ∀ k, Dv (Δ0 * y ^ T.length) (M0 * (2 * Mb) ^ T.length) (cf R k)
  szT : ∀ p ∈ T, Sz 3990 p.2
  dvT : ∀ (i : Nat) (p : Int × Rat), T[i]? = some p → Dv (Δ0 * y ^ (i + 1)) (M0 * (2 * Mb) ^ i * 2 ^ 64) p.2
theorem ExI.cnt {top foot : W} {f most lo : Int} {Δ0 M0 y Mb : Nat} {R T : W} (h : ExI top foot f most lo Δ0 M0 y Mb R T) (hm : most + f < lo + 40) : T.length ≤ 40 :=
  len_rng h.canT (lo := lo - f) fun p hp => by have := h.leT p hp; omega
theorem pow_lt {a b n m : Nat} (h : a ≤ 2 ^ b) (hn : n ≤ m) : a ^ n ≤ 2 ^ (b * m) := by
  calc a ^ n ≤ (2 ^ b) ^ n := Nat.pow_le_pow_left h n
    _ = 2 ^ (b * n) := (Nat.pow_mul 2 b n).symm
    _ ≤ 2 ^ (b * m) := Nat.pow_le_pow_right (by decide) (Nat.mul_le_mul_left b hn)
theorem small_den {Δ0 y n : Nat} (h : Δ0 < 2 ^ 64) (hy : y < 2 ^ 64) (hn : n ≤ 41) : Δ0 * y ^ n < 2 ^ 2700 := by
  have h1 := pow_lt (Nat.le_of_lt hy) hn
  calc Δ0 * y ^ n ≤ Δ0 * 2 ^ (64 * 41) := Nat.mul_le_mul_left _ h1
    _ < 2 ^ 64 * 2 ^ (64 * 41) := Nat.mul_lt_mul_of_pos_right h (Nat.pow_pos (by decide))
    _ = 2 ^ (64 + 64 * 41) := (Nat.pow_add 2 64 (64 * 41)).symm
    _ ≤ 2 ^ 2700 := Nat.pow_le_pow_right (by decide) (by decide)
theorem small_num {M0 Mb n : Nat} (h : M0 < 2 ^ 64) (hb : Mb < 2 ^ 64) (hn : n ≤ 41) : M0 * (2 * Mb) ^ n < 2 ^ 2740 := by
  have h1 := pow_lt (a := 2 * Mb) (b := 65) (by omega) hn
  calc M0 * (2 * Mb) ^ n ≤ M0 * 2 ^ (65 * 41) := Nat.mul_le_mul_left _ h1
    _ < 2 ^ 64 * 2 ^ (65 * 41) := Nat.mul_lt_mul_of_pos_right h (Nat.pow_pos (by decide))
    _ = 2 ^ (64 + 65 * 41) := (Nat.pow_add 2 64 (65 * 41)).symm
    _ ≤ 2 ^ 2740 := Nat.pow_le_pow_right (by decide) (by decide)
end R

/-! Q7: a turn of the loop, plainly. -/
namespace R
open PySem L2
open scoped Rat
section
variable {top foot : W} {f most lo fl k0 : Int} {b0 r : Rat} {Δ0 M0 Δb Mb : Nat} {z0 : Int} {R R' T P U : W}
theorem ExI.start (q : QS top foot f b0 lo Δ0 M0 Δb Mb) (y : Nat) : ExI top foot f most lo Δ0 M0 y Mb top [] where
  canR := q.ct
  canT := ⟨.nil, by simp⟩
  leT := by simp
  sep := by simp
  eq := fun k _ => by rw [show cf ([] : W) = fun _ => (0 : Rat) from rfl, conv_zero]; grind
  rng := fun p hp => by have := q.rt p hp; omega
  dv := fun k => by simpa using q.dt k
  szT := by simp
  dvT := by simp
/-- the sums of a turn are small -/
theorem turn_fit (q : QS top foot f b0 lo Δ0 M0 Δb Mb) (hz : b0 = z0 /. Δb) (hz1 : z0.natAbs ≤ Mb) (h : ExI top foot f most lo Δ0 M0 z0.natAbs Mb ((k0, r) :: R') T) (hm : most + f < lo + 40) (hk : k0 - f ≤ most) :
    Fit (prodW [(k0 - f, r / b0)] foot) (Δ0 * z0.natAbs ^ (T.length + 1)) (M0 * (2 * Mb) ^ T.length * Mb) k0 ∧ Sz 3990 (r / b0) ∧ (∀ q ∈ foot, Sz 3990 q.2) ∧ foot.length ≤ 20 := by
  have z1 : z0 ≠ 0 := fun z => by
    have := q.ft.b0
    rw [hz, z] at this
    simp at this
  have hT := h.cnt hm
  have hr : Dv (Δ0 * z0.natAbs ^ T.length) (M0 * (2 * Mb) ^ T.length) r := by
    have := h.dv k0
    rwa [cf_head h.canR] at this
  have hl : foot.length ≤ 20 := len_rng q.ft.can q.rf
  have hy : 0 < z0.natAbs := by omega
  have hb := q.mb
  have e1 : Δ0 * z0.natAbs ^ (T.length + 1) = Δ0 * z0.natAbs ^ T.length * z0.natAbs := by rw [Nat.pow_succ, Nat.mul_assoc]
  have d0 : 0 < Δ0 * z0.natAbs ^ (T.length + 1) := Nat.mul_pos q.d0 (Nat.pow_pos hy)
  have dlt : Δ0 * z0.natAbs ^ (T.length + 1) < 2 ^ 2700 := small_den q.D0 (by omega) (by omega)
  have nlt : M0 * (2 * Mb) ^ T.length < 2 ^ 2740 := small_num q.m0 q.mb (by omega)
  have up : (2 : Nat) ^ 2700 ≤ 2 ^ 3990 := Nat.pow_le_pow_right (by decide) (by decide)
  have nb : M0 * (2 * Mb) ^ T.length * 2 ^ 64 < 2 ^ 2804 := by
    rw [show (2 : Nat) ^ 2804 = 2 ^ 2740 * 2 ^ 64 from (Nat.pow_add 2 2740 64)]
    exact Nat.mul_lt_mul_of_pos_right nlt (Nat.pow_pos (by decide))
  refine ⟨⟨d0, fun p hp => ?_, fun p hp => ?_, Nat.lt_of_lt_of_le dlt (Nat.le_trans up (Nat.pow_le_pow_right (by decide) (by decide))), ?_⟩, ?_, fun p hp => ?_, hl⟩
  · simp only [prodW, List.flatMap_cons, List.flatMap_nil, List.append_nil, List.mem_map] at hp
    obtain ⟨g, hg, rfl⟩ := hp
    have := dv_quot hr (can_dv q.ft.can q.df g hg) z1 q.db
    rw [← hz] at this
    rw [e1]
    exact this
  · simp only [prodW, List.flatMap_cons, List.flatMap_nil, List.append_nil, List.mem_map] at hp
    obtain ⟨g, hg, rfl⟩ := hp
    have := q.rf g hg
    show k0 ≤ k0 - f + g.1 ∧ k0 - f + g.1 < k0 + 60
    omega
  · rw [prod_len]
    have h1 : M0 * (2 * Mb) ^ T.length * Mb ≤ M0 * (2 * Mb) ^ T.length * 2 ^ 64 := Nat.mul_le_mul_left _ (by omega)
    have h2 : [(k0 - f, r / b0)].length * foot.length ≤ 2 ^ 5 := by simp; omega
    calc _ ≤ 2 ^ 5 * (M0 * (2 * Mb) ^ T.length * 2 ^ 64) := Nat.mul_le_mul h2 h1
      _ < 2 ^ 5 * 2 ^ 2804 := Nat.mul_lt_mul_of_pos_left nb (Nat.pow_pos (by decide))
      _ = 2 ^ (5 + 2804) := (Nat.pow_add 2 5 2804).symm
      _ ≤ 2 ^ 3999 := Nat.pow_le_pow_right (by decide) (by decide)
  · have h1 := dv_quot1 hr z1 q.db
    rw [← hz] at h1
    rw [← e1] at h1
    refine h1.sz d0 ?_ (Nat.lt_of_lt_of_le dlt up)
    have h2 : M0 * (2 * Mb) ^ T.length * Δb ≤ M0 * (2 * Mb) ^ T.length * 2 ^ 64 := Nat.mul_le_mul_left _ (Nat.le_of_lt q.Db)
    exact Nat.lt_of_le_of_lt h2 (Nat.lt_of_lt_of_le nb (Nat.pow_le_pow_right (by decide) (by decide)))
  · refine (can_dv q.ft.can q.df p hp).sz q.db (Nat.lt_of_lt_of_le q.mb (Nat.pow_le_pow_right (by decide) (by decide))) (Nat.lt_of_lt_of_le q.Db (Nat.pow_le_pow_right (by decide) (by decide)))
theorem turn_fit2 (q : QS top foot f b0 lo Δ0 M0 Δb Mb) (hz : b0 = z0 /. Δb) (hz1 : z0.natAbs ≤ Mb) (h : ExI top foot f most lo Δ0 M0 z0.natAbs Mb ((k0, r) :: R') T) (hm : most + f < lo + 40) (hk : k0 - f ≤ most)
    (hP : Can P) (eP : ∀ k, cf P k = cf (prodW [(k0 - f, r / b0)] foot) k) :
    Fit (((k0, r) :: R') ++ negW P) (Δ0 * z0.natAbs ^ (T.length + 1)) (M0 * (2 * Mb) ^ T.length * Mb) lo ∧ P.length ≤ 20 ∧ ((k0, r) :: R').length ≤ 60 ∧ (∀ k, Dv (Δ0 * z0.natAbs ^ (T.length + 1)) (M0 * (2 * Mb) ^ T.length * Mb) (cf P k)) ∧ (∀ k, Dv (Δ0 * z0.natAbs ^ (T.length + 1)) (M0 * (2 * Mb) ^ T.length * Mb) (cf ((k0, r) :: R') k)) ∧ ∀ p ∈ P, k0 ≤ p.1 ∧ p.1 < k0 + 20 := by
  have z1 : z0 ≠ 0 := fun z => by
    have := q.ft.b0
    rw [hz, z] at this
    simp at this
  have hT := h.cnt hm
  have hy : 0 < z0.natAbs := by omega
  have e1 : Δ0 * z0.natAbs ^ (T.length + 1) = Δ0 * z0.natAbs ^ T.length * z0.natAbs := by rw [Nat.pow_succ, Nat.mul_assoc]
  obtain ⟨ff, _, _, hl⟩ := turn_fit q hz hz1 h hm hk
  have hr : Dv (Δ0 * z0.natAbs ^ T.length) (M0 * (2 * Mb) ^ T.length) r := by
    have := h.dv k0
    rwa [cf_head h.canR] at this
  have dP : ∀ k, Dv (Δ0 * z0.natAbs ^ (T.length + 1)) (M0 * (2 * Mb) ^ T.length * Mb) (cf P k) := fun k => by
    rw [eP, cf_prod1, e1]
    have := dv_quot hr (q.df (k - (k0 - f))) z1 q.db
    rw [← hz] at this
    exact this
  have dR : ∀ k, Dv (Δ0 * z0.natAbs ^ (T.length + 1)) (M0 * (2 * Mb) ^ T.length * Mb) (cf ((k0, r) :: R') k) := fun k => by
    have := (h.dv k).scale z0.natAbs hy
    rw [← e1] at this
    exact this.up (Nat.mul_le_mul_left _ hz1)
  have rP : ∀ p ∈ P, k0 ≤ p.1 ∧ p.1 < k0 + 20 := fun p hp => by
    have h1 := can_mem hP (List.mem_map_of_mem (f := (·.1)) hp)
    rw [eP, cf_prod1] at h1
    have h2 : cf foot (p.1 - (k0 - f)) ≠ 0 := fun z => h1 (by rw [z]; grind)
    obtain ⟨g, hg, eg⟩ := List.mem_map.mp (cf_ne h2)
    have := q.rf g hg
    have eg : g.1 = p.1 - (k0 - f) := eg
    omega
  have hR60 : ((k0, r) :: R').length ≤ 60 := len_rng h.canR h.rng
  have hPl : P.length ≤ 20 := len_rng hP rP
  refine ⟨⟨ff.d0, fun p hp => ?_, fun p hp => ?_, ff.dk, ?_⟩, hPl, hR60, dP, dR, rP⟩
  · rcases List.mem_append.mp hp with z | z
    · exact can_dv h.canR dR p z
    · obtain ⟨g, hg, rfl⟩ := List.mem_map.mp z
      exact (can_dv hP dP g hg).neg
  · rcases List.mem_append.mp hp with z | z
    · exact h.rng p z
    · obtain ⟨g, hg, rfl⟩ := List.mem_map.mp z
      have h1 := rP g hg
      have h2 := h.rng (k0, r) (by simp)
      show lo ≤ g.1 ∧ g.1 < lo + 60
      have h2 : lo ≤ k0 ∧ k0 < lo + 60 := h2
      omega
  · have nlt : M0 * (2 * Mb) ^ T.length < 2 ^ 2740 := small_num q.m0 q.mb (by omega)
    have nb : M0 * (2 * Mb) ^ T.length * 2 ^ 64 < 2 ^ 2804 := by
      rw [show (2 : Nat) ^ 2804 = 2 ^ 2740 * 2 ^ 64 from (Nat.pow_add 2 2740 64)]
      exact Nat.mul_lt_mul_of_pos_right nlt (Nat.pow_pos (by decide))
    have h1 : M0 * (2 * Mb) ^ T.length * Mb ≤ M0 * (2 * Mb) ^ T.length * 2 ^ 64 := Nat.mul_le_mul_left _ (Nat.le_of_lt q.mb)
    have h2 : (((k0, r) :: R') ++ negW P).length ≤ 2 ^ 7 := by
      rw [List.length_append]
      have : (negW P).length = P.length := by simp [negW]
      omega
    calc _ ≤ 2 ^ 7 * (M0 * (2 * Mb) ^ T.length * 2 ^ 64) := Nat.mul_le_mul h2 h1
      _ < 2 ^ 7 * 2 ^ 2804 := Nat.mul_lt_mul_of_pos_left nb (Nat.pow_pos (by decide))
      _ = 2 ^ (7 + 2804) := (Nat.pow_add 2 7 2804).symm
      _ ≤ 2 ^ 3999 := Nat.pow_le_pow_right (by decide) (by decide)
theorem conv_app (T : W) (t : Int × Rat) (v : W) (m : Int) : conv (cf (T ++ [t])) v m = conv (cf T) v m + cf (prodW [t] v) m := by
  rw [cf_prod, ← conv_add]
  refine conv_ext fun q _ => cf_app T [t] _
theorem turn_ok (q : QS top foot f b0 lo Δ0 M0 Δb Mb) (hz : b0 = z0 /. Δb) (hz1 : z0.natAbs ≤ Mb) (h : ExI top foot f most lo Δ0 M0 z0.natAbs Mb ((k0, r) :: R') T) (hm : most + f < lo + 40) (hk : k0 - f ≤ most) (hfl : f ≤ fl) (hfl2 : fl < f + 20)
    (hP : Can P) (eP : ∀ k, cf P k = cf (prodW [(k0 - f, r / b0)] foot) k) (hU : Can U) (eU : ∀ k, cf U k = cf ((k0, r) :: R') k + cf (negW P) k) :
    ExI top foot f most lo Δ0 M0 z0.natAbs Mb (cutW U (most + fl)) (T ++ [(k0 - f, r / b0)]) ∧ (∀ p ∈ cutW U (most + fl), k0 < p.1) := by
  have hb0 := q.ft.b0
  obtain ⟨_, hPl, _, dP, dR, rP⟩ := turn_fit2 q hz hz1 h hm hk hP eP
  have hr0 : r ≠ 0 := h.canR.nz (k0, r) (by simp)
  have hk0 : lo ≤ k0 ∧ k0 < lo + 60 := h.rng (k0, r) (by simp)
  have eUk : ∀ k, cf U k = cf ((k0, r) :: R') k - r / b0 * cf foot (k - (k0 - f)) := fun k => by
    rw [eU, cf_neg, eP, cf_prod1]; grind
  have U0 : cf U k0 = 0 := by
    rw [eUk, cf_head h.canR, show k0 - (k0 - f) = f by omega]
    obtain ⟨ft, e⟩ := q.ft.hd
    have : cf foot f = b0 := by rw [e]; rw [e] at q; exact cf_head (p := (f, b0)) q.ft.can
    rw [this, Rat.div_mul_cancel hb0]
    grind
  have memU : ∀ k, cf U k ≠ 0 → (k ∈ keysW ((k0, r) :: R') ∨ k ∈ keysW P) ∧ k ≠ k0 := fun k hk => by
    refine ⟨?_, fun z => hk (by rw [z]; exact U0)⟩
    by_cases z : cf ((k0, r) :: R') k = 0
    · refine .inr (cf_ne fun z2 => hk ?_)
      rw [eU, cf_neg, z, z2]; grind
    · exact .inl (cf_ne z)
  have cU : ∀ p ∈ cutW U (most + fl), p.1 ≤ most + fl ∧ cf U p.1 ≠ 0 := fun p hp => by
    have h1 := List.mem_filter.mp hp
    exact ⟨by simpa using h1.2, can_mem hU (List.mem_map_of_mem (f := (·.1)) h1.1)⟩
  have low : ∀ p ∈ cutW U (most + fl), k0 < p.1 := fun p hp => by
    obtain ⟨_, h2⟩ := cU p hp
    obtain ⟨h3, h4⟩ := memU _ h2
    rcases h3 with z | z
    · obtain ⟨g, hg, eg⟩ := List.mem_map.mp z
      have eg : g.1 = p.1 := eg
      rcases List.mem_cons.mp hg with e | e
      · subst e; exact absurd eg.symm h4
      · have := h.canR.head g e
        have : k0 < g.1 := this
        omega
    · obtain ⟨g, hg, eg⟩ := List.mem_map.mp z
      have := rP g hg
      have eg : g.1 = p.1 := eg
      omega
  refine ⟨⟨can_cut hU _, ⟨?_, fun p hp => ?_⟩, fun p hp => ?_, fun p hp g hg => ?_, fun k hk' => ?_, fun p hp => ?_, fun k => ?_, fun p hp => ?_, fun i p hi => ?_⟩, low⟩
  · rw [List.pairwise_append]
    refine ⟨h.canT.asc, by simp, fun a ha b hb => ?_⟩
    simp only [List.mem_singleton] at hb
    subst hb
    have := h.sep a ha (k0, r) (by simp)
    show a.1 < k0 - f
    have : a.1 + f < k0 := this
    omega
  · rcases List.mem_append.mp hp with z | z
    · exact h.canT.nz p z
    · simp only [List.mem_singleton] at z
      subst z
      show r / b0 ≠ 0
      intro e
      rw [Rat.div_def] at e
      rcases Rat.mul_eq_zero.mp e with z | z
      · exact hr0 z
      · have := Rat.mul_inv_cancel b0 hb0
        rw [z] at this
        simp at this
  · rcases List.mem_append.mp hp with z | z
    · exact h.leT p z
    · simp only [List.mem_singleton] at z
      subst z
      show lo - f ≤ k0 - f ∧ k0 - f ≤ most
      omega
  · have hl := low g hg
    rcases (List.mem_append.mp hp) with z | z
    · have := h.sep p z (k0, r) (by simp)
      have : p.1 + f < k0 := this
      omega
    · simp only [List.mem_singleton] at z
      subst z
      show k0 - f + f < g.1
      omega
  · rw [cf_cut, if_pos (by omega), eU, cf_neg, h.eq k hk', eP, conv_app]
    grind
  · obtain ⟨h1, h2⟩ := cU p hp
    have := low p hp
    omega
  · rw [cf_cut, List.length_append, List.length_singleton]
    split
    · rw [eU, cf_neg]
      have := (dR k).add (dP k).neg (Nat.mul_pos q.d0 (Nat.pow_pos (by
        have z1 : z0 ≠ 0 := fun z => by
          rw [hz, z] at hb0
          simp at hb0
        omega)))
      refine this.up ?_
      rw [Nat.pow_succ, ← Nat.mul_assoc, Nat.two_mul, Nat.mul_add]
      exact Nat.le_refl _
    · exact Dv.zero _ _
  · rcases List.mem_append.mp hp with z | z
    · exact h.szT p z
    · simp only [List.mem_singleton] at z
      subst z
      exact (turn_fit q hz hz1 h hm hk).2.1
  · rcases Nat.lt_or_ge i T.length with z | z
    · rw [List.getElem?_append_left z] at hi
      exact h.dvT i p hi
    · rw [List.getElem?_append_right z] at hi
      have hi0 : i - T.length = 0 := by
        have := ((List.getElem?_eq_some_iff.mp hi).1)
        simp at this
        omega
      rw [hi0] at hi
      simp only [List.getElem?_cons_zero, Option.some.injEq] at hi
      subst hi
      have hi1 : i = T.length := by omega
      subst hi1
      have z1 : z0 ≠ 0 := fun z => by
        rw [hz, z] at hb0
        simp at hb0
      have hr : Dv (Δ0 * z0.natAbs ^ T.length) (M0 * (2 * Mb) ^ T.length) r := by
        have := h.dv k0
        rwa [cf_head h.canR] at this
      have h1 := dv_quot1 hr z1 q.db
      rw [← hz] at h1
      rw [Nat.pow_succ, ← Nat.mul_assoc]
      exact h1.up (Nat.mul_le_mul_left _ (Nat.le_of_lt q.Db))
end
end R

/-! Q8: the series of a quotient: the program's loop. -/
namespace R
open PySem L2
open scoped Rat
def tP (p : Int × Rat) : PyData := .tuple [.int p.1, .int p.2.num, .int p.2.den]
theorem pys_w : ∀ w : W, D.pys (w.map tD) = some (w.map tP)
  | [] => rfl
  | p :: w => by
    rw [List.map_cons, D.pys, pys_w w]
    simp [tD, tP, D.py, D.pys]
theorem py_w (w : W) : (wD w).py = some (.tuple (w.map tP)) := by
  unfold wD
  rw [D.py, pys_w]
  rfl
theorem lay_w : ∀ w : W, PyData.canLayAll0 (w.map tP) = true
  | [] => by (simp [PyData.canLayAll0])
  | p :: w => by
    rw [List.map_cons, PyData.canLayAll0, lay_w w]
    simp [tP, PyData.canLay0, PyData.canLayAll0]
theorem depth_w : ∀ w : W, PyData.depthAll (w.map tP) ≤ 2
  | [] => by (simp [PyData.depthAll])
  | p :: w => by
    rw [List.map_cons]; rw [PyData.depthAll]
    have := depth_w w
    have h2 : (tP p).depth ≤ 2 := by simp [tP, PyData.depth, PyData.depthAll]
    omega
theorem shaped_w (w : W) : SeqAt.shaped (.tuple (w.map tP)) = true := by
  have := depth_w w
  simp [SeqAt.shaped, PyData.canLay0, lay_w, PyData.depth]
  omega
theorem eqD_wnil (w : W) : eqD (wD w) (.tup []) = some w.isEmpty := by
  unfold eqD
  rw [py_w, show (D.tup []).py = some (.tuple []) from rfl]
  have h2 : SeqAt.shaped (.tuple []) = true := by simp [SeqAt.shaped, PyData.canLay0, PyData.canLayAll0, PyData.depth, PyData.depthAll]
  simp only [shaped_w, h2, Bool.and_self, if_true]
  cases w with
  | nil => simp [PyData.eqv, PyData.eqvAll]
  | cons p w => simp [PyData.eqv, PyData.eqvAll]
def whC : S → E
  | .whl c _ => c
  | _ => .nil
def whB : S → S
  | .whl _ b => b
  | _ => .nil
def whTest (n : Nat) (s : S) : Sl → Cells → Out (Bool × Cells) := fun σ κ => (ev (Gm n) (whC s) σ κ).bind fun x => (opt (truD x.1.d)).bind fun t => .ok (t, x.2)
def whBody (n : Nat) (s : S) : Sl → Cells → Res := fun σ κ => exec (Gm n) (whB s) σ κ
def exW : S := sN 2 Pr.b_expanded_in
def exσ (one : D) (most : Int) (R foot T : W) (first : Int × Rat) (u : Option D) : Sl := [some (.fz one), some (.fz (.int most)), some (.fz (wD R)), some (.fz (wD foot)), some (.ol none (T.map tD)), some (.fz (tD first)), Option.map O.fz u]
theorem cut3 (a b c : D) : cutD [a, b, c] (some 1) none = [b, c] := rfl
@[simp] theorem slc_tup (lo hi : Option Int) (xs : List D) : slcD lo hi (.tup xs) = some (.fz (.tup (cutD xs lo hi))) := rfl
theorem ex_test0 (n : Nat) (one : D) (most : Int) (foot T : W) (first : Int × Rat) (u : Option D) (κ : Cells) : whTest n exW (exσ one most [] foot T first u) κ = .ok (false, κ) := by
  have e := eqD_wnil []
  simp -implicitDefEqProofs [sizeLine_eq, startS, wipeS, assignT, assign1, setAt_eq, isTy, whTest, exW, whC, sN, Pr.b_expanded_in, exσ]
  simp only [wD, List.map_nil, List.isEmpty_nil] at e
  simp -implicitDefEqProofs [sizeLine_eq, startS, wipeS, assignT, assign1, setAt_eq, isTy, wD, e]
theorem ex_test1 (n : Nat) (one : D) (most : Int) (p : Int × Rat) (R foot T : W) (first : Int × Rat) (u : Option D) (κ : Cells) : whTest n exW (exσ one most (p :: R) foot T first u) κ = .ok (decide (p.1 - first.1 ≤ most), κ) := by
  have e := eqD_wnil (p :: R)
  simp -implicitDefEqProofs [sizeLine_eq, startS, wipeS, assignT, assign1, setAt_eq, isTy, whTest, exW, whC, sN, Pr.b_expanded_in, exσ]
  simp only [wD, List.map_cons, List.isEmpty_cons, tD] at e
  simp -implicitDefEqProofs [sizeLine_eq, startS, wipeS, assignT, assign1, setAt_eq, isTy, wD, e, tD]
theorem atI_last {α : Type} {xs : List α} {d : α} (h : xs.getLast? = some d) : atI xs (-1) = some d := by
  have h0 : xs ≠ [] := fun z => by rw [z] at h; cases h
  have hl : 0 < xs.length := List.length_pos_iff.mpr h0
  rw [List.getLast?_eq_getElem?] at h
  have e : ixN xs.length (-1) = some (xs.length - 1) := by
    unfold ixN
    simp
    omega
  show (ixN xs.length (-1)).bind _ = _
  rw [e]
  exact h
theorem ex_body (n : Nat) (one : D) (most k0 f fl : Int) (r b0 bl : Rat) (R foot T P U : W) (u : Option D) (κ κ1 κ2 : Cells) (hb0 : b0 ≠ 0) (hr : Sz 3990 r) (hb : Sz 3990 b0) (hT : T.length ≤ 100) (hP : P.length ≤ 100) (hU : U.length ≤ 1000) (hlast : foot.getLast? = some (fl, bl))
    (e1 : callN P0 (n + 4) 13 [wD [(k0 - f, r / b0)], wD foot] κ = .ok (wD P, κ1)) (e2 : callN P0 (n + 4) 11 [wD ((k0, r) :: R), wD (negW P)] κ1 = .ok (wD U, κ2)) :
    whBody (n + 4) exW (exσ one most ((k0, r) :: R) foot T (f, b0) u) κ = .nx (exσ one most (cutW U (most + fl)) foot (T ++ [(k0 - f, r / b0)]) (f, b0) (some (tD (k0 - f, r / b0)))) κ2 := by
  have e0 := divided_ok (n + 2) r b0 κ hb0 (hr.up (by decide)) (hb.up (by decide))
  have e3 := negative_ok (n + 3) P κ1 (by omega)
  have e4 := cutoff_ok (n + 3) U (most + fl) κ2 (by omega)
  have e5 : atI (foot.map tD) (-1) = some (tD (fl, bl)) := atI_last (by rw [List.getLast?_map, hlast]; rfl)
  have hT2 : T.length < 16777216 := by omega
  generalize hq : r / b0 = q at *
  simp only [frD] at e0
  simp only [wD, List.map_cons, List.map_nil, tD] at e1 e2 e3 e4 e5
  simp -implicitDefEqProofs [sizeLine_eq, startS, wipeS, assignT, assign1, setAt_eq, isTy, whBody, exW, whB, sN, Pr.b_expanded_in, exσ, wD, tD, cut3, e0, b_addT (xs := [D.int (k0 - f)]) (ys := [D.int q.num, D.int q.den]) (le_line' (by simp)), hT2, e1, e2, e3, e4, e5]
/-- cells that are only added -/
def Gr (κ κ' : Cells) : Prop := ∃ js, κ' = κ ++ js
theorem Gr.rfl' (κ : Cells) : Gr κ κ := ⟨[], by simp⟩
theorem Gr.one (κ : Cells) (c : Cell) : Gr κ (κ ++ [c]) := ⟨[c], rfl⟩
theorem Gr.trans {a b c : Cells} (h : Gr a b) (k : Gr b c) : Gr a c := by
  obtain ⟨x, rfl⟩ := h
  obtain ⟨y, rfl⟩ := k
  exact ⟨x ++ y, by simp⟩
theorem ex_loop (n : Nat) (one : D) {top foot : W} {f most lo fl : Int} {b0 bl : Rat} {Δ0 M0 Δb Mb : Nat} {z0 : Int} (q : QS top foot f b0 lo Δ0 M0 Δb Mb) (hz : b0 = z0 /. Δb) (hz1 : z0.natAbs ≤ Mb) (hm : most + f < lo + 40) (hfl : f ≤ fl) (hfl2 : fl < f + 20) (hlast : foot.getLast? = some (fl, bl)) :
    ∀ (m fuel : Nat) (R T : W) (u : Option D) (κ : Cells), ExI top foot f most lo Δ0 M0 z0.natAbs Mb R T → (∀ p ∈ R, most + f < p.1 + m) → m < fuel →
      ∃ R' T' u' κ', whileLoop (whTest (n + 4) exW) (whBody (n + 4) exW) fuel (exσ one most R foot T (f, b0) u) κ = .nx (exσ one most R' foot T' (f, b0) u') κ' ∧ Gr κ κ' ∧ ExI top foot f most lo Δ0 M0 z0.natAbs Mb R' T' ∧ ∀ p ∈ R', most + f < p.1
  | m, fuel, R, T, u, κ, h, hlow, hfu => by
    obtain ⟨fu, rfl⟩ : ∃ fu, fuel = fu + 1 := ⟨fuel - 1, by omega⟩
    cases R with
    | nil => exact ⟨[], T, u, κ, wh_stop (ex_test0 _ _ _ _ _ _ _ _), Gr.rfl' κ, h, by simp⟩
    | cons p R =>
      obtain ⟨k0, r⟩ := p
      by_cases hk : k0 - f ≤ most
      · obtain ⟨fit1, s1, s2, s3⟩ := turn_fit q hz hz1 h hm hk
        obtain ⟨P, c1, e1, hP, eP⟩ := productof_ok n [(k0 - f, r / b0)] foot _ _ _ κ fit1 (fun p hp => by simp only [List.mem_singleton] at hp; subst hp; exact s1.up (by decide)) (fun p hp => (s2 p hp).up (by decide)) (by simp) (by omega)
        obtain ⟨fit2, l1, l2, dP, dR, rP⟩ := turn_fit2 q hz hz1 h hm hk hP eP
        obtain ⟨U, c2, e2, hU, eU⟩ := sumof_ok n ((k0, r) :: R) (negW P) _ _ _ (κ ++ [c1]) fit2 (by omega) (by simp [negW]; omega)
        obtain ⟨h2, low⟩ := turn_ok q hz hz1 h hm hk hfl hfl2 hP eP hU eU
        have hr : Sz 3990 r := by
          have := (dR k0)
          rw [cf_head h.canR] at this
          have h5 := fit2.mb
          refine this.sz fit2.d0 (Nat.lt_of_le_of_lt (Nat.le_mul_of_pos_left _ (by simp : 0 < (((k0, r) :: R) ++ negW P).length)) (Nat.lt_of_le_of_lt (Nat.le_refl _) ?_)) ?_
          · have nlt : M0 * (2 * Mb) ^ T.length < 2 ^ 2740 := small_num q.m0 q.mb (by have := h.cnt hm; omega)
            have h1 : M0 * (2 * Mb) ^ T.length * Mb ≤ M0 * (2 * Mb) ^ T.length * 2 ^ 64 := Nat.mul_le_mul_left _ (Nat.le_of_lt q.mb)
            have h7 : (((k0, r) :: R) ++ negW P).length ≤ 2 ^ 7 := by
              rw [List.length_append]
              have : (negW P).length = P.length := by simp [negW]
              omega
            calc _ ≤ 2 ^ 7 * (M0 * (2 * Mb) ^ T.length * 2 ^ 64) := Nat.mul_le_mul h7 h1
              _ < 2 ^ 7 * (2 ^ 2740 * 2 ^ 64) := Nat.mul_lt_mul_of_pos_left (Nat.mul_lt_mul_of_pos_right nlt (Nat.pow_pos (by decide))) (Nat.pow_pos (by decide))
              _ = 2 ^ (7 + (2740 + 64)) := by rw [Nat.pow_add 2 7, Nat.pow_add 2 2740]
              _ ≤ 2 ^ 3990 := Nat.pow_le_pow_right (by decide) (by decide)
          · have z1 : z0.natAbs < 2 ^ 64 := Nat.lt_of_le_of_lt hz1 q.mb
            exact Nat.lt_of_lt_of_le (small_den q.D0 z1 (by have := h.cnt hm; omega)) (Nat.pow_le_pow_right (by decide) (by decide))
        have hb : Sz 3990 b0 := by
          obtain ⟨ft, e⟩ := q.ft.hd
          exact s2 (f, b0) (by rw [e]; simp)
        have hUl : U.length ≤ 1000 := by
          have h6 : ∀ p ∈ U, lo ≤ p.1 ∧ p.1 < lo + ((100 : Nat) : Int) := fun p hp => by
            have hne := can_mem hU (List.mem_map_of_mem (f := (·.1)) hp)
            rw [eU, cf_neg] at hne
            by_cases z : cf ((k0, r) :: R) p.1 = 0
            · have z2 : cf P p.1 ≠ 0 := fun z2 => hne (by rw [z, z2]; grind)
              obtain ⟨g, hg, eg⟩ := List.mem_map.mp (cf_ne z2)
              have := rP g hg
              have h8 := h.rng (k0, r) (by simp)
              have eg : g.1 = p.1 := eg
              have h8 : lo ≤ k0 ∧ k0 < lo + 60 := h8
              omega
            · obtain ⟨g, hg, eg⟩ := List.mem_map.mp (cf_ne z)
              have := h.rng g hg
              have eg : g.1 = p.1 := eg
              omega
          have := len_rng hU h6
          omega
        have hT := h.cnt hm
        have eb := ex_body n one most k0 f fl r b0 bl R foot T P U u κ (κ ++ [c1]) (κ ++ [c1] ++ [c2]) q.ft.b0 hr hb (by omega) (by omega) hUl hlast e1 e2
        have et := ex_test1 (n + 4) one most (k0, r) R foot T (f, b0) u κ
        rw [decide_eq_true (show ((k0, r) : Int × Rat).1 - ((f, b0) : Int × Rat).1 ≤ most from hk)] at et
        cases m with
        | zero => have := hlow (k0, r) (by simp); have : most + f < k0 + ((0 : Nat) : Int) := this; omega
        | succ m =>
          obtain ⟨R', T', u', κ', e5, g5, h5, h6⟩ := ex_loop n one q hz hz1 hm hfl hfl2 hlast m fu _ _ (some (tD (k0 - f, r / b0))) (κ ++ [c1] ++ [c2]) h2 (fun p hp => by
            have h7 := low p hp
            have h8 := hlow (k0, r) (by simp)
            have h8 : most + f < k0 + ((m + 1 : Nat) : Int) := h8
            omega) (by omega)
          exact ⟨R', T', u', κ', by rw [wh_step et eb, e5], ((Gr.one κ c1).trans (Gr.one _ c2)).trans g5, h5, h6⟩
      · have et := ex_test1 (n + 4) one most (k0, r) R foot T (f, b0) u κ
        rw [decide_eq_false (show ¬ ((k0, r) : Int × Rat).1 - ((f, b0) : Int × Rat).1 ≤ most from hk)] at et
        refine ⟨_, T, u, κ, wh_stop et, Gr.rfl' κ, h, fun p hp => ?_⟩
        rcases (List.mem_cons.mp hp) with e | e
        · subst e; show most + f < k0; omega
        · have := h.canR.head p e
          have : k0 < p.1 := this
          omega
end R

/-! Q9: goals with a post; the law's pen and its draws. -/
namespace R
open PySem L2
def Good (r : Res) (Q : D → Cells → Prop) : Prop := ∃ d κ, r.out = .ok (d, κ) ∧ Q d κ
theorem good_call {n f : Nat} {fn : Fn} {ds : List D} {κ : Cells} {Q : D → Cells → Prop} (hf : P0.fns[f]? = some fn) (hl : ds.length = fn.ps)
    (h : Good (exec (Gm n) fn.body (startS fn ds) κ) Q) : ∃ d κ', callN P0 (n + 1) f ds κ = .ok (d, κ') ∧ Q d κ' := by
  rw [call0 hf hl]
  exact h
@[simp] theorem good_rt (d : D) (κ : Cells) (Q : D → Cells → Prop) : Good (.rt d κ) Q ↔ Q d κ := by
  constructor
  · rintro ⟨d', κ', h, hq⟩
    simp at h
    rw [h.1, h.2]
    exact hq
  · exact fun h => ⟨d, κ, rfl, h⟩
@[simp] theorem good_nx (σ : Sl) (κ : Cells) (Q : D → Cells → Prop) : Good (.nx σ κ) Q ↔ Q .non κ := by
  constructor
  · rintro ⟨d', κ', h, hq⟩
    simp at h
    rw [h.1, h.2]
    exact hq
  · exact fun h => ⟨.non, κ, rfl, h⟩
theorem good_for {I : List D → Sl → Cells → Prop} {step : D → Sl → Cells → Res} {t : Tk step} {f : Sl → Cells → Res} {t' : Tk f} {xs : List D} {σ : Sl} {κ : Cells} {Q : D → Cells → Prop}
    (h0 : I xs σ κ) (hs : ∀ (x : D) (xs : List D) (σ : Sl) (κ : Cells), I (x :: xs) σ κ → ∃ σ' κ', step x σ κ = .nx σ' κ' ∧ I xs σ' κ')
    (g : ∀ σ κ, I [] σ κ → Good (f σ κ) Q) : Good (Res.then f t' (forD step t xs σ κ)) Q := by
  obtain ⟨σ', κ', e, hi⟩ := for_list hs xs σ κ h0
  rw [show forD step t xs σ κ = forLoop step xs σ κ from rfl, e]
  exact g σ' κ' hi
theorem good_for1 {I : Nat → Sl → Cells → Prop} {step : D → Sl → Cells → Res} {t : Tk step} {f : Sl → Cells → Res} {t' : Tk f} {xs : List D} {σ : Sl} {κ : Cells} {Q : D → Cells → Prop}
    (h0 : I 0 σ κ) (hs : ∀ (j : Nat) (x : D) (σ : Sl) (κ : Cells), xs[j]? = some x → I j σ κ → ∃ σ' κ', step x σ κ = .nx σ' κ' ∧ I (j + 1) σ' κ')
    (g : ∀ σ κ, I xs.length σ κ → Good (f σ κ) Q) : Good (Res.then f t' (forD step t xs σ κ)) Q := by
  obtain ⟨σ', κ', e, hi⟩ := for_inv (I := I) xs 0 σ κ (fun j x σ κ hx hi => by
    rw [Nat.zero_add] at hi ⊢
    exact hs j x σ κ hx hi) h0
  rw [show forD step t xs σ κ = forLoop step xs σ κ from rfl, e]
  rw [Nat.zero_add] at hi
  exact g σ' κ' hi
theorem good_forx {I : Sl → Cells → Prop} {step : D → Sl → Cells → Res} {t : Tk step} {f : Sl → Cells → Res} {t' : Tk f} {xs : List D} {σ : Sl} {κ : Cells} {Q : D → Cells → Prop}
    (h : ∃ σ' κ', forLoop step xs σ κ = .nx σ' κ' ∧ I σ' κ') (g : ∀ σ κ, I σ κ → Good (f σ κ) Q) : Good (Res.then f t' (forD step t xs σ κ)) Q := by
  obtain ⟨σ', κ', e, hi⟩ := h
  rw [show forD step t xs σ κ = forLoop step xs σ κ from rfl, e]
  exact g σ' κ' hi
def NxTo (r : Res) (J : Sl → Cells → Prop) : Prop := ∃ σ' κ', r = .nx σ' κ' ∧ J σ' κ'
theorem nx_for1 {I : Nat → Sl → Cells → Prop} {step : D → Sl → Cells → Res} {t : Tk step} {f : Sl → Cells → Res} {t' : Tk f} {xs : List D} {σ : Sl} {κ : Cells} {J : Sl → Cells → Prop}
    (h0 : I 0 σ κ) (hs : ∀ (j : Nat) (x : D) (σ : Sl) (κ : Cells), xs[j]? = some x → I j σ κ → ∃ σ' κ', step x σ κ = .nx σ' κ' ∧ I (j + 1) σ' κ')
    (g : ∀ σ κ, I xs.length σ κ → NxTo (f σ κ) J) : NxTo (Res.then f t' (forD step t xs σ κ)) J := by
  obtain ⟨σ', κ', e, hi⟩ := for_inv (I := I) xs 0 σ κ (fun j x σ κ hx hi => by
    rw [Nat.zero_add] at hi ⊢
    exact hs j x σ κ hx hi) h0
  rw [show forD step t xs σ κ = forLoop step xs σ κ from rfl, e]
  rw [Nat.zero_add] at hi
  exact g σ' κ' hi
@[simp] theorem nx_nx (σ : Sl) (κ : Cells) (J : Sl → Cells → Prop) : NxTo (.nx σ κ) J ↔ J σ κ := by
  constructor
  · rintro ⟨σ', κ', h, hj⟩
    simp at h
    rw [h.1, h.2]
    exact hj
  · exact fun h => ⟨σ, κ, rfl, h⟩
theorem good_comp {I : Nat → Cells → Prop} {T : D → Prop} {step : D → Cells → Out (List D × Cells)} {t : Tk step} {xs : List D} {κ : Cells}
    (h0 : I 0 κ) (hs : ∀ (j : Nat) (x : D) (κ : Cells), xs[j]? = some x → I j κ → ∃ y κ', step x κ = .ok ([y], κ') ∧ I (j + 1) κ' ∧ T y) :
    ∃ ys κ', compD step t xs κ = .ok (ys, κ') ∧ ys.length = xs.length ∧ I xs.length κ' ∧ ∀ (j : Nat) (y : D), ys[j]? = some y → T y := by
  obtain ⟨ys, κ', h1, h2, h3, h4⟩ := comp_each (I := I) (T := fun _ => T) xs 0 κ (fun j x κ hx hi => by
    rw [Nat.zero_add] at hi ⊢
    exact hs j x κ hx hi) h0
  rw [Nat.zero_add] at h3
  exact ⟨ys, κ', h1, h2, h3, fun j y hy => h4 j y hy⟩
theorem good_compC {I : Nat → Cells → Prop} {T : D → Prop} {step : D → Cells → Out (List D × Cells)} {t : Tk step} {xs : List D} {κ : Cells} {C : Out (List D × Cells)} (hC : compD step t xs κ = C)
    (h0 : I 0 κ) (hs : ∀ (j : Nat) (x : D) (κ : Cells), xs[j]? = some x → I j κ → ∃ y κ', step x κ = .ok ([y], κ') ∧ I (j + 1) κ' ∧ T y) :
    ∃ ys κ', C = .ok (ys, κ') ∧ ys.length = xs.length ∧ I xs.length κ' ∧ ∀ (j : Nat) (y : D), ys[j]? = some y → T y := by
  rw [← hC]
  exact good_comp h0 hs
theorem good_bind {α : Type} {g : α → Res} {t : Tk g} {o : Out α} {σ : Sl} {f : Sl → Cells → Res} {t' : Tk f} {Q : D → Cells → Prop} {J : α → Prop}
    (h : ∃ a, o = .ok a ∧ J a) (k : ∀ a, J a → Good (Res.then f t' (g a)) Q) : Good (Res.then f t' (exEd g t o σ)) Q := by
  obtain ⟨a, rfl, ha⟩ := h
  exact k a ha
theorem bd_ex {α β : Type} {g : α → Out β} {t : Tk g} {o : Out α} {J : α → Prop} {P : β → Prop} (h : ∃ a, o = .ok a ∧ J a) (k : ∀ a, J a → ∃ b, g a = .ok b ∧ P b) : ∃ b, bd g t o = .ok b ∧ P b := by
  obtain ⟨a, rfl, ha⟩ := h
  exact k a ha
theorem get_range {n j : Nat} {x : D} (h : ((List.range n).map fun (k : Nat) => D.int (k : Int))[j]? = some x) : j < n ∧ x = .int j := by
  have hj : j < n := by
    rcases Nat.lt_or_ge j n with h' | h'
    · exact h'
    · rw [List.getElem?_eq_none (by simpa using h')] at h; simp at h
  refine ⟨hj, ?_⟩
  rw [List.getElem?_map, List.getElem?_range hj] at h
  simpa using h.symm
theorem good_callQ {n f : Nat} {fn : Fn} {ds : List D} {κ : Cells} {Q : D → Cells → Prop} (hf : P0.fns[f]? = some fn) (hl : ds.length = fn.ps)
    (h : ∀ Q' : D → Cells → Prop, (∀ d κ, Q d κ → Q' d κ) → Good (exec (Gm n) fn.body (startS fn ds) κ) Q') : ∃ d κ', callN P0 (n + 1) f ds κ = .ok (d, κ') ∧ Q d κ' :=
  good_call hf hl (h Q (fun _ _ h => h))
theorem good_forU {I : List D → Sl → Cells → Prop} {step : D → Sl → Cells → Res} {t : Tk step} {f : Sl → Cells → Res} {t' : Tk f} {xs : List D} {was σ : Sl} {is : List Nat} {κ : Cells} {Q : D → Cells → Prop}
    (h0 : I xs σ κ) (hs : ∀ (x : D) (xs : List D) (σ : Sl) (κ : Cells), I (x :: xs) σ κ → ∃ σ' κ', step x σ κ = .nx σ' κ' ∧ I xs σ' κ')
    (g : ∀ σ κ, I [] σ κ → Good (f (unlockAll was σ is) κ) Q) : Good (Res.then f t' (unlockR was is (forD step t xs σ κ))) Q := by
  obtain ⟨σ', κ', e, hi⟩ := for_list hs xs σ κ h0
  rw [show forD step t xs σ κ = forLoop step xs σ κ from rfl, e]
  exact g σ' κ' hi
structure Pen where
  cells : List Int
  at_ : Nat
  digits : Int
  count : Nat
  fold : Int
def Pen.kv (p : Pen) : List (Key × D) :=
  [(.inr "cells", .lst (p.cells.map .int)), (.inr "at", .int p.at_), (.inr "digits", .int p.digits), (.inr "count", .int p.count), (.inr "fold", .int p.fold)]
structure Pen.ok (p : Pen) (N : Nat) : Prop where
  dig : 0 ≤ p.digits
  cnt : p.count ≤ N
  fol : 0 ≤ p.fold
  fol' : p.fold < 2147483549
theorem Pen.ok.up {p : Pen} {N M : Nat} (h : p.ok N) (hm : N ≤ M) : p.ok M := ⟨h.1, by have := h.2; omega, h.3, h.4⟩
theorem g_cells (p : Pen) : lookP p.kv (.inr "cells") = some (.lst (p.cells.map .int)) := rfl
theorem g_at (p : Pen) : lookP p.kv (.inr "at") = some (.int p.at_) := rfl
theorem g_digits (p : Pen) : lookP p.kv (.inr "digits") = some (.int p.digits) := rfl
theorem g_count (p : Pen) : lookP p.kv (.inr "count") = some (.int p.count) := rfl
theorem g_fold (p : Pen) : lookP p.kv (.inr "fold") = some (.int p.fold) := rfl
theorem kv_len (p : Pen) : p.kv.length < sizeLine := by
  show 5 < sizeLine
  rw [sizeLine_eq]
  omega
theorem p_at (p : Pen) : putP p.kv (.inr "at") (.int (p.at_ + 1)) = Pen.kv { p with at_ := p.at_ + 1 } := rfl
theorem p_digits (p : Pen) (i : Int) : putP p.kv (.inr "digits") (.int i) = Pen.kv { p with digits := i } := rfl
theorem p_count (p : Pen) : putP p.kv (.inr "count") (.int (p.count + 1)) = Pen.kv { p with count := p.count + 1 } := rfl
theorem p_fold (p : Pen) (i : Int) : putP p.kv (.inr "fold") (.int i) = Pen.kv { p with fold := i } := rfl
theorem mulOk_of {i j : Int} {a b : Nat} (hi : i.natAbs < 2 ^ (a + 1)) (hj : j.natAbs < 2 ^ (b + 1)) (hab : a + b + 2 ≤ 1000000) : mulOk i j = true := by
  have h1 := log_lt hi
  have h2 := log_lt hj
  exact (decide_eq_true (by omega))
theorem divOk_of {j : Int} (h0 : j ≠ 0) (hj : j.natAbs < 2 ^ 200) : divOk j = true := by
  have h : j.natAbs.log2 < 200 := log_lt (k := 199) hj
  unfold divOk
  rw [decide_eq_true h0, decide_eq_true (show j.natAbs.log2 < 9000 by omega)]
  rfl
/-- the pen's cell, ahead of all others -/
def pc (p : Pen) (r : Cells) : Cells := ⟨false, .dk p.kv⟩ :: r
@[simp] theorem pc_read (p : Pen) (r : Cells) : readAt (pc p r) 0 = some p.kv := rfl
@[simp] theorem pc_open (p : Pen) (r : Cells) : openAt (pc p r) 0 = some p.kv := rfl
@[simp] theorem pc_set (p q : Pen) (r : Cells) : (pc p r).set 0 ⟨false, .dk q.kv⟩ = pc q r := rfl
/-- the draw's end -/
theorem draw_end (n : Nat) (p : Pen) (r : Cells) (N : Nat) (hp : p.ok N) (hN : N ≤ 1000001) (m : Int) (hm : 0 < m) (hm' : m < 2 ^ 40) (c : Option O) :
    ∃ (k : Int) (p' : Pen), (exec (Gm n) (sR 2 Pr.b__law_draw) [some (.fz (.obj 0)), some (.fz (.int m)), c, none, none] (pc p r)).out = .ok (.int k, (pc p' r)) ∧ 0 ≤ k ∧ k < m ∧ p'.ok N := by
  obtain ⟨h1, h2, h3, h4⟩ := hp
  have hm0 : m ≠ 0 := by omega
  by_cases hd : 0 < p.digits
  · refine ⟨p.digits.fmod m, { p with digits := p.digits.fdiv m }, ?_, Int.fmod_nonneg_of_pos _ hm, Int.fmod_lt_of_pos _ hm, ⟨Int.fdiv_nonneg h1 (by omega), h2, h3, h4⟩⟩
    simp [sR, Pr.b__law_draw, g_count, g_cells, g_at, g_digits, g_fold, kv_len, p_count, p_at, hd, setAt_eq, b_mod hm0, b_fdiv (divOk_of hm0 (by omega)), p_digits]
  · have e : divOk 512 = true := by decide
    have e2 : mulOk p.count 9001 = true := mulOk_of (a := 29) (b := 29) (by omega) (by decide) (by decide)
    have e3 := b_pow (i := p.fold + p.count * 9001 + 97) (j := 17) (by decide) (by omega)
    refine ⟨((((p.fold + p.count * 9001 + 97) ^ 17).fmod 2305843009213693951).fdiv 512).fmod m, p, ?_, Int.fmod_nonneg_of_pos _ hm, Int.fmod_lt_of_pos _ hm, ⟨h1, h2, h3, h4⟩⟩
    simp [sR, Pr.b__law_draw, g_count, g_cells, g_at, g_digits, g_fold, kv_len, p_count, p_at, hd, setAt_eq, b_mod hm0, b_mod (show (2305843009213693951 : Int) ≠ 0 by decide), b_fdiv e, b_mul e2, show binD .pow (.int (p.fold + p.count * 9001 + 97)) (.int 17) = _ from e3]
theorem draw_split : Pr.b__law_draw = .cons (sN 0 Pr.b__law_draw) (.cons (sN 1 Pr.b__law_draw) (sR 2 Pr.b__law_draw)) := rfl
theorem draw_ok (n : Nat) (p : Pen) (r : Cells) (N : Nat) (hp : p.ok N) (hN : N ≤ 1000000) (m : Int) (hm : 0 < m) (hm' : m < 2 ^ 40) :
    ∃ (k : Int) (p' : Pen), callN P0 (n + 1) 28 [.obj 0, .int m] (pc p r) = .ok (.int k, (pc p' r)) ∧ 0 ≤ k ∧ k < m ∧ p'.ok (N + 1) := by
  rw [call0 (fn := ⟨2, 5, Pr.b__law_draw⟩) rfl rfl]
  have hE := fun (p : Pen) (hp : p.ok (N + 1)) (c : Option O) => draw_end n p r (N + 1) hp (by omega) m hm hm' c
  rw [show (⟨2, 5, Pr.b__law_draw⟩ : Fn).body = Pr.b__law_draw from rfl, draw_split]
  generalize sR 2 Pr.b__law_draw = R at hE
  obtain ⟨h1, h2, h3, h4⟩ := hp
  have e1 : binD .pow (.int 10) (.int 18) = some (.fz (.int (10 ^ 18))) := b_pow (i := 10) (j := 18) (by decide) (by decide)
  have e2 : mulOk p.fold 80021 = true := mulOk_of (a := 30) (b := 30) (by omega) (by decide) (by decide)
  by_cases h0 : p.digits = 0
  · by_cases ha : p.at_ < p.cells.length
    · have hc : atI (p.cells.map D.int) (p.at_ : Int) = some (.int p.cells[p.at_]) := atI_nat (by simp [ha])
      by_cases hb : (1000000000000000000 : Int) ≤ p.cells[p.at_]
      · obtain ⟨k, p', hk⟩ := hE { p with at_ := p.at_ + 1, count := p.count + 1, digits := p.cells[p.at_] - 1000000000000000000 } ⟨by show 0 ≤ p.cells[p.at_] - 1000000000000000000; omega, Nat.succ_le_succ h2, h3, h4⟩ (some (.fz (.int p.cells[p.at_])))
        refine ⟨k, p', ?_⟩
        simpa [startS, sN, Pr.b__law_draw, g_count, g_cells, g_at, g_digits, g_fold, kv_len, p_count, p_at, h0, ha, hb, hc, setAt_eq, b_fdiv, b_mul e2, p_digits, e1] using hk
      · obtain ⟨k, p', hk⟩ := hE { p with at_ := p.at_ + 1, count := p.count + 1, digits := 0, fold := (p.fold * 80021 + p.cells[p.at_]).fmod 2147483549 } ⟨by show (0 : Int) ≤ 0; omega, Nat.succ_le_succ h2, Int.fmod_nonneg_of_pos _ (by decide), Int.fmod_lt_of_pos _ (by decide)⟩ (some (.fz (.int p.cells[p.at_])))
        refine ⟨k, p', ?_⟩
        simpa [startS, sN, Pr.b__law_draw, g_count, g_cells, g_at, g_digits, g_fold, kv_len, p_count, p_at, h0, ha, hb, hc, setAt_eq, b_fdiv, b_mul e2, p_digits, p_fold, e1, b_mod (show (2147483549 : Int) ≠ 0 by decide)] using hk
    · obtain ⟨k, p', hk⟩ := hE { p with count := p.count + 1, digits := 0 } ⟨by show (0 : Int) ≤ 0; omega, Nat.succ_le_succ h2, h3, h4⟩ none
      refine ⟨k, p', ?_⟩
      simpa [startS, sN, Pr.b__law_draw, g_count, g_cells, g_at, g_digits, g_fold, kv_len, p_count, p_at, h0, ha, setAt_eq] using hk
  · obtain ⟨k, p', hk⟩ := hE { p with count := p.count + 1 } ⟨h1, Nat.succ_le_succ h2, h3, h4⟩ none
    refine ⟨k, p', ?_⟩
    simpa [startS, sN, Pr.b__law_draw, g_count, g_cells, g_at, g_digits, g_fold, kv_len, p_count, p_at, h0, setAt_eq] using hk
end R

/-! Q10: draws beside other cells; dicts of fractions in cells. -/
namespace R
open PySem L2
open scoped Rat
def PenK (N : Nat) (κ : Cells) : Prop := ∃ p r, κ = pc p r ∧ p.ok N
/-- what stands behind the pen stays -/
def Up (κ κ' : Cells) : Prop := ∀ n c, κ[n + 1]? = some c → κ'[n + 1]? = some c
theorem Up.rfl' (κ : Cells) : Up κ κ := fun _ _ h => h
theorem Up.trans {a b c : Cells} (h : Up a b) (k : Up b c) : Up a c := fun n x e => k n x (h n x e)
theorem Gr.up {a b : Cells} (h : Gr a b) : Up a b := fun n c e => by
  obtain ⟨js, rfl⟩ := h
  rw [List.getElem?_append_left (List.getElem?_eq_some_iff.mp e).1]
  exact e
theorem PenK.up {N M : Nat} {κ : Cells} (h : PenK N κ) (hm : N ≤ M) : PenK M κ := by
  obtain ⟨p, r, h1, h2⟩ := h
  exact ⟨p, r, h1, h2.up hm⟩
theorem PenK.gr {N : Nat} {κ κ' : Cells} (h : PenK N κ) (g : Gr κ κ') : PenK N κ' := by
  obtain ⟨p, r, rfl, h2⟩ := h
  obtain ⟨js, rfl⟩ := g
  exact ⟨p, r ++ js, rfl, h2⟩
theorem draw' (n : Nat) {κ : Cells} {N : Nat} (hk : PenK N κ) (hN : N ≤ 1000000) (m : Int) (hm : 0 < m) (hm' : m < 2 ^ 40) :
    ∃ (k : Int) (κ' : Cells), callN P0 (n + 1) 28 [.obj 0, .int m] κ = .ok (.int k, κ') ∧ 0 ≤ k ∧ k < m ∧ PenK (N + 1) κ' ∧ Up κ κ' := by
  obtain ⟨p, r, rfl, hp⟩ := hk
  obtain ⟨k, p', h1, h2, h3, h4⟩ := draw_ok n p r N hp hN m hm hm'
  exact ⟨k, _, h1, h2, h3, ⟨p', r, rfl, h4⟩, fun n c h => h⟩
theorem pick_ok (n : Nat) {κ : Cells} {N : Nat} (hk : PenK N κ) (hN : N ≤ 1000000) (xs : List D) (h0 : xs ≠ []) (hl : xs.length ≤ 1000) :
    ∃ (x : D) (κ' : Cells), callN P0 (n + 2) 29 [.obj 0, .lst xs] κ = .ok (x, κ') ∧ x ∈ xs ∧ PenK (N + 1) κ' ∧ Up κ κ' := by
  have hp : 0 < xs.length := List.length_pos_iff.mpr h0
  obtain ⟨k, κ1, e, h1, h2, h3, h4⟩ := draw' n hk hN (xs.length : Int) (by omega) (by omega)
  obtain ⟨j, rfl⟩ := Int.eq_ofNat_of_zero_le h1
  have hj : j < xs.length := by omega
  refine ⟨xs[j], κ1, ?_, List.getElem_mem hj, h3, h4⟩
  rw [call0 (fn := ⟨2, 2, Pr.b__law_pick⟩) rfl rfl]
  have ea : atI xs (j : Int) = some xs[j] := atI_nat (by simp [hj])
  simp -implicitDefEqProofs [sizeLine_eq, startS, wipeS, assignT, assign1, setAt_eq, isTy, Pr.b__law_pick, e, ea]
theorem cut_lo {α : Type} (xs : List α) (k : Nat) (h : k ≤ xs.length) : cutD xs none (some (k : Int)) = xs.take k := by
  simp [cutD, HT.sIx_none, HT.sIx_nat, h]
theorem cut_hi {α : Type} (xs : List α) (k : Nat) (h : k ≤ xs.length) : cutD xs (some (k : Int)) none = xs.drop k := by
  simp [cutD, HT.sIx_none, HT.sIx_nat, h, List.take_of_length_le]
/-- the cell n is the dict K -/
def AtW (κ : Cells) (n : Nat) (K : W) : Prop := κ[n]? = some ⟨false, .dk (kd K)⟩
theorem AtW.read {κ : Cells} {n : Nat} {K : W} (h : AtW κ n K) : readAt κ n = some (kd K) := by
  unfold AtW at h
  unfold readAt
  rw [h]
theorem AtW.open_ {κ : Cells} {n : Nat} {K : W} (h : AtW κ n K) : openAt κ n = some (kd K) := by
  unfold AtW at h
  unfold openAt
  rw [h]
theorem AtW.lt {κ : Cells} {n : Nat} {K : W} (h : AtW κ n K) : n < κ.length := (List.getElem?_eq_some_iff.mp h).1
theorem AtW.up {κ κ' : Cells} {n : Nat} {K : W} (h : AtW κ n K) (h0 : 1 ≤ n) (u : Up κ κ') : AtW κ' n K := by
  obtain ⟨m, rfl⟩ : ∃ m, n = m + 1 := (⟨n - 1, by omega⟩)
  exact u m _ h
theorem AtW.gr {κ κ' : Cells} {n : Nat} {K : W} (h : AtW κ n K) (g : Gr κ κ') : AtW κ' n K := by
  obtain ⟨js, rfl⟩ := g
  unfold AtW at *
  rw [List.getElem?_append_left (List.getElem?_eq_some_iff.mp h).1]
  exact h
theorem AtW.last (κ : Cells) (K : W) : AtW (κ ++ [⟨false, .dk (kd K)⟩]) κ.length K := by simp [AtW]
/-- a dict that the law makes: no key twice, nothing 0 -/
structure Dct (K : W) : Prop where
  nd : (keysW K).Nodup
  nz : ∀ p ∈ K, p.2 ≠ 0
theorem Dct.nil : Dct [] := ⟨by simp [keysW], by simp⟩
theorem Can.dct {w : W} (h : Can w) : Dct w := ⟨h.nd, h.nz⟩
theorem Dct.ne {K : W} (h : Dct K) {k : Int} (hk : k ∈ keysW K) : cf K k ≠ 0 := by
  obtain ⟨p, hp, rfl⟩ := List.mem_map.mp hk
  rw [cf_mem h.nd hp]
  exact h.nz p hp
theorem Dct.mem {K : W} (h : Dct K) {k : Int} : k ∈ keysW K ↔ cf K k ≠ 0 := ⟨h.ne, cf_ne⟩
theorem nrm_eq {K : W} (h : Dct K) : nrm K = (sortI (keysW K)).map fun k => (k, cf K k) := by
  unfold nrm
  congr 1
  refine List.filter_eq_self.mpr fun k hk => ?_
  have := h.ne ((sortI_mem _ _).mp hk)
  simp [this]
/-- two dicts with the same numbers have the same worth -/
theorem nrm_ext {K K' : W} (h : (keysW K).Nodup) (h' : (keysW K').Nodup) (e : ∀ k, cf K k = cf K' k) : nrm K = nrm K' :=
  can_ext (nrm_can h) (nrm_can h') fun k => by rw [nrm_cf h, nrm_cf h', e]
theorem nrm_self {w : W} (h : Can w) : nrm w = w := can_ext (nrm_can h.nd) h fun k => nrm_cf h.nd k
theorem ix_kd {K : W} (h : Dct K) {k : Int} (hk : k ∈ keysW K) : lookP (kd K) (.inl k) = some (frD (cf K k)) := key_mem h.nd hk
theorem in_kd (K : W) (k : Int) : (lookP (kd K) (.inl k)).isSome = decide (k ∈ keysW K) := by
  rw [look_kd]
  rw [Option.isSome_map, Bool.eq_iff_iff, List.find?_isSome, decide_eq_true_iff, keysW, List.mem_map]
  exact ⟨fun ⟨p, h, e⟩ => ⟨p, h, by simpa using e⟩, fun ⟨p, h, e⟩ => ⟨p, h, by simpa using e⟩⟩
theorem worthof_ok (n m : Nat) {κ : Cells} {K : W} (ha : AtW κ m K) (h : Dct K) (hl : K.length ≤ 60) : callN P0 (n + 1) 36 [.obj m] κ = .ok (wD (nrm K), κ) := by
  rw [call0 (fn := ⟨1, 2, Pr.b__law_worth_of⟩) rfl rfl]
  have hk : (keysW K).length < 64 := by simp only [keysW, List.length_map]; omega
  simp -implicitDefEqProofs [sizeLine_eq, startS, wipeS, assignT, assign1, setAt_eq, isTy, Pr.b__law_worth_of, ha.read, keys_kd, hk]
  rw [comp_intsD (q := fun _ => true) (g := fun k => tD (k, cf K k)) (fun k hk => ?_)]
  · have hl : (sortI (keysW K)).length < 16777216 := by
      have h2 : (sortI (keysW K)).length = (keysW K).length := List.length_mergeSort _
      omega
    have ef : (sortI (keysW K)).filter (fun _ => true) = sortI (keysW K) := List.filter_eq_self.mpr (by simp)
    rw [nrm_eq h, ef]
    simp -implicitDefEqProofs [sizeLine_eq, startS, wipeS, assignT, assign1, setAt_eq, isTy, hl, wD, Function.comp_def]
  · have e1 := ix_kd h ((sortI_mem _ _).mp hk)
    simp -implicitDefEqProofs [sizeLine_eq, startS, wipeS, assignT, assign1, setAt_eq, isTy, ha.read, e1, frD, tD, b_addT (xs := [D.int k]) (ys := [D.int (cf K k).num, D.int (cf K k).den]) (le_line' (by simp))]
/-- a number added to that of a key -/
def addW (K : W) (k : Int) (r : Rat) : W := if cf K k + r = 0 then dropW K k else setW K k (cf K k + r)
theorem drop_no {K : W} {k : Int} (h : k ∉ keysW K) : dropW K k = K := List.filter_eq_self.mpr fun p hp => by
  simp only [ne_eq, decide_not, Bool.not_eq_true', decide_eq_false_iff_not]
  exact fun z => h (by rw [← z]; exact List.mem_map_of_mem hp)
theorem addW_cf {K : W} (nd : (keysW K).Nodup) (k : Int) (r : Rat) (j : Int) : cf (addW K k r) j = cf K j + if j = k then r else 0 := by
  unfold addW
  split
  · rename_i h
    rw [cf_drop]
    by_cases e : j = k
    · subst e; rw [if_pos rfl, if_pos rfl, h]
    · rw [if_neg e, if_neg e]; grind
  · rw [cf_put nd]
    by_cases e : j = k
    · subst e; rw [if_pos rfl, if_pos rfl]
    · rw [if_neg e, if_neg e]; grind
theorem addW_dct {K : W} (h : Dct K) (k : Int) (r : Rat) : Dct (addW K k r) := by
  unfold addW
  split
  · exact ⟨nd_drop h.nd k, fun p hp => h.nz p (List.mem_filter.mp hp).1⟩
  · rename_i hz
    refine ⟨nd_put h.nd _ _, fun p hp => ?_⟩
    unfold setW at hp
    split at hp
    · obtain ⟨q, hq, rfl⟩ := List.mem_map.mp hp
      split
      · exact hz
      · exact h.nz q hq
    · rcases List.mem_append.mp hp with z | z
      · exact h.nz p z
      · simp only [List.mem_singleton] at z
        subst z
        exact hz
theorem keys_add {K : W} {k : Int} {r : Rat} {j : Int} (h : j ∈ keysW (addW K k r)) : j ∈ keysW K ∨ j = k := by
  unfold addW at h
  split at h
  · obtain ⟨p, hp, rfl⟩ := List.mem_map.mp h
    exact .inl (List.mem_map_of_mem (List.mem_filter.mp hp).1)
  · rw [keys_put] at h
    split at h
    · exact .inl h
    · rcases List.mem_append.mp h with z | z
      · exact .inl z
      · exact .inr (by simpa using z)
theorem addto_ok (n m : Nat) {κ : Cells} {K : W} (k : Int) (r : Rat) (ha : AtW κ m K) (h : Dct K) (hl : K.length ≤ 1000) (hc : Sz (4000 + 1) (cf K k)) (hr : Sz (3998 + 1) r) :
    callN P0 (n + 4) 38 [.obj m, .int k, frD r] κ = .ok (.non, κ.set m ⟨false, .dk (kd (addW K k r))⟩) := by
  rw [call0 (fn := ⟨3, 4, Pr.b__law_add_to⟩) rfl rfl]
  have e1 := ladd_ok n (cf K k) r κ hc hr
  have e0 : (kd K).length < 16777216 := by rw [kd_len]; omega
  have e3 := in_kd K k
  simp -implicitDefEqProofs [sizeLine_eq, startS, wipeS, assignT, assign1, setAt_eq, isTy, Pr.b__law_add_to, ha.read, get_kd h.nd, e1]
  by_cases hz : cf K k + r = 0
  · have e4 : addW K k r = dropW K k := if_pos hz
    rw [e4, ← drop_kd]
    by_cases hm : k ∈ keysW K
    · rw [decide_eq_true hm] at e3
      have e5 := ix_kd h hm
      simp -implicitDefEqProofs [sizeLine_eq, startS, wipeS, assignT, assign1, setAt_eq, isTy, hz, frD, ha.open_, ha.read, e5]
    · rw [decide_eq_false hm] at e3
      have e5 : lookP (kd K) (.inl k) = none := by simpa using e3
      have e6 : κ.set m ⟨false, .dk (dropP (kd K) (.inl k))⟩ = κ := by
        rw [drop_kd, drop_no hm]
        obtain ⟨h1, h2⟩ := List.getElem?_eq_some_iff.mp ha
        rw [← h2, List.set_getElem_self]
      simp -implicitDefEqProofs [sizeLine_eq, startS, wipeS, assignT, assign1, setAt_eq, isTy, hz, frD, ha.open_, ha.read, e5, e6]
  · have e4 : addW K k r = setW K k (cf K k + r) := if_neg hz
    have hz2 := num0 hz
    rw [e4, ← put_kd]
    simp -implicitDefEqProofs [sizeLine_eq, startS, wipeS, assignT, assign1, setAt_eq, isTy, hz2, frD, ha.open_, e0]
end R

/-! Q11: the law's sums and products of series. -/
namespace R
open PySem L2
open scoped Rat
/-! ### loops over what is walked -/
theorem nx_loop {I : List D → Sl → Cells → Prop} {step : D → Sl → Cells → Res} {t : Tk step} {xs : List D} {σ : Sl} {κ : Cells} {J : Sl → Cells → Prop}
    (h0 : I xs σ κ) (hs : ∀ (x : D) (xs : List D) (σ : Sl) (κ : Cells), I (x :: xs) σ κ → ∀ J' : Sl → Cells → Prop, (∀ σ κ, I xs σ κ → J' σ κ) → NxTo (step x σ κ) J') (g : ∀ σ κ, I [] σ κ → J σ κ) : NxTo (forD step t xs σ κ) J := by
  obtain ⟨σ', κ', e, hi⟩ := for_list (fun x xs σ κ h => hs x xs σ κ h _ fun _ _ h => h) xs σ κ h0
  exact ⟨σ', κ', e, g σ' κ' hi⟩
theorem good_then {r : Res} {f : Sl → Cells → Res} {t : Tk f} {J : Sl → Cells → Prop} {Q : D → Cells → Prop} (h : NxTo r J) (g : ∀ σ κ, J σ κ → Good (f σ κ) Q) : Good (Res.then f t r) Q := by
  obtain ⟨σ, κ, rfl, hj⟩ := h
  exact g σ κ hj
theorem nx_then {r : Res} {f : Sl → Cells → Res} {t : Tk f} {J J' : Sl → Cells → Prop} (h : NxTo r J) (g : ∀ σ κ, J σ κ → NxTo (f σ κ) J') : NxTo (Res.then f t r) J' := by
  obtain ⟨σ, κ, rfl, hj⟩ := h
  exact g σ κ hj
theorem nx_reopen {n : Nat} {kvs : List (Key × D)} {r : Res} {J J' : Sl → Cells → Prop} (h : NxTo r J) (g : ∀ σ κ, J σ κ → J' σ (κ.set n ⟨false, .dk kvs⟩)) : NxTo (reopen n kvs r) J' := by
  obtain ⟨σ, κ, rfl, hj⟩ := h
  exact ⟨σ, _, rfl, g σ κ hj⟩
theorem NxTo.mono {r : Res} {J J' : Sl → Cells → Prop} (h : NxTo r J) (g : ∀ σ κ, J σ κ → J' σ κ) : NxTo r J' := by
  obtain ⟨σ, κ, rfl, hj⟩ := h
  exact ⟨σ, κ, rfl, g σ κ hj⟩
/-! ### numbers added one by one -/
def addAll (F : W) (L : W) : W := L.foldl (fun F p => addW F p.1 p.2) F
theorem addAll_snoc (F L : W) (p : Int × Rat) : addAll F (L ++ [p]) = addW (addAll F L) p.1 p.2 := by simp [addAll]
theorem addAll_app (F L M : W) : addAll F (L ++ M) = addAll (addAll F L) M := by simp [addAll]
theorem addAll_dct {F : W} (h : Dct F) : ∀ L : W, Dct (addAll F L) := fun L => by
  induction L generalizing F with
  | nil => exact h
  | cons p L ih => exact ih (addW_dct h p.1 p.2)
theorem addAll_cf {F : W} (h : Dct F) (L : W) (j : Int) : cf (addAll F L) j = cf F j + cf L j := by
  induction L generalizing F with
  | nil => simp [addAll, cf]; grind
  | cons p L ih =>
    show cf (addAll (addW F p.1 p.2) L) j = _
    rw [ih (addW_dct h p.1 p.2), addW_cf h.nd, cf]
    by_cases e : j = p.1
    · subst e; simp only [if_true]; grind
    · rw [if_neg e, if_neg fun z => e z.symm]; grind
theorem addAll_keys {F L : W} {j : Int} (h : j ∈ keysW (addAll F L)) : j ∈ keysW F ∨ j ∈ keysW L := by
  induction L generalizing F with
  | nil => exact .inl h
  | cons p L ih =>
    rcases ih (F := addW F p.1 p.2) h with z | z
    · rcases keys_add z with z | z
      · exact .inl z
      · exact .inr (by simp [keysW, z])
    · exact .inr (by simp only [keysW, List.map_cons, List.mem_cons]; exact .inr z)
/-- keys in a row of sixty -/
def In60 (K : W) (lo : Int) : Prop := ∀ k ∈ keysW K, lo ≤ k ∧ k < lo + 60
theorem In60.len {K : W} {lo : Int} (h : In60 K lo) (d : (keysW K).Nodup) : K.length ≤ 60 := by
  have := nodup_range d h
  simpa [keysW] using this
theorem kd_keys (K : W) : ((kd K).map fun p => kD p.1) = K.map fun p => .int p.1 := by
  unfold kd
  rw [List.map_map]
  rfl
theorem neg1 (q : Rat) : (((-1 : Int) : Rat) * q) = -q := by
  have : ((-1 : Int) : Rat) = -1 := rfl
  rw [this]; grind
theorem frD_way {way : Int} (h : way = 1 ∨ way = -1) (q : Rat) : D.tup [.int (way * q.num), .int q.den] = frD (way * q) := by
  rcases h with rfl | rfl
  · simp [frD]
  · rw [neg1]
    simp [frD]
theorem sz_way {way : Int} (h : way = 1 ∨ way = -1) {q : Rat} {k : Nat} (hq : Sz k q) : Sz k (way * q) := by
  rcases h with rfl | rfl
  · simpa using hq
  · rw [neg1]
    obtain ⟨h1, h2⟩ := hq
    exact ⟨by unfold Lt2 at *; rw [Rat.neg_num, Int.natAbs_neg]; exact h1, by rw [Rat.neg_den]; exact h2⟩
theorem look_mem {K : W} (h : Dct K) {p : Int × Rat} (hp : p ∈ K) : lookP (kd K) (.inl p.1) = some (frD p.2) := by
  rw [ix_kd h (List.mem_map_of_mem hp), cf_mem h.nd hp]
@[simp] theorem locked_set (κ : Cells) (n : Nat) (kvs : List (Key × D)) (h : n < κ.length) : lockedAt (κ.set n ⟨true, .dk kvs⟩) n = some kvs := by
  simp [lockedAt, h]
def lk (κ : Cells) (n : Nat) (K : W) : Cells := κ.set n ⟨true, .dk (kd K)⟩
theorem lk_read {κ : Cells} {n : Nat} {K : W} (h : n < κ.length) (c : Cell) : readAt (lk κ n K ++ [c]) n = some (kd K) := by
  unfold readAt lk
  rw [List.getElem?_append_left (by simpa using h)]
  simp [h]
theorem lk_len (κ : Cells) (n : Nat) (K : W) : (lk κ n K).length = κ.length := by simp [lk]
theorem lk_back {κ : Cells} {n : Nat} {K : W} (h : AtW κ n K) (c : Cell) : (lk κ n K ++ [c]).set n ⟨false, .dk (kd K)⟩ = κ ++ [c] := by
  have hl := h.lt
  unfold lk
  rw [List.set_append_left _ _ (by simpa using hl), List.set_set]
  congr 1
  obtain ⟨h1, h2⟩ := List.getElem?_eq_some_iff.mp h
  rw [← h2, List.set_getElem_self]
theorem lk_app {κ : Cells} {n : Nat} {K : W} (h : n < κ.length) (c : Cell) : (κ ++ [c]).set n ⟨true, .dk (kd K)⟩ = lk κ n K ++ [c] := by
  unfold lk
  rw [List.set_append_left _ _ h]
theorem set_lst (κ : Cells) (c c' : Cell) (n : Nat) (h : n = κ.length) : (κ ++ [c]).set n c' = κ ++ [c'] := by
  subst h; simp
theorem ssum_ok (n a b : Nat) {κ : Cells} {A B : W} {way : Int} (hw : way = 1 ∨ way = -1) (ha : AtW κ a A) (hb : AtW κ b B) (hA : Dct A) (hB : Dct B) {lo : Int} (ia : In60 A lo) (ib : In60 B lo)
    (sa : ∀ k, Sz (4000 + 1) (cf A k)) (sb : ∀ p ∈ B, Sz (3998 + 1) p.2) :
    callN P0 (n + 5) 39 [.obj a, .obj b, .int way] κ = .ok (.obj κ.length, κ ++ [⟨false, .dk (kd (addAll A (B.map fun p => (p.1, way * p.2))))⟩]) := by
  suffices h : ∃ d κ', callN P0 (n + 5) 39 [.obj a, .obj b, .int way] κ = .ok (d, κ') ∧ (d = .obj κ.length ∧ κ' = κ ++ [⟨false, .dk (kd (addAll A (B.map fun p => (p.1, way * p.2))))⟩]) by
    obtain ⟨d, κ', h, rfl, rfl⟩ := h
    exact h
  refine good_callQ (fn := ⟨3, 5, Pr.b__law_series_sum⟩) rfl rfl fun Q hQ => ?_
  have hbl := hb.lt
  have ob : openAt (κ ++ [⟨false, .dk (kd A)⟩]) b = some (kd B) := (hb.gr (Gr.one κ _)).open_
  have lb : lockedAt (lk κ b B ++ [⟨false, .dk (kd A)⟩]) b = some (kd B) := by
    unfold lockedAt lk
    rw [List.getElem?_append_left (by simpa using hbl)]
    simp [hbl]
  simp -implicitDefEqProofs [sizeLine_eq, startS, wipeS, assignT, assign1, setAt_eq, isTy, Pr.b__law_series_sum, ha.read, ob, lk_app hbl, lb, kd_keys]
  refine good_then (nx_reopen (J' := fun σ κ' => σ[3]? = some (some (.fz (.obj κ.length))) ∧ κ' = κ ++ [⟨false, .dk (kd (addAll A (B.map fun p => (p.1, way * p.2))))⟩]) (nx_loop (J := fun σ κ' => σ[3]? = some (some (.fz (.obj κ.length))) ∧ κ' = lk κ b B ++ [⟨false, .dk (kd (addAll A (B.map fun p => (p.1, way * p.2))))⟩])
    (I := fun ys σ κ' => ∃ (P R : W) (u : Option D), B = P ++ R ∧ ys = R.map (fun p => .int p.1) ∧ σ = [some (.fz (.obj a)), some (.fz (.obj b)), some (.fz (.int way)), some (.fz (.obj κ.length)), Option.map O.fz u] ∧
      κ' = lk κ b B ++ [⟨false, .dk (kd (addAll A (P.map fun p => (p.1, way * p.2))))⟩]) ?_ ?_ ?_) ?_) ?_
  · exact ⟨[], B, none, rfl, rfl, rfl, rfl⟩
  · rintro x ys σ κ' ⟨P, R, u, hB', hys, rfl, rfl⟩ J hJ
    cases R with
    | nil => simp at hys
    | cons p R =>
      simp only [List.map_cons, List.cons.injEq] at hys
      obtain ⟨rfl, rfl⟩ := hys
      have hp : p ∈ B := by rw [hB']; simp
      have el := look_mem hB hp
      have er := lk_read (K := B) hbl ⟨false, .dk (kd (addAll A (P.map fun p => (p.1, way * p.2))))⟩
      have em : mulOk way p.2.num = true := by
        have : Lt2 (1 + 1) way := by unfold Lt2; rcases hw with rfl | rfl <;> decide
        exact this.ok ((sb p hp).1) (by decide)
      have hF := addAll_dct hA (P.map fun p => (p.1, way * p.2))
      have nd := hB.nd
      have e0 : cf (P.map fun p => (p.1, (way : Rat) * p.2)) p.1 = 0 := cf_no fun q hq z => by
        obtain ⟨g, hg, rfl⟩ := List.mem_map.mp hq
        rw [hB'] at nd
        simp only [keysW, List.map_append, List.map_cons, List.nodup_append] at nd
        exact nd.2.2 g.1 (List.mem_map_of_mem hg) p.1 (by simp) z
      have ec : cf (addAll A (P.map fun p => (p.1, way * p.2))) p.1 = cf A p.1 := by rw [addAll_cf hA, e0]; grind
      have iF : In60 (addAll A (P.map fun p => (p.1, way * p.2))) lo := fun k hk => by
        rcases addAll_keys hk with z | z
        · exact ia k z
        · obtain ⟨g, hg, rfl⟩ := List.mem_map.mp z
          obtain ⟨g2, hg2, rfl⟩ := List.mem_map.mp hg
          exact ib g2.1 (by rw [hB']; simp only [keysW, List.map_append, List.mem_append]; exact .inl (List.mem_map_of_mem hg2))
      have hlen := iF.len hF.nd
      have at_ : AtW (lk κ b B ++ [⟨false, .dk (kd (addAll A (P.map fun p => (p.1, way * p.2))))⟩]) κ.length (addAll A (P.map fun p => (p.1, way * p.2))) := by
        have := AtW.last (lk κ b B) (addAll A (P.map fun p => (p.1, way * p.2)))
        rwa [lk_len] at this
      have eadd := addto_ok n κ.length p.1 (way * p.2) at_ hF (by omega) (by rw [ec]; exact sa _) (sz_way hw (sb p hp))
      rw [← frD_way hw, set_lst _ _ _ _ (lk_len κ b B).symm] at eadd
      simp -implicitDefEqProofs [sizeLine_eq, startS, wipeS, assignT, assign1, setAt_eq, isTy, er, el, frD, b_mul em, eadd]
      refine hJ _ _ ⟨P ++ [p], R, some (.int p.1), by simp [hB'], rfl, rfl, ?_⟩
      rw [List.map_append, List.map_singleton, addAll_snoc]
  · rintro σ κ' ⟨P, R, u, hB', hys, rfl, rfl⟩
    have : R = [] := by cases R with
      | nil => rfl
      | cons p R => simp at hys
    subst this
    rw [List.append_nil] at hB'
    subst hB'
    exact ⟨rfl, rfl⟩
  · rintro σ κ' ⟨h1, rfl⟩
    exact ⟨h1, lk_back hb _⟩
  · rintro σ κ' ⟨h1, rfl⟩
    simp -implicitDefEqProofs [sizeLine_eq, startS, wipeS, assignT, assign1, setAt_eq, isTy, h1]
    exact hQ _ _ ⟨rfl, rfl⟩
theorem AtW.lk {κ : Cells} {a b : Nat} {A B : W} (hb : AtW κ b B) (h : a ≠ b) : AtW (R.lk κ a A) b B := by
  unfold AtW R.lk at *
  rw [List.getElem?_set_ne h]
  exact hb
theorem lk_open {κ : Cells} {n : Nat} {K : W} (h : AtW κ n K) (c : Cell) : openAt (κ ++ [c]) n = some (kd K) := (h.gr (Gr.one κ c)).open_
theorem lk_locked {κ : Cells} {n : Nat} {K : W} (h : n < κ.length) (c : Cell) : lockedAt (lk κ n K ++ [c]) n = some (kd K) := by
  unfold lockedAt lk
  rw [List.getElem?_append_left (by simpa using h)]
  simp [h]
theorem lk_read2 {κ : Cells} {a b : Nat} {A : W} (B : W) (h : a < κ.length) (hab : a ≠ b) (c : Cell) : readAt (lk (lk κ a A) b B ++ [c]) a = some (kd A) := by
  unfold readAt lk
  rw [List.getElem?_append_left (by simpa using h), List.getElem?_set_ne (fun z => hab z.symm)]
  simp [h]
/-- what is added so far fits -/
theorem Fit.part {L P S : W} {Δ M : Nat} {lo : Int} (f : Fit L Δ M lo) (e : L = P ++ S) (k : Int) : Sz 3999 (cf P k) := by
  have h1 := dv_cf f.d0 (L := P) (fun p hp => f.dv p (by rw [e]; simp [hp])) k
  refine h1.sz f.d0 (Nat.lt_of_le_of_lt (Nat.mul_le_mul_right M ?_) f.mb) f.dk
  rw [e, List.length_append]; omega
theorem In60.of {L P S : W} {Δ M : Nat} {lo : Int} (f : Fit L Δ M lo) (e : L = P ++ S) : In60 (addAll [] P) lo := fun k hk => by
  rcases addAll_keys hk with z | z
  · simp [keysW] at z
  · obtain ⟨p, hp, rfl⟩ := List.mem_map.mp z
    exact f.lo p (by rw [e]; simp [hp])
theorem prodW_snoc (A : W) (p : Int × Rat) (B : W) : prodW (A ++ [p]) B = prodW A B ++ prodW [p] B := by simp [prodW]
theorem prod1_snoc (p : Int × Rat) (B : W) (q : Int × Rat) : prodW [p] (B ++ [q]) = prodW [p] B ++ [(p.1 + q.1, p.2 * q.2)] := by simp [prodW]
theorem prod1_app (p : Int × Rat) (B C : W) : prodW [p] (B ++ C) = prodW [p] B ++ prodW [p] C := by simp [prodW]
theorem prodW_app (A C : W) (B : W) : prodW (A ++ C) B = prodW A B ++ prodW C B := by simp [prodW]
theorem sprod_ok (n a b : Nat) {κ : Cells} {A B : W} (hab : a ≠ b) (ha : AtW κ a A) (hb : AtW κ b B) (hA : Dct A) (hB : Dct B) {Δ M : Nat} {lo : Int} (f : Fit (prodW A B) Δ M lo)
    (sa : ∀ p ∈ A, Sz (4000 + 1) p.2) (sb : ∀ p ∈ B, Sz (3998 + 1) p.2) :
    callN P0 (n + 5) 40 [.obj a, .obj b] κ = .ok (.obj κ.length, κ ++ [⟨false, .dk (kd (addAll [] (prodW A B)))⟩]) := by
  suffices h : ∃ d κ', callN P0 (n + 5) 40 [.obj a, .obj b] κ = .ok (d, κ') ∧ (d = .obj κ.length ∧ κ' = κ ++ [⟨false, .dk (kd (addAll [] (prodW A B)))⟩]) by
    obtain ⟨d, κ', h, rfl, rfl⟩ := h
    exact h
  refine good_callQ (fn := ⟨2, 5, Pr.b__law_series_product⟩) rfl rfl fun Q hQ => ?_
  have hal := ha.lt
  have hbl := hb.lt
  have hb2 : AtW (lk κ a A) b B := hb.lk hab
  have hb2l : b < (lk κ a A).length := by rw [lk_len]; exact hbl
  have e0 : (kd []) = [] := rfl
  have oa := lk_open ha ⟨false, .dk []⟩
  have la := lk_locked (K := A) hal ⟨false, .dk []⟩
  simp -implicitDefEqProofs [sizeLine_eq, startS, wipeS, assignT, assign1, setAt_eq, isTy, Pr.b__law_series_product, oa, lk_app hal, la, kd_keys]
  refine good_then (nx_reopen (J' := fun σ κ' => σ[2]? = some (some (.fz (.obj κ.length))) ∧ κ' = κ ++ [⟨false, .dk (kd (addAll [] (prodW A B)))⟩]) (nx_loop (J := fun σ κ' => σ[2]? = some (some (.fz (.obj κ.length))) ∧ κ' = lk κ a A ++ [⟨false, .dk (kd (addAll [] (prodW A B)))⟩])
    (I := fun ys σ κ' => ∃ (P S : W) (u v : Option D), A = P ++ S ∧ ys = S.map (fun p => .int p.1) ∧ σ = [some (.fz (.obj a)), some (.fz (.obj b)), some (.fz (.obj κ.length)), Option.map O.fz u, Option.map O.fz v] ∧
      κ' = lk κ a A ++ [⟨false, .dk (kd (addAll [] (prodW P B)))⟩]) ?_ ?_ ?_) ?_) ?_
  · exact ⟨[], A, none, none, rfl, rfl, rfl, rfl⟩
  · rintro x ys σ κ' ⟨P, S, u, v, hA', hys, rfl, rfl⟩ J hJ
    cases S with
    | nil => simp at hys
    | cons p S =>
      simp only [List.map_cons, List.cons.injEq] at hys
      obtain ⟨rfl, rfl⟩ := hys
      have hp : p ∈ A := by rw [hA']; simp
      have ela := look_mem hA hp
      have ob := lk_open hb2 ⟨false, .dk (kd (addAll [] (prodW P B)))⟩
      have lb := lk_locked (K := B) hb2l ⟨false, .dk (kd (addAll [] (prodW P B)))⟩
      simp -implicitDefEqProofs [sizeLine_eq, startS, wipeS, assignT, assign1, setAt_eq, isTy, ob, lk_app hb2l, lb, kd_keys]
      refine nx_then (nx_reopen (J' := fun σ κ' => (∃ v : Option D, σ = [some (.fz (.obj a)), some (.fz (.obj b)), some (.fz (.obj κ.length)), some (.fz (.int p.1)), Option.map O.fz v]) ∧ κ' = lk κ a A ++ [⟨false, .dk (kd (addAll [] (prodW (P ++ [p]) B)))⟩]) (nx_loop (J := fun σ κ' => (∃ v : Option D, σ = [some (.fz (.obj a)), some (.fz (.obj b)), some (.fz (.obj κ.length)), some (.fz (.int p.1)), Option.map O.fz v]) ∧ κ' = lk (lk κ a A) b B ++ [⟨false, .dk (kd (addAll [] (prodW (P ++ [p]) B)))⟩])
        (I := fun ys σ κ' => ∃ (P2 S2 : W) (v : Option D), B = P2 ++ S2 ∧ ys = S2.map (fun p => .int p.1) ∧ σ = [some (.fz (.obj a)), some (.fz (.obj b)), some (.fz (.obj κ.length)), some (.fz (.int p.1)), Option.map O.fz v] ∧
          κ' = lk (lk κ a A) b B ++ [⟨false, .dk (kd (addAll [] (prodW P B ++ prodW [p] P2)))⟩]) ?_ ?_ ?_) ?_) ?_
      · refine ⟨[], B, v, rfl, rfl, rfl, ?_⟩
        have : prodW [p] [] = [] := rfl
        rw [this, List.append_nil]
      · rintro x ys σ κ' ⟨P2, S2, v, hB', hys, rfl, rfl⟩ J2 hJ2
        cases S2 with
        | nil => simp at hys
        | cons q S2 =>
          simp only [List.map_cons, List.cons.injEq] at hys
          obtain ⟨rfl, rfl⟩ := hys
          have hq : q ∈ B := by rw [hB']; simp
          have elb := look_mem hB hq
          have eL : prodW A B = (prodW P B ++ prodW [p] P2) ++ ((p.1 + q.1, p.2 * q.2) :: (prodW [p] S2 ++ prodW S B)) := by
            conv => lhs; rw [hA', show P ++ p :: S = P ++ ([p] ++ S) from rfl, prodW_app, prodW_app]
            conv => lhs; rw [show prodW [p] B = prodW [p] (P2 ++ ([q] ++ S2)) by rw [hB']; rfl, prod1_app, prod1_app]
            simp [prodW]
          have er1 := lk_read2 (A := A) B hal hab ⟨false, .dk (kd (addAll [] (prodW P B ++ prodW [p] P2)))⟩
          have er2 := lk_read (K := B) hb2l ⟨false, .dk (kd (addAll [] (prodW P B ++ prodW [p] P2)))⟩
          have hF := addAll_dct Dct.nil (prodW P B ++ prodW [p] P2)
          have hlen := (In60.of f eL).len hF.nd
          have hc : Sz (4000 + 1) (cf (addAll [] (prodW P B ++ prodW [p] P2)) (p.1 + q.1)) := by
            rw [addAll_cf Dct.nil, show cf ([] : W) (p.1 + q.1) = 0 from rfl]
            have := f.part eL (p.1 + q.1)
            rw [show (0 : Rat) + cf (prodW P B ++ prodW [p] P2) (p.1 + q.1) = cf (prodW P B ++ prodW [p] P2) (p.1 + q.1) by grind]
            exact this.up (by decide)
          have hr : Sz (3998 + 1) (p.2 * q.2) := f.sz (p := (p.1 + q.1, p.2 * q.2)) (by rw [eL]; simp)
          have at_ : AtW (lk (lk κ a A) b B ++ [⟨false, .dk (kd (addAll [] (prodW P B ++ prodW [p] P2)))⟩]) κ.length (addAll [] (prodW P B ++ prodW [p] P2)) := by
            have := AtW.last (lk (lk κ a A) b B) (addAll [] (prodW P B ++ prodW [p] P2))
            rwa [lk_len, lk_len] at this
          have eby := lby_ok (n + 1) p.2 q.2 (lk (lk κ a A) b B ++ [⟨false, .dk (kd (addAll [] (prodW P B ++ prodW [p] P2)))⟩]) (sa p hp) (sb q hq)
          have eadd := addto_ok n κ.length (p.1 + q.1) (p.2 * q.2) at_ hF (by omega) hc hr
          rw [set_lst _ _ _ _ (by rw [lk_len, lk_len])] at eadd
          simp -implicitDefEqProofs [sizeLine_eq, startS, wipeS, assignT, assign1, setAt_eq, isTy, er1, er2, ela, elb, eby, eadd]
          refine hJ2 _ _ ⟨P2 ++ [q], S2, some (.int q.1), by simp [hB'], rfl, rfl, ?_⟩
          rw [prod1_snoc, ← List.append_assoc, addAll_snoc]
      · rintro σ κ' ⟨P2, S2, v, hB', hys, rfl, rfl⟩
        have : S2 = [] := by cases S2 with
          | nil => rfl
          | cons p R => simp at hys
        subst this
        rw [List.append_nil] at hB'
        subst hB'
        exact ⟨⟨v, rfl⟩, by rw [prodW_snoc]⟩
      · rintro σ κ' ⟨⟨v, rfl⟩, rfl⟩
        exact ⟨⟨v, rfl⟩, lk_back hb2 _⟩
      · rintro σ κ' ⟨⟨v, rfl⟩, rfl⟩
        simp -implicitDefEqProofs [sizeLine_eq, startS, wipeS, assignT, assign1, setAt_eq, isTy, ]
        exact hJ _ _ ⟨P ++ [p], S, some (.int p.1), v, by simp [hA'], rfl, rfl, rfl⟩
  · rintro σ κ' ⟨P, S, u, v, hA', hys, rfl, rfl⟩
    have : S = [] := by cases S with
      | nil => rfl
      | cons p R => simp at hys
    subst this
    rw [List.append_nil] at hA'
    subst hA'
    exact ⟨rfl, rfl⟩
  · rintro σ κ' ⟨h1, rfl⟩
    exact ⟨h1, lk_back ha _⟩
  · rintro σ κ' ⟨h1, rfl⟩
    simp -implicitDefEqProofs [sizeLine_eq, startS, wipeS, assignT, assign1, setAt_eq, isTy, h1]
    exact hQ _ _ ⟨rfl, rfl⟩
end R

/-! Q12: the law's own series of a quotient. -/
namespace R
open PySem L2
open scoped Rat
theorem cf_scale (q : Int × Rat) : ∀ (w : W) (m : Int), cf (w.map fun x => (q.1 + x.1, q.2 * x.2)) m = q.2 * cf w (m - q.1)
  | [], m => by show (0 : Rat) = q.2 * 0; grind
  | x :: w, m => by
    rw [List.map_cons, cf, cf_scale q w m, cf]
    by_cases h : x.1 = m - q.1
    · rw [if_pos h, if_pos (by show q.1 + x.1 = m; omega)]; grind
    · rw [if_neg h, if_neg (by show ¬ q.1 + x.1 = m; omega)]; grind
theorem conv_comm (w : W) : ∀ (v : W) (m : Int), conv (cf w) v m = conv (cf v) w m
  | [], m => by rw [show cf ([] : W) = fun _ => (0 : Rat) from rfl, conv_zero]; rfl
  | q :: v, m => by
    rw [conv, conv_comm w v m]
    have : cf (q :: v) = fun k => (if q.1 = k then q.2 else 0) + cf v k := rfl
    rw [this, conv_add, conv_one, cf_scale]
/-- sums along a dict are those along its worth -/
theorem conv_dict {v v' : W} (h : ∀ k, cf v k = cf v' k) (w : W) (m : Int) : conv (cf w) v m = conv (cf w) v' m := by
  rw [conv_comm w v m, conv_comm w v' m, show cf v = cf v' from funext h]
/-- the least key -/
def Mn (K : W) (f : Int) : Prop := f ∈ keysW K ∧ ∀ k ∈ keysW K, f ≤ k
theorem Mn.min {K : W} {f : Int} (h : Mn K f) : (keysW K).min? = some f := List.min?_eq_some_iff.mpr h
theorem kv_min {κ : Cells} {n : Nat} {K : W} {f : Int} (h : openAt κ n = some (kd K)) (m : Mn K f) : bltKv κ n .min = some (.fz (.int f)) := by
  rw [kv_min', h, Option.bind_some, keys_kd, Option.bind_some, m.min]
  rfl
theorem cf_lt (T : W) (o k : Int) : cf (cutW T (o - 1)) k = if k < o then cf T k else 0 := by
  rw [cf_cut]
  by_cases h : k < o
  · rw [if_pos h]; rw [if_pos (by omega)]
  · rw [if_neg h]; rw [if_neg (by omega)]
theorem keys_cut {T : W} {o k : Int} (h : k ∈ keysW (cutW T o)) : k ∈ keysW T ∧ k ≤ o := by
  obtain ⟨p, hp, rfl⟩ := (List.mem_map.mp h)
  have := List.mem_filter.mp hp
  exact ⟨List.mem_map_of_mem this.1, by simpa using this.2⟩
/-- a turn of the series: what is left is the next number times the foot's first one -/
theorem turn_left {top foot : W} {f most : Int} {b0 : Rat} {T : W} (hf : Foot foot f b0) (h : Exp top foot f most T) {o : Int} (ho : o ≤ most) : cf top (o + f) - conv (cf (cutW T (o - 1))) foot (o + f) = b0 * cf T o := by
  have e1 := h.eq (o + f) (by omega)
  have e2 := conv_sub (cf T) (cf (cutW T (o - 1))) foot (o + f)
  rw [conv_head hf _ _ fun k hk => by rw [cf_lt, if_pos hk]; grind] at e2
  rw [cf_lt, if_neg (by omega)] at e2
  grind
theorem cut_next {T : W} (h : Can T) (o : Int) : cutW T o = if cf T o = 0 then cutW T (o - 1) else cutW T (o - 1) ++ [(o, cf T o)] := by
  refine can_ext (can_cut h o) ?_ fun k => ?_
  · split
    · exact can_cut h _
    · rename_i hz
      refine ⟨?_, fun p hp => ?_⟩
      · rw [List.pairwise_append]
        refine ⟨(can_cut h _).asc, by simp, fun a ha b hb => ?_⟩
        simp only [List.mem_singleton] at hb
        subst hb
        have := (keys_cut (List.mem_map_of_mem (f := (·.1)) ha)).2
        show a.1 < o
        omega
      · rcases List.mem_append.mp hp with z | z
        · exact (can_cut h _).nz p z
        · simp only [List.mem_singleton] at z
          subst z
          exact hz
  · rw [cf_cut]
    by_cases hz : cf T o = 0
    · rw [if_pos hz, cf_lt]
      by_cases hk : k < o
      · rw [if_pos hk, if_pos (by omega)]
      · rw [if_neg hk]
        by_cases e : k = o
        · subst e; rw [if_pos (by omega), hz]
        · rw [if_neg (by omega)]
    · rw [if_neg hz, cf_app, cf_lt, cf, show cf ([] : W) k = 0 from rfl]
      by_cases hk : k < o
      · rw [if_pos hk, if_pos (by omega), if_neg (by show ¬ o = k; omega)]; grind
      · rw [if_neg hk]
        by_cases e : k = o
        · subst e; rw [if_pos (by omega), if_pos (by rfl)]; grind
        · rw [if_neg (by omega), if_neg (by show ¬ o = k; omega)]; grind
/-- the part of a dict without a key -/
def noK (P : W) (f : Int) : W := P.filter fun p => decide (p.1 ≠ f)
theorem conv_noK {B : W} (h : Dct B) {f : Int} (F : Int → Rat) {m : Int} (hz : F (m - f) = 0) : ∀ P : W, (∀ p ∈ P, p ∈ B) → conv F (noK P f) m = conv F P m
  | [], _ => rfl
  | p :: P, hp => by
    have ih := conv_noK h F hz P fun q hq => hp q (by simp [hq])
    unfold noK at *
    by_cases e : p.1 = f
    · rw [List.filter_cons_of_neg (by simp [e]), ih, conv, e, hz]; grind
    · rw [List.filter_cons_of_pos (by simp [e]), conv, ih, conv]
theorem noK_snoc (P : W) (p : Int × Rat) (f : Int) : noK (P ++ [p]) f = if p.1 = f then noK P f else noK P f ++ [p] := by
  unfold noK
  rw [List.filter_append]
  by_cases e : p.1 = f
  · rw [if_pos e, List.filter_cons_of_neg (by simp [e])]; simp
  · rw [if_neg e, List.filter_cons_of_pos (by simp [e])]; simp
theorem conv_snoc (F : Int → Rat) (v : W) (q : Int × Rat) (m : Int) : conv F (v ++ [q]) m = conv F v m + q.2 * F (m - q.1) := by
  induction v with
  | nil => show q.2 * F (m - q.1) + 0 = 0 + q.2 * F (m - q.1); grind
  | cons p v ih => rw [List.cons_append, conv, ih, conv]; grind
/-- how large a series may be for the law -/
structure Sm (A B T : W) (f : Int) : Prop where
  mul : ∀ p ∈ B, ∀ t ∈ T, Sz (3998 + 1) (p.2 * t.2)
  left : ∀ (o : Int) (P : W) (S : W), B = P ++ S → Sz (4000 + 1) (cf A (o + f) - conv (cf (cutW T (o - 1))) (noK P f) (o + f))
  b : ∀ p ∈ B, Sz (3998 + 1) p.2
  t : ∀ t ∈ T, Sz (3998 + 1) t.2
theorem neg_fr (q : Rat) : D.tup [.int (-q.num), .int q.den] = frD (-q) := by simp [frD]
theorem sz_neg {q : Rat} {k : Nat} (hq : Sz k q) : Sz k (-q) := by
  obtain ⟨h1, h2⟩ := hq
  exact ⟨by unfold Lt2 at *; rw [Rat.neg_num, Int.natAbs_neg]; exact h1, by rw [Rat.neg_den]; exact h2⟩
theorem read2 {κ : Cells} {n : Nat} {K : W} (h : AtW κ n K) (js : Cells) : readAt (κ ++ js) n = some (kd K) := (h.gr ⟨js, rfl⟩).read
theorem open2 {κ : Cells} {n : Nat} {K : W} (h : AtW κ n K) (js : Cells) : openAt (κ ++ js) n = some (kd K) := (h.gr ⟨js, rfl⟩).open_
theorem new_at (κ : Cells) (K : W) (c : Cell) : AtW (κ ++ [⟨false, .dk (kd K)⟩, c]) κ.length K := by simp [AtW]
theorem new_set (κ : Cells) (c c' d : Cell) : (κ ++ [c, d]).set κ.length c' = κ ++ [c', d] := by simp
theorem new_last (κ : Cells) (c : Cell) : openAt (κ ++ [c, ⟨false, .dk []⟩]) (κ.length + 1) = some [] := by simp [openAt, List.getElem?_append_right]
theorem lk2_app {κ : Cells} {n : Nat} {K : W} (h : n < κ.length) (js : Cells) : (κ ++ js).set n ⟨true, .dk (kd K)⟩ = lk κ n K ++ js := by
  unfold lk
  rw [List.set_append_left _ _ h]
theorem lk2_back {κ : Cells} {n : Nat} {K : W} (h : AtW κ n K) (js : Cells) : (lk κ n K ++ js).set n ⟨false, .dk (kd K)⟩ = κ ++ js := by
  have hl := h.lt
  unfold lk
  rw [List.set_append_left _ _ (by simpa using hl), List.set_set]
  congr 1
  obtain ⟨h1, h2⟩ := List.getElem?_eq_some_iff.mp h
  rw [← h2, List.set_getElem_self]
theorem lk2_read {κ : Cells} {n : Nat} {K : W} (h : n < κ.length) (js : Cells) : readAt (lk κ n K ++ js) n = some (kd K) := by
  unfold readAt lk
  rw [List.getElem?_append_left (by simpa using h)]
  simp [h]
theorem lk2_locked {κ : Cells} {n : Nat} {K : W} (h : n < κ.length) (js : Cells) : lockedAt (lk κ n K ++ js) n = some (kd K) := by
  unfold lockedAt lk
  rw [List.getElem?_append_left (by simpa using h)]
  simp [h]
theorem put_snoc {F : W} {o : Int} {v : Rat} (h : o ∉ keysW F) : setW F o v = F ++ [(o, v)] := by
  unfold setW
  rw [if_neg]
  intro z
  obtain ⟨p, hp, e⟩ := List.any_eq_true.mp z
  exact h (by rw [← of_decide_eq_true e]; exact List.mem_map_of_mem hp)
theorem good_forJ {I : Nat → Sl → Cells → Prop} {step : D → Sl → Cells → Res} {t : Tk step} {f : Sl → Cells → Res} {t' : Tk f} {xs : List D} {σ : Sl} {κ : Cells} {Q : D → Cells → Prop}
    (h0 : I 0 σ κ) (hs : ∀ (j : Nat) (x : D) (σ : Sl) (κ : Cells), xs[j]? = some x → I j σ κ → ∀ J : Sl → Cells → Prop, (∀ σ κ, I (j + 1) σ κ → J σ κ) → NxTo (step x σ κ) J)
    (g : ∀ σ κ, I xs.length σ κ → Good (f σ κ) Q) : Good (Res.then f t' (forD step t xs σ κ)) Q :=
  good_for1 h0 (fun j x σ κ hx hi => hs j x σ κ hx hi _ fun _ _ h => h) g
theorem rest_nil {R : W} (h : ([] : List D) = R.map (fun p => .int p.1)) : R = [] := by
  cases R with
  | nil => rfl
  | cons p R => simp at h
theorem lexpand_nil (n a b : Nat) {κ : Cells} {most : Int} (ha : AtW κ a []) : callN P0 (n + 1) 41 [.obj a, .obj b, .int most] κ = .ok (.obj κ.length, κ ++ [⟨false, .dk []⟩, ⟨false, .dk []⟩]) := by
  rw [call0 (fn := ⟨3, 9, Pr.b__law_expand⟩) rfl rfl]
  have oa := open2 ha [⟨false, .dk []⟩, ⟨false, .dk []⟩]
  have ol := new_last κ ⟨false, .dk []⟩
  have e0 : kd [] = [] := rfl
  rw [e0] at oa
  simp -implicitDefEqProofs [sizeLine_eq, startS, wipeS, assignT, assign1, setAt_eq, isTy, Pr.b__law_expand, List.append_assoc, oa, ol, eqKv]
theorem lexpand_ok (n a b : Nat) {κ : Cells} {A B T : W} {f most lo : Int} {b0 : Rat} (ha : AtW κ a A) (hb : AtW κ b B) (hA : Dct A) (hB : Dct B) (mA : Mn A lo) (mB : Mn B f) (hf : Foot (nrm B) f b0) (h : Exp (nrm A) (nrm B) f most T)
    (hlo : ∀ t ∈ T, lo - f ≤ t.1) (hr : -1000 ≤ lo - f ∧ lo - f ≤ 1000) (hm : -1000 ≤ most ∧ most ≤ 1000) (hTl : T.length ≤ 60) (s : Sm A B T f) :
    callN P0 (n + 5) 41 [.obj a, .obj b, .int most] κ = .ok (.obj κ.length, κ ++ [⟨false, .dk (kd T)⟩, ⟨false, .dk []⟩]) := by
  suffices h : ∃ d κ', callN P0 (n + 5) 41 [.obj a, .obj b, .int most] κ = .ok (d, κ') ∧ (d = .obj κ.length ∧ κ' = κ ++ [⟨false, .dk (kd T)⟩, ⟨false, .dk []⟩]) by
    obtain ⟨d, κ', h, rfl, rfl⟩ := h
    exact h
  refine good_callQ (fn := ⟨3, 9, Pr.b__law_expand⟩) rfl rfl fun Q hQ => ?_
  have hbl := hb.lt
  have oa := open2 ha [⟨false, .dk []⟩, ⟨false, .dk []⟩]
  have ol := new_last κ ⟨false, .dk []⟩
  have neA : ¬ (kd A).length = ([] : List (Key × D)).length := by
    rw [kd_len]
    obtain ⟨p, hp, _⟩ := List.mem_map.mp mA.1
    have := List.length_pos_of_mem hp
    show ¬ A.length = 0
    omega
  have kmA := kv_min oa mA
  have kmB := kv_min (open2 hb [⟨false, .dk []⟩, ⟨false, .dk []⟩]) mB
  have er : rangeD (lo - f) (most + 1) = some ((List.range (most + 1 - (lo - f)).toNat).map fun (k : Nat) => D.int (lo - f + (k : Int))) := by
    unfold rangeD
    rw [decide_eq_true (show -(2 ^ 62) ≤ lo - f by omega), decide_eq_true (show lo - f < 2 ^ 62 by omega), decide_eq_true (show -(2 ^ 62) ≤ most + 1 by omega), decide_eq_true (show most + 1 < 2 ^ 62 by omega)]
    rfl
  have nl : (kd A = []) = False := eq_false fun z => neA (by rw [z])
  simp -implicitDefEqProofs [sizeLine_eq, startS, wipeS, assignT, assign1, setAt_eq, isTy, Pr.b__law_expand, List.append_assoc, oa, ol, neA, nl, kmA, kmB, er, -kv_min']
  have hF0 : cutW T (lo - f - 1) = [] := List.filter_eq_nil_iff.mpr fun t ht => by
    have := hlo t ht
    simp only [decide_eq_true_eq]
    omega
  refine good_forJ (I := fun j σ κ' => ∃ (u v w z : Option D), σ = [some (.fz (.obj a)), some (.fz (.obj b)), some (.fz (.int most)), some (.fz (.obj κ.length)), some (.fz (.int f)), Option.map O.fz u, Option.map O.fz v, Option.map O.fz w, Option.map O.fz z] ∧
    κ' = κ ++ [⟨false, .dk (kd (cutW T (lo - f + (j : Int) - 1)))⟩, ⟨false, .dk []⟩]) ?_ ?_ ?_
  · refine ⟨none, none, none, none, rfl, ?_⟩
    rw [show lo - f + ((0 : Nat) : Int) - 1 = lo - f - 1 by omega, hF0]
    rfl
  · rintro j x σ κ' hx ⟨u, v, w, z, rfl, rfl⟩ J hJ
    rw [List.getElem?_map] at hx
    obtain ⟨j', hj', rfl⟩ := Option.map_eq_some_iff.mp hx
    have hjr := List.getElem?_eq_some_iff.mp hj'
    obtain ⟨hj1, hj2⟩ := hjr
    rw [List.length_range] at hj1
    rw [List.getElem_range] at hj2
    subst hj2
    generalize ho : lo - f + (j : Int) = o
    have hom : o ≤ most := by omega
    have ra := read2 ha [⟨false, .dk (kd (cutW T (o - 1)))⟩, ⟨false, .dk []⟩]
    have ob := open2 hb [⟨false, .dk (kd (cutW T (o - 1)))⟩, ⟨false, .dk []⟩]
    have hT := can_cut h.can (o - 1)
    have hTl2 : (cutW T (o - 1)).length ≤ 60 := Nat.le_trans (List.length_filter_le _ _) hTl
    have eo : lo - f + (((j + 1 : Nat) : Nat) : Int) - 1 = o := by omega
    have hJ' : ∀ (u v w z : Option D), J [some (.fz (.obj a)), some (.fz (.obj b)), some (.fz (.int most)), some (.fz (.obj κ.length)), some (.fz (.int f)), Option.map O.fz u, Option.map O.fz v, Option.map O.fz w, Option.map O.fz z] (κ ++ [⟨false, .dk (kd (cutW T o))⟩, ⟨false, .dk []⟩]) := fun u v w z =>
      hJ _ _ ⟨u, v, w, z, rfl, by rw [eo]⟩
    clear hJ hx hj' hj1 eo
    simp -implicitDefEqProofs [sizeLine_eq, startS, wipeS, assignT, assign1, setAt_eq, isTy, ra, get_kd hA.nd, ob, lk2_app hbl, lk2_locked hbl, kd_keys]
    have noo : o ∉ keysW (cutW T (o - 1)) := fun z => by have := (keys_cut z).2; omega
    have zo : cf (cutW T (o - 1)) (o + f - f) = 0 := by rw [show o + f - f = o by omega]; exact cf_no fun p hp e => noo (List.mem_map.mpr ⟨p, hp, e⟩)
    have stp : ∀ (P R : W) (q : Int × Rat), B = P ++ q :: R → q.1 = f ∨ o + f - q.1 ∉ keysW (cutW T (o - 1)) → cf A (o + f) - conv (cf (cutW T (o - 1))) (noK (P ++ [q]) f) (o + f) = cf A (o + f) - conv (cf (cutW T (o - 1))) (noK P f) (o + f) := fun P R q e hq => by
      rw [noK_snoc]
      split
      · rfl
      · rename_i ne
        rcases hq with z | z
        · exact absurd z ne
        · have : cf (cutW T (o - 1)) (o + f - q.1) = 0 := cf_no fun p hp e => z (List.mem_map.mpr ⟨p, hp, e⟩)
          rw [conv_snoc, this]; grind
    refine nx_then (nx_reopen (J' := fun σ κ' => (∃ w z : Option D, σ = [some (.fz (.obj a)), some (.fz (.obj b)), some (.fz (.int most)), some (.fz (.obj κ.length)), some (.fz (.int f)), some (.fz (.int o)), some (.fz (frD (b0 * cf T o))), Option.map O.fz w, Option.map O.fz z]) ∧ κ' = κ ++ [⟨false, .dk (kd (cutW T (o - 1)))⟩, ⟨false, .dk []⟩])
      (nx_loop (J := fun σ κ' => (∃ w z : Option D, σ = [some (.fz (.obj a)), some (.fz (.obj b)), some (.fz (.int most)), some (.fz (.obj κ.length)), some (.fz (.int f)), some (.fz (.int o)), some (.fz (frD (b0 * cf T o))), Option.map O.fz w, Option.map O.fz z]) ∧ κ' = lk κ b B ++ [⟨false, .dk (kd (cutW T (o - 1)))⟩, ⟨false, .dk []⟩])
        (I := fun ys σ κ' => ∃ (P R : W) (w z : Option D), B = P ++ R ∧ ys = R.map (fun p => .int p.1) ∧ σ = [some (.fz (.obj a)), some (.fz (.obj b)), some (.fz (.int most)), some (.fz (.obj κ.length)), some (.fz (.int f)), some (.fz (.int o)),
            some (.fz (frD (cf A (o + f) - conv (cf (cutW T (o - 1))) (noK P f) (o + f)))), Option.map O.fz w, Option.map O.fz z] ∧
          κ' = lk κ b B ++ [⟨false, .dk (kd (cutW T (o - 1)))⟩, ⟨false, .dk []⟩]) ?_ ?_ ?_) ?_) ?_
    · refine ⟨[], B, w, z, rfl, rfl, ?_, rfl⟩
      rw [show conv (cf (cutW T (o - 1))) (noK [] f) (o + f) = 0 from rfl, show cf A (o + f) - 0 = cf A (o + f) by grind]
    · rintro x ys σ κ' ⟨P, R, w, z, hB', hys, rfl, rfl⟩ J2 hJ2
      cases R with
      | nil => simp at hys
      | cons q R =>
        simp only [List.map_cons, List.cons.injEq] at hys
        obtain ⟨rfl, rfl⟩ := hys
        have hq : q ∈ B := by rw [hB']; simp
        have elb := look_mem hB hq
        have rb := lk2_read (K := B) hbl [⟨false, .dk (kd (cutW T (o - 1)))⟩, ⟨false, .dk []⟩]
        have rF : readAt (lk κ b B ++ [⟨false, .dk (kd (cutW T (o - 1)))⟩, ⟨false, .dk []⟩]) κ.length = some (kd (cutW T (o - 1))) := by
          have := (new_at (lk κ b B) (cutW T (o - 1)) ⟨false, .dk []⟩).read
          rwa [lk_len] at this
        by_cases e1 : q.1 = f
        · have := stp P R q hB' (.inl e1)
          simp -implicitDefEqProofs [sizeLine_eq, startS, wipeS, assignT, assign1, setAt_eq, isTy, e1]
          exact hJ2 _ _ ⟨P ++ [q], R, some (.int q.1), z, by simp [hB'], rfl, by rw [this, e1]; rfl, rfl⟩
        · have e1' : (q.1 == f) = false := by simpa using e1
          have hin := in_kd (cutW T (o - 1)) (o + f - q.1)
          by_cases e2 : o + f - q.1 ∈ keysW (cutW T (o - 1))
          · rw [decide_eq_true e2] at hin
            have elF := ix_kd (hT.dct) e2
            obtain ⟨t, ht, et⟩ := List.mem_map.mp (keys_cut e2).1
            have ec : cf (cutW T (o - 1)) (o + f - q.1) = t.2 := by
              have et' : t.1 = o + f - q.1 := et
              have := (keys_cut e2).2
              rw [cf_lt, if_pos (by omega), ← et', cf_mem h.can.nd ht]
            have sm := s.mul q hq t ht
            have st := s.t t ht
            have sb := s.b q hq
            have sl := s.left o P (q :: R) hB'
            rw [ec] at elF
            have eby := lby_ok (n + 1) q.2 t.2 (lk κ b B ++ [⟨false, .dk (kd (cutW T (o - 1)))⟩, ⟨false, .dk []⟩]) (sb.up (by decide)) st
            have eadd := ladd_ok (n + 1) (cf A (o + f) - conv (cf (cutW T (o - 1))) (noK P f) (o + f)) (-(q.2 * t.2)) (lk κ b B ++ [⟨false, .dk (kd (cutW T (o - 1)))⟩, ⟨false, .dk []⟩]) sl (sz_neg sm)
            have e3 : cf A (o + f) - conv (cf (cutW T (o - 1))) (noK P f) (o + f) + -(q.2 * t.2) = cf A (o + f) - conv (cf (cutW T (o - 1))) (noK (P ++ [q]) f) (o + f) := by
              rw [noK_snoc, if_neg e1, conv_snoc, ec]; grind
            rw [e3] at eadd
            rw [← neg_fr] at eadd
            have efr : frD (q.2 * t.2) = .tup [.int (q.2 * t.2).num, .int (q.2 * t.2).den] := rfl
            simp -implicitDefEqProofs [sizeLine_eq, startS, wipeS, assignT, assign1, setAt_eq, isTy, e1, e1', rF, rb, hin, elb, elF, eby, efr, eadd]
            exact hJ2 _ _ ⟨P ++ [q], R, some (.int q.1), some (frD (q.2 * t.2)), by simp [hB'], rfl, rfl, rfl⟩
          · rw [decide_eq_false e2] at hin
            have := stp P R q hB' (.inr e2)
            simp -implicitDefEqProofs [sizeLine_eq, startS, wipeS, assignT, assign1, setAt_eq, isTy, e1, e1', rF, rb, hin]
            exact hJ2 _ _ ⟨P ++ [q], R, some (.int q.1), z, by simp [hB'], rfl, by rw [this]; rfl, rfl⟩
    · rintro σ κ' ⟨P, R, w, z, hB', hys, rfl, rfl⟩
      obtain rfl := rest_nil hys
      rw [List.append_nil] at hB'
      subst hB'
      refine ⟨⟨w, z, ?_⟩, rfl⟩
      have e1 := conv_noK hB (cf (cutW T (o - 1))) zo B fun p hp => hp
      have e2 := conv_dict (fun k => (nrm_cf hB.nd k).symm) (cutW T (o - 1)) (o + f)
      have e3 := turn_left hf h hom
      rw [nrm_cf hA.nd] at e3
      rw [e1, e2, e3]
    · rintro σ κ' ⟨⟨w, z, rfl⟩, rfl⟩
      exact ⟨⟨w, z, rfl⟩, lk2_back hb _⟩
    · rintro σ κ' ⟨⟨w, z, rfl⟩, rfl⟩
      have hb0 := hf.b0
      have hn := cut_next h.can o
      by_cases hz : cf T o = 0
      · rw [if_pos hz] at hn
        have e0 : b0 * cf T o = 0 := by rw [hz]; grind
        rw [e0]
        simp -implicitDefEqProofs [sizeLine_eq, startS, wipeS, assignT, assign1, setAt_eq, isTy, frD]
        rw [← hn]
        exact hJ' (some (.int o)) (some (frD 0)) w z
      · rw [if_neg hz] at hn
        have e0 : b0 * cf T o ≠ 0 := fun z => by
          rcases Rat.mul_eq_zero.mp z with z | z
          · exact hb0 z
          · exact hz z
        have en := num0 e0
        have fB : f ∈ keysW B := mB.1
        have efB : cf B f = b0 := by
          obtain ⟨ft, e⟩ := hf.hd
          have := nrm_cf hB.nd f
          rw [e] at this
          rw [← this]
          exact cf_head (p := (f, b0)) (by rw [← e]; exact nrm_can hB.nd)
        have elb := ix_kd hB fB
        rw [efB] at elb
        obtain ⟨t, ht, et⟩ := List.mem_map.mp (cf_ne hz)
        have et' : t.1 = o := et
        obtain ⟨q, hq, eq⟩ := List.mem_map.mp fB
        have eq' : q.1 = f := eq
        have eq2 : q.2 = b0 := by rw [← efB, ← eq', cf_mem hB.nd hq]
        have et2 : t.2 = cf T o := by rw [← et', cf_mem h.can.nd ht]
        have sm := s.mul q hq t ht
        have sb := s.b q hq
        rw [eq2, et2] at sm
        rw [eq2] at sb
        have rb := read2 hb [⟨false, .dk (kd (cutW T (o - 1)))⟩, ⟨false, .dk []⟩]
        have oF := (new_at κ (cutW T (o - 1)) ⟨false, .dk []⟩).open_
        have eov := lover_ok (n + 1) (b0 * cf T o) b0 (κ ++ [⟨false, .dk (kd (cutW T (o - 1)))⟩, ⟨false, .dk []⟩]) hb0 (sm.up (by decide)) sb
        have ed : b0 * cf T o / b0 = cf T o := by
          rw [Rat.mul_comm, Rat.div_def, Rat.mul_assoc, Rat.mul_inv_cancel _ hb0]; grind
        rw [ed] at eov
        have hl2 : (kd (cutW T (o - 1))).length < 16777216 := by rw [kd_len]; omega
        have ep : putP (kd (cutW T (o - 1))) (.inl o) (frD (cf T o)) = kd (cutW T o) := by rw [put_kd, put_snoc noo, hn]
        have efr : frD (b0 * cf T o) = .tup [.int (b0 * cf T o).num, .int (b0 * cf T o).den] := rfl
        rw [efr] at eov
        simp -implicitDefEqProofs [sizeLine_eq, startS, wipeS, assignT, assign1, setAt_eq, isTy, efr, en, rb, elb, eov, oF, hl2, ep, new_set]
        exact hJ' (some (.int o)) (some (frD (b0 * cf T o))) w z
  · rintro σ κ' ⟨u, v, w, z, rfl, rfl⟩
    have hc : cutW T (lo - f + (((List.range (most + 1 - (lo - f)).toNat).map fun (k : Nat) => D.int (lo - f + (k : Int))).length : Int) - 1) = T := by
      refine List.filter_eq_self.mpr fun t ht => ?_
      have := h.le t ht
      have := hlo t ht
      simp only [List.length_map, List.length_range, decide_eq_true_eq]
      omega
    rw [hc]
    simp -implicitDefEqProofs [sizeLine_eq, startS, wipeS, assignT, assign1, setAt_eq, isTy, ]
    exact hQ _ _ ⟨rfl, rfl⟩
end R

/-! Q13: what the law says is left. -/
namespace R
open PySem L2
open scoped Rat
def byOf (T : W) : Int := (T.map fun p => -p.1).foldl max 0
theorem asInts_map : ∀ l : List Int, asInts (l.map .int) = some l
  | [] => rfl
  | i :: l => by rw [List.map_cons, asInts, asInts_map l]; rfl
theorem max_ints (b : Option Nat) (l : List Int) : blt1D .max (.ol b (.int 0 :: l.map .int)) = some (.fz (.int (l.foldl max 0))) := by
  show (asInts (.int 0 :: l.map .int)).bind _ = _
  rw [asInts, asInts_map]
  rfl
theorem fold_ge (l : List Int) : ∀ a : Int, a ≤ l.foldl max a := by
  induction l with
  | nil => intro a; exact Int.le_refl _
  | cons x l ih =>
    intro a
    have := ih (max a x)
    rw [List.foldl_cons]
    omega
theorem fold_bd (l : List Int) : ∀ a : Int, (∀ x ∈ l, x ≤ a) → l.foldl max a = a := by
  induction l with
  | nil => intro a _; rfl
  | cons x l ih =>
    intro a h
    rw [List.foldl_cons, show max a x = a by have := h x (by simp); omega]
    exact ih a fun y hy => h y (by simp [hy])
theorem byOf_nil : byOf [] = 0 := rfl
theorem byOf_cons {p : Int × Rat} {T : W} (h : Can (p :: T)) : byOf (p :: T) = max 0 (-p.1) := by
  unfold byOf
  rw [List.map_cons, List.foldl_cons, fold_bd]
  intro x hx
  obtain ⟨q, hq, rfl⟩ := List.mem_map.mp hx
  have := h.head q hq
  omega
theorem byOf_ge (T : W) : 0 ≤ byOf T := fold_ge _ 0
theorem fold_put : ∀ (L F : W), (keysW (F ++ L)).Nodup → (kd L).foldl (fun acc kv => putP acc kv.1 kv.2) (kd F) = kd (F ++ L)
  | [], F, _ => by simp [kd]
  | p :: L, F, h => by
    have e : putP (kd F) (.inl p.1) (frD p.2) = kd (F ++ [p]) := by
      rw [put_kd, put_snoc]
      intro z
      simp only [keysW, List.map_append, List.map_cons, List.nodup_append] at h
      exact h.2.2 p.1 z p.1 (by simp) rfl
    show (kd L).foldl _ (putP (kd F) (.inl p.1) (frD p.2)) = _
    rw [e, fold_put L (F ++ [p]) (by simpa using h)]
    simp
theorem pairs_kd (L : W) : pairsD (L.map fun p => .tup [.int p.1, frD p.2]) = some (kd L) := by
  induction L with
  | nil => rfl
  | cons p L ih =>
    show (keyOf (.int p.1)).bind _ = _
    rw [k_int, Option.bind_some, ih]
    rfl
theorem dcp_pairs (κ : Cells) {L : W} (h : (keysW L).Nodup) : dcpD κ (.lst (L.map fun p => .tup [.int p.1, frD p.2])) = some (kd L) := by
  rw [dcp_lst, pairs_kd]
  show some ((kd L).foldl _ (kd [])) = _
  rw [fold_put L [] (by simpa using h)]
  rfl
theorem nd_sh {K : W} (h : (keysW K).Nodup) (b : Int) : (keysW (shW K b)).Nodup := by
  unfold keysW shW at *
  rw [List.map_map]
  rw [List.Nodup, List.pairwise_map] at *
  exact h.imp fun hab => by show _ + b ≠ _ + b; omega
theorem dct_sh {K : W} (h : Dct K) (b : Int) : Dct (shW K b) := ⟨nd_sh h.nd b, fun p hp => by
  obtain ⟨q, hq, rfl⟩ := (List.mem_map.mp hp)
  exact h.nz q hq⟩
theorem lk_self {κ : Cells} {n : Nat} {K : W} (h : AtW κ n K) : (lk κ n K).set n ⟨false, .dk (kd K)⟩ = κ := by
  have := lk2_back h []
  simpa using this
theorem lk_lockd {κ : Cells} {n : Nat} {K : W} (h : n < κ.length) : lockedAt (lk κ n K) n = some (kd K) := by
  have := lk2_locked (K := K) h []
  simpa using this
theorem lk_rd {κ : Cells} {n : Nat} {K : W} (h : n < κ.length) : readAt (lk κ n K) n = some (kd K) := by
  have := lk2_read (K := K) h []
  simpa using this
theorem lk_fold (κ : Cells) (n : Nat) (K : W) : κ.set n ⟨true, .dk (kd K)⟩ = lk κ n K := rfl
theorem comp_keys {g : Int × Rat → D} {step : D → Cells → Out (List D × Cells)} {t : Tk step} {κ : Cells} {K : W} (h : ∀ p ∈ K, step (.int p.1) κ = .ok ([g p], κ)) : compD step t (K.map fun p => .int p.1) κ = .ok (K.map g, κ) :=
  comp_mapA (f := fun p : Int × Rat => D.int p.1) h
theorem leftof_ok (n a b t : Nat) {κ : Cells} {A B T : W} (ha : AtW κ a A) (hb : AtW κ b B) (ht : AtW κ t T) (hA : Dct A) (hB : Dct B) (hT : Dct T) {Δ M : Nat} {lo : Int} (f : Fit (prodW (shW T (byOf T)) B) Δ M lo) (ia : In60 (shW A (byOf T)) lo)
    (lA : A.length ≤ 60) (lB : B.length ≤ 60) (lT : T.length ≤ 60) (sA : ∀ k, Sz (4000 + 1) (cf A k)) (sB : ∀ p ∈ B, Sz (3998 + 1) p.2) (sT : ∀ p ∈ T, Sz (4000 + 1) p.2) :
    ∃ κ' r K, callN P0 (n + 6) 42 [.obj a, .obj b, .obj t] κ = .ok (.tup [.obj r, .obj κ.length], κ') ∧ Gr κ κ' ∧ AtW κ' r K ∧ AtW κ' κ.length (shW B (byOf T)) ∧ Dct K ∧ In60 K lo ∧ κ.length ≤ r ∧
      ∀ k, cf K k = cf A (k - byOf T) - conv (cf T) B (k - byOf T) := by
  suffices h : ∃ d κ', callN P0 (n + 6) 42 [.obj a, .obj b, .obj t] κ = .ok (d, κ') ∧ (∃ r K, d = .tup [.obj r, .obj κ.length] ∧ Gr κ κ' ∧ AtW κ' r K ∧ AtW κ' κ.length (shW B (byOf T)) ∧ Dct K ∧ In60 K lo ∧ κ.length ≤ r ∧
      ∀ k, cf K k = cf A (k - byOf T) - conv (cf T) B (k - byOf T)) by
    obtain ⟨d, κ', h, r, K, rfl, h2⟩ := h
    exact ⟨κ', r, K, h, h2⟩
  refine good_callQ (fn := ⟨3, 8, Pr.b__law_left_of⟩) rfl rfl fun Q hQ => ?_
  have hal := ha.lt
  have hbl := hb.lt
  have htl := ht.lt
  have l16 : T.length < 16777216 := by omega
  have lA16 : A.length < 16777216 := by omega
  have lB16 : B.length < 16777216 := by omega
  simp -implicitDefEqProofs [sizeLine_eq, startS, wipeS, assignT, assign1, setAt_eq, isTy, Pr.b__law_left_of, ht.open_, lk_fold, lk_lockd htl, kd_keys]
  rw [comp_keys (K := T) (g := fun p => .int (-p.1)) (fun p hp => ?_)]
  · have em : blt1D .max (.ol none (.int 0 :: T.map fun p => .int (-p.1))) = some (.fz (.int (byOf T))) := by
      have := max_ints none (T.map fun p => -p.1)
      rw [List.map_map] at this
      exact this
    have eb : binD .add (.lst [.int 0]) (.lst (T.map fun p => .int (-p.1))) = some (.ol none (.int 0 :: T.map fun p => .int (-p.1))) := b_addL (le_line' (by simp; omega))
    generalize hby : byOf T = by_ at *
    simp -implicitDefEqProofs [sizeLine_eq, startS, wipeS, assignT, assign1, setAt_eq, isTy, l16, lk_self ht, em, eb, hb.open_, lk_fold, lk_lockd hbl, kd_keys]
    rw [comp_keys (K := B) (g := fun p => .tup [.int (p.1 + by_), frD p.2]) (fun p hp => ?_)]
    · have e1 : (B.map fun p => D.tup [.int (p.1 + by_), frD p.2]) = (shW B by_).map fun p => .tup [.int p.1, frD p.2] := by unfold shW; rw [List.map_map]; rfl
      rw [e1]
      have hl1 : (shW B by_).length < 16777216 := by unfold shW; rw [List.length_map]; exact lB16
      simp -implicitDefEqProofs [sizeLine_eq, startS, wipeS, assignT, assign1, setAt_eq, isTy, hl1, lk_self hb, dcp_pairs _ (nd_sh hB.nd by_), -dcp_lst]
      have g1 := Gr.one κ ⟨false, .dk (kd (shW B by_))⟩
      have a1 := ha.gr g1
      have t1 := ht.gr g1
      have b1 := hb.gr g1
      have f1 := AtW.last κ (shW B by_)
      have n1 : (κ ++ [(⟨false, .dk (kd (shW B by_))⟩ : Cell)]).length = κ.length + 1 := by simp
      generalize hκ1 : κ ++ [(⟨false, .dk (kd (shW B by_))⟩ : Cell)] = κ1 at *
      simp -implicitDefEqProofs [sizeLine_eq, startS, wipeS, assignT, assign1, setAt_eq, isTy, a1.open_, lk_fold, lk_lockd a1.lt, kd_keys]
      rw [comp_keys (K := A) (g := fun p => .tup [.int (p.1 + by_), frD p.2]) (fun p hp => ?_)]
      · have e2 : (A.map fun p => D.tup [.int (p.1 + by_), frD p.2]) = (shW A by_).map fun p => .tup [.int p.1, frD p.2] := by unfold shW; rw [List.map_map]; rfl
        rw [e2]
        have hl2 : (shW A by_).length < 16777216 := by unfold shW; rw [List.length_map]; exact lA16
        simp -implicitDefEqProofs [sizeLine_eq, startS, wipeS, assignT, assign1, setAt_eq, isTy, hl2, lk_self a1, dcp_pairs _ (nd_sh hA.nd by_), -dcp_lst]
        have g2 := Gr.one κ1 ⟨false, .dk (kd (shW A by_))⟩
        have t2 := t1.gr g2
        have b2 := b1.gr g2
        have f2 := f1.gr g2
        have u2 := AtW.last κ1 (shW A by_)
        have n2 : (κ1 ++ [(⟨false, .dk (kd (shW A by_))⟩ : Cell)]).length = κ1.length + 1 := by simp
        generalize hκ2 : κ1 ++ [(⟨false, .dk (kd (shW A by_))⟩ : Cell)] = κ2 at *
        simp -implicitDefEqProofs [sizeLine_eq, startS, wipeS, assignT, assign1, setAt_eq, isTy, t2.open_, lk_fold, lk_lockd t2.lt, kd_keys]
        rw [comp_keys (K := T) (g := fun p => .tup [.int (p.1 + by_), frD p.2]) (fun p hp => ?_)]
        · have e3 : (T.map fun p => D.tup [.int (p.1 + by_), frD p.2]) = (shW T by_).map fun p => .tup [.int p.1, frD p.2] := by unfold shW; rw [List.map_map]; rfl
          rw [e3]
          have hl3 : (shW T by_).length < 16777216 := by unfold shW; rw [List.length_map]; exact l16
          simp -implicitDefEqProofs [sizeLine_eq, startS, wipeS, assignT, assign1, setAt_eq, isTy, hl3, lk_self t2, dcp_pairs _ (nd_sh hT.nd by_), -dcp_lst]
          have g3 := Gr.one κ2 ⟨false, .dk (kd (shW T by_))⟩
          have b3 := b2.gr g3
          have f3 := f2.gr g3
          have u3 := u2.gr g3
          have v3 := AtW.last κ2 (shW T by_)
          have n3 : (κ2 ++ [(⟨false, .dk (kd (shW T by_))⟩ : Cell)]).length = κ2.length + 1 := by simp
          generalize hκ3 : κ2 ++ [(⟨false, .dk (kd (shW T by_))⟩ : Cell)] = κ3 at *
          have dT := dct_sh hT by_
          have dA := dct_sh hA by_
          have sT' : ∀ p ∈ shW T by_, Sz (4000 + 1) p.2 := fun p hp => by
            obtain ⟨q, hq, rfl⟩ := (List.mem_map.mp hp)
            exact sT q hq
          have ep := sprod_ok n κ2.length b (by omega) v3 b3 dT hB f sT' sB
          have g4 := Gr.one κ3 ⟨false, .dk (kd (addAll [] (prodW (shW T by_) B)))⟩
          have f4 := f3.gr g4
          have u4 := u3.gr g4
          have v4 := AtW.last κ3 (addAll [] (prodW (shW T by_) B))
          generalize hκ4 : κ3 ++ [(⟨false, .dk (kd (addAll [] (prodW (shW T by_) B)))⟩ : Cell)] = κ4 at *
          have dP : Dct (addAll [] (prodW (shW T by_) B)) := addAll_dct Dct.nil _
          have iP : In60 (addAll [] (prodW (shW T by_) B)) lo := In60.of f (S := []) (by simp)
          have sP : ∀ p ∈ addAll [] (prodW (shW T by_) B), Sz (3998 + 1) p.2 := fun p hp => by
            rw [← cf_mem dP.nd hp, addAll_cf Dct.nil, show cf ([] : W) p.1 = 0 from rfl, show (0 : Rat) + cf (prodW (shW T by_) B) p.1 = cf (prodW (shW T by_) B) p.1 by grind]
            exact f.part (S := []) (by simp) _
          have es := ssum_ok n κ1.length κ3.length (way := -1) (.inr rfl) u4 v4 dA dP ia iP (fun k => by rw [cf_sh]; exact sA _) sP
          have g5 := Gr.one κ4 ⟨false, .dk (kd (addAll (shW A by_) ((addAll [] (prodW (shW T by_) B)).map fun p => (p.1, ((-1 : Int) : Rat) * p.2))))⟩
          have f5 := f4.gr g5
          have v5 := AtW.last κ4 (addAll (shW A by_) ((addAll [] (prodW (shW T by_) B)).map fun p => (p.1, ((-1 : Int) : Rat) * p.2)))
          simp -implicitDefEqProofs [sizeLine_eq, startS, wipeS, assignT, assign1, setAt_eq, isTy, show callN P0 (n + 5) 40 [.obj κ2.length, .obj b] κ3 = _ from ep, es]
          refine hQ _ _ ⟨κ4.length, _, rfl, g1.trans (g2.trans (g3.trans (g4.trans g5))), v5, f5, addAll_dct dA _, fun k hk => ?_, ?_, fun k => ?_⟩
          · rcases addAll_keys hk with z | z
            · exact ia k z
            · obtain ⟨p, hp, rfl⟩ := List.mem_map.mp z
              obtain ⟨q, hq, rfl⟩ := (List.mem_map.mp hp)
              exact iP q.1 (List.mem_map_of_mem hq)
          · have h4 : κ4.length = κ3.length + 1 := by rw [← hκ4]; simp
            omega
          · have en : ∀ (L : W) (k : Int), cf (L.map fun p => (p.1, ((-1 : Int) : Rat) * p.2)) k = -cf L k := fun L k => by
              induction L with
              | nil => show (0 : Rat) = -0; grind
              | cons p L ih => rw [List.map_cons, cf, cf, ih, neg1]; split <;> grind
            rw [addAll_cf dA, en, addAll_cf Dct.nil, cf_prod, cf_sh, show cf ([] : W) k = 0 from rfl]
            have ec : conv (cf (shW T by_)) B k = conv (cf T) B (k - by_) := by
              have : cf (shW T by_) = fun j => cf T (j - by_) := funext fun j => cf_sh T by_ j
              rw [this]
              clear this es ep f
              generalize B = v
              induction v with
              | nil => rfl
              | cons q v ih => rw [conv, conv, ih, show k - q.1 - by_ = k - by_ - q.1 by omega]
            rw [ec]; grind
        · have el := look_mem hT hp
          simp -implicitDefEqProofs [sizeLine_eq, startS, wipeS, assignT, assign1, setAt_eq, isTy, lk_rd t2.lt, el]
      · have el := look_mem hA hp
        simp -implicitDefEqProofs [sizeLine_eq, startS, wipeS, assignT, assign1, setAt_eq, isTy, lk_rd a1.lt, el]
    · have el := look_mem hB hp
      simp -implicitDefEqProofs [sizeLine_eq, startS, wipeS, assignT, assign1, setAt_eq, isTy, lk_rd hbl, el]
  · simp -implicitDefEqProofs [sizeLine_eq, startS, wipeS, assignT, assign1, setAt_eq, isTy, ]
end R

/-! Q14: the program's series and what is left behind them. -/
namespace R
open PySem L2
open scoped Rat
/-- a quotient that is small: what the law draws -/
structure Qt (top foot : W) (f fl : Int) (b0 bl : Rat) (lo : Int) (Δ0 M0 Δb Mb : Nat) (z0 : Int) : Prop where
  q : QS top foot f b0 lo Δ0 M0 Δb Mb
  hz : b0 = z0 /. Δb
  hz1 : z0.natAbs ≤ Mb
  fl1 : f ≤ fl
  fl2 : fl < f + 20
  last : foot.getLast? = some (fl, bl)
theorem expin_ok (n : Nat) (κ : Cells) {top foot : W} {f fl lo most : Int} {b0 bl : Rat} {Δ0 M0 Δb Mb : Nat} {z0 : Int} (h : Qt top foot f fl b0 bl lo Δ0 M0 Δb Mb z0) (hm : most + f < lo + 40) :
    ∃ T κ', callN P0 (n + 5) 20 [.tup [wD top, wD foot], .int most] κ = .ok (wD T, κ') ∧ Gr κ κ' ∧ Exp top foot f most T ∧ (∀ t ∈ T, lo - f ≤ t.1) ∧
      ∀ (i : Nat) (p : Int × Rat), T[i]? = some p → Dv (Δ0 * z0.natAbs ^ (i + 1)) (M0 * (2 * Mb) ^ i * 2 ^ 64) p.2 := by
  obtain ⟨R', T, u', κ', e, g, hI, hR⟩ := ex_loop n (.tup [wD top, wD foot]) h.q h.hz h.hz1 hm h.fl1 h.fl2 h.last 100 100000 top [] none κ (ExI.start h.q _) (fun p hp => by have := (h.q.rt p hp).1; omega) (by decide)
  refine ⟨T, κ', ?_, g, ⟨hI.canT, fun p hp => (hI.leT p hp).2, fun k hk => ?_⟩, fun t ht => (hI.leT t ht).1, hI.dvT⟩
  · rw [call0 (fn := ⟨2, 7, Pr.b_expanded_in⟩) rfl rfl]
    obtain ⟨ft, rfl⟩ := h.q.ft.hd
    have e0 : atI (wD ((f, b0) :: ft) :: ([] : List D)) 0 = some (wD ((f, b0) :: ft)) := atI_nat (j := 0) rfl
    have ef : idxC κ (wD ((f, b0) :: ft)) (.int 0) = some (tD (f, b0)) := atI_nat (j := 0) rfl
    simp -implicitDefEqProofs [sizeLine_eq, startS, wipeS, assignT, assign1, setAt_eq, isTy, Pr.b_expanded_in, exec.exec1, exec.evos, exec.assignO, ef]
    refine Eq.trans (congrArg (fun z => (Res.then _ _ z).out) e) ?_
    have hl : T.length < 16777216 := by have := hI.cnt hm; omega
    simp -implicitDefEqProofs [sizeLine_eq, startS, wipeS, assignT, assign1, setAt_eq, isTy, exσ, wD]
  · have h1 := hI.eq k hk
    have h2 : cf R' k = 0 := cf_no fun p hp z => by have := hR p hp; omega
    rw [h2] at h1
    grind
theorem canW_hd {w : W} {p : Int × Rat} {r : W} (h : w = p :: r) : wD w = .tup (tD p :: r.map tD) := by subst h; rfl
/-- what is left behind terms: the program's reckoning -/
theorem leftin_ok (n : Nat) (κ : Cells) {top foot T : W} {Δ M : Nat} {lo : Int} {Δ' M' : Nat} (ct : Can top) (cf_ : Can foot) (cT : Can T) (f : Fit (prodW (shW T (byOf T)) foot) Δ M lo)
    (g : ∀ P : W, Can P → (∀ k, cf P k = cf (prodW (shW T (byOf T)) foot) k) → Fit (shW top (byOf T) ++ negW P) Δ' M' lo) (lt : top.length ≤ 60) (lf : foot.length ≤ 60) (lT : T.length ≤ 60)
    (sT : ∀ p ∈ T, Sz (3998 + 1) p.2) (sF : ∀ p ∈ foot, Sz (3998 + 1) p.2) :
    ∃ R κ', callN P0 (n + 5) 22 [.tup [wD top, wD foot], wD T] κ = .ok (.tup [wD R, wD (shW foot (byOf T))], κ') ∧ Gr κ κ' ∧ Can R ∧ (∀ p ∈ R, lo ≤ p.1 ∧ p.1 < lo + 60) ∧ ∀ k, cf R k = cf top (k - byOf T) - conv (cf T) foot (k - byOf T) := by
  obtain ⟨P, c1, e1, hP, eP⟩ := productof_ok n (shW T (byOf T)) foot _ _ _ κ f (fun p hp => by obtain ⟨q, hq, rfl⟩ := List.mem_map.mp hp; exact sT q hq) sF (by simp [shW]; omega) (by omega)
  have lP : P.length ≤ 60 := by
    refine len_rng hP (lo := lo) fun p hp => ?_
    have h1 := can_mem hP (List.mem_map_of_mem (f := (·.1)) hp)
    rw [eP] at h1
    obtain ⟨q, hq, eq⟩ := List.mem_map.mp (cf_ne h1)
    have := f.lo q hq
    have eq : q.1 = p.1 := eq
    omega
  obtain ⟨R, c2, e2, hR, eR⟩ := sumof_ok n (shW top (byOf T)) (negW P) _ _ _ (κ ++ [c1]) (g P hP eP) (by simp [shW]; omega) (by simp [negW]; omega)
  refine ⟨R, κ ++ [c1] ++ [c2], ?_, (Gr.one κ c1).trans (Gr.one _ c2), hR, fun p hp => ?_, fun k => ?_⟩
  · have e3 := shifted_ok (n + 3) foot (byOf T) κ (by omega)
    have e4 := shifted_ok (n + 3) top (byOf T) κ (by omega)
    have e5 := shifted_ok (n + 3) T (byOf T) κ (by omega)
    have e6 := negative_ok (n + 3) P (κ ++ [c1]) (by omega)
    rw [call0 (fn := ⟨2, 4, Pr.b_left_in⟩) rfl rfl]
    cases T with
    | nil =>
      have hT : wD [] = .tup [] := rfl
      rw [byOf_nil] at e1 e2 e3 e4 e5
      rw [hT] at e5 ⊢
      simp -implicitDefEqProofs [sizeLine_eq, startS, wipeS, assignT, assign1, setAt_eq, isTy, Pr.b_left_in, e3, e4, e5, e1, e6, e2]
      rw [byOf_nil]
    | cons t T =>
      have hT : wD (t :: T) = .tup (tD t :: T.map tD) := rfl
      have hlen : (0 : Int) < ((tD t :: T.map tD).length : Int) := by simp
      have hby : byOf (t :: T) = if t.1 < 0 then -t.1 else 0 := by rw [byOf_cons cT]; split <;> omega
      rw [hby] at e1 e2 e3 e4 e5 ⊢
      rw [hT] at e5 ⊢
      simp only [tD] at e5
      simp -implicitDefEqProofs [sizeLine_eq, startS, wipeS, assignT, assign1, setAt_eq, isTy, Pr.b_left_in, e3, e4, e5, e1, e6, e2, tD]
  · have h1 := can_mem hR (List.mem_map_of_mem (f := (·.1)) hp)
    rw [eR] at h1
    have : cf (shW top (byOf T) ++ negW P) p.1 ≠ 0 := by rw [cf_app]; exact h1
    obtain ⟨q, hq, eq⟩ := List.mem_map.mp (cf_ne this)
    have := (g P hP eP).lo q hq
    have eq : q.1 = p.1 := eq
    omega
  · rw [eR, cf_sh, cf_neg, eP, cf_prod]
    have ec : conv (cf (shW T (byOf T))) foot k = conv (cf T) foot (k - byOf T) := by
      have : cf (shW T (byOf T)) = fun j => cf T (j - byOf T) := funext fun j => cf_sh T _ j
      rw [this]
      clear this e1 f g cf_ lf sF eP
      generalize byOf T = b
      generalize foot = v
      induction v with
      | nil => rfl
      | cons q v ih => rw [conv, conv, ih, show k - q.1 - b = k - b - q.1 by omega]
    rw [ec]; grind
end R

/-! Q15: what the kinds of values are. -/
namespace R
open PySem L2
open scoped Rat
def whole : D → Bool
  | .int _ => true
  | _ => false
@[simp] theorem whole_ok (n : Nat) (d : D) (κ : Cells) (h : hasTy d = true) : callN P0 (n + 1) 0 [d] κ = .ok (.bl (whole d), κ) := by
  rw [call0 (fn := ⟨1, 1, Pr.b_is_whole⟩) rfl rfl]
  cases d <;> simp [hasTy] at h <;> simp -implicitDefEqProofs [sizeLine_eq, startS, wipeS, assignT, assign1, setAt_eq, isTy, Pr.b_is_whole, whole]
theorem count_ok (n : Nat) (i : Int) (κ : Cells) : callN P0 (n + 2) 1 [.int i] κ = .ok (.bl (decide (0 ≤ i)), κ) := by
  rw [call0 (fn := ⟨1, 1, Pr.b_is_count⟩) rfl rfl]
  simp -implicitDefEqProofs [sizeLine_eq, startS, wipeS, assignT, assign1, setAt_eq, isTy, Pr.b_is_count, whole]
def fracB (a b : Int) : Bool := decide (1 ≤ b) && (Nat.gcd a.natAbs b.natAbs == 1)
theorem comp_mapD {g : D → D} {step : D → Cells → Out (List D × Cells)} {t : Tk step} {κ : Cells} {xs : List D}
    (h : ∀ x ∈ xs, step x κ = .ok ([g x], κ)) : compD step t xs κ = .ok (xs.map g, κ) := comp_map κ xs h
theorem all_is {α : Type} {b : Option Nat} {f : α → Bool} {xs : List α} {t : Bool} (h : xs.all f = t) : blt1D .all (.ol b (xs.map fun x => .bl (f x))) = some (.fz (.bl t)) := by
  rw [all_map, h]
theorem comp_filterD {p : D → Bool} {g : D → D} {step : D → Cells → Out (List D × Cells)} {t : Tk step} {κ : Cells} {xs : List D}
    (h : ∀ x ∈ xs, step x κ = .ok (if p x then [g x] else [], κ)) : compD step t xs κ = .ok ((xs.filter p).map g, κ) := comp_filter κ xs h
theorem frac_ok (n : Nat) (a b : Int) (κ : Cells) : callN P0 (n + 2) 2 [.tup [.int a, .int b]] κ = .ok (.bl (fracB a b), κ) := by
  rw [call0 (fn := ⟨1, 2, Pr.b_is_fraction⟩) rfl rfl]
  simp -implicitDefEqProofs [sizeLine_eq, startS, wipeS, assignT, assign1, setAt_eq, isTy, Pr.b_is_fraction]
  rw [comp_mapD (g := fun x => .bl (whole x)) (by
    intro x hx
    have hx : hasTy x = true := by
      simp only [List.not_mem_nil, or_false, List.mem_cons] at hx
      rcases hx with rfl | rfl <;> simp
    simp -implicitDefEqProofs [sizeLine_eq, startS, wipeS, assignT, assign1, setAt_eq, isTy, hx])]
  by_cases hb : 1 ≤ b
  · simp -implicitDefEqProofs [sizeLine_eq, startS, wipeS, assignT, assign1, setAt_eq, isTy, blt1D, asBools, whole, hb, fracB]
    rw [Bool.eq_iff_iff]
    simp
    omega
  · simp -implicitDefEqProofs [sizeLine_eq, startS, wipeS, assignT, assign1, setAt_eq, isTy, blt1D, asBools, whole, hb, fracB]
def powB (a b : Int) : Bool := fracB a b && decide (a ≠ 0)
def triD (o a b : Int) : D := .tup [.int o, .int a, .int b]
theorem cut31 (a b c : D) : cutD [a, b, c] (some 1) none = [b, c] := rfl
theorem term_ok (n : Nat) (o a b : Int) (κ : Cells) : callN P0 (n + 3) 8 [triD o a b] κ = .ok (.bl (decide (0 ≤ o) && powB a b), κ) := by
  rw [call0 (fn := ⟨1, 1, Pr.b_is_term⟩) rfl rfl]
  have e := frac_ok n a b κ
  have e2 := count_ok n o κ
  by_cases ho : 0 ≤ o
  · rw [decide_eq_true ho] at e2
    cases h : fracB a b <;> rw [h] at e <;> simp -implicitDefEqProofs [sizeLine_eq, startS, wipeS, assignT, assign1, setAt_eq, isTy, Pr.b_is_term, triD, cut31, e, e2, powB, h, ho] <;> (rw [Bool.eq_iff_iff]; simp)
  · rw [decide_eq_false ho] at e2
    simp -implicitDefEqProofs [sizeLine_eq, startS, wipeS, assignT, assign1, setAt_eq, isTy, Pr.b_is_term, triD, e2, ho]
/-- ascending, place by place -/
def ascB : List Int → Bool
  | a :: b :: r => decide (a < b) && ascB (b :: r)
  | _ => true
theorem ascB_iff : ∀ l : List Int, ascB l = true ↔ l.Pairwise (· < ·)
  | [] => by simp [ascB]
  | [a] => by simp [ascB]
  | a :: b :: r => by
    rw [ascB, Bool.and_eq_true, ascB_iff (b :: r), decide_eq_true_iff]
    constructor
    · rintro ⟨h1, h2⟩
      refine List.pairwise_cons.mpr ⟨fun x hx => ?_, h2⟩
      rcases List.mem_cons.mp hx with e | e
      · subst e; exact h1
      · have := (List.pairwise_cons.mp h2).1 x e
        omega
    · intro h
      have h := List.pairwise_cons.mp h
      exact ⟨h.1 b (by simp), h.2⟩
/-- an item of what may be terms: a triple, or a list -/
structure It where
  t : Bool
  o : Int
  a : Int
  b : Int
def It.d (e : It) : D := if e.t then triD e.o e.a e.b else .lst [.int e.o, .int e.a, .int e.b]
def It.ok (e : It) : Bool := e.t && powB e.a e.b
def okT (L : List It) : Bool := L.all It.ok && ascB (L.map (·.o))
theorem asc_zip : ∀ L : List It, (∀ e ∈ L, e.t = true) → ((zipD (L.map It.d) (L.map It.d).tail).map fun x => match x with
    | .tup [.tup (.int o :: _), .tup (.int o' :: _)] => D.bl (decide (o < o'))
    | _ => .bl false) = ((L.zip L.tail).map fun p => D.bl (decide (p.1.o < p.2.o)))
  | [], _ => rfl
  | [e], _ => rfl
  | e :: e' :: L, h => by
    have ih := asc_zip (e' :: L) fun x hx => h x (by simp [hx])
    have h1 := h e (by simp)
    have h2 := h e' (by simp)
    simp only [List.map_cons, List.tail_cons, zipD, List.zip_cons_cons] at ih ⊢
    rw [ih]
    simp [It.d, h1, h2, triD]
theorem asc_all : ∀ L : List It, (L.zip L.tail).all (fun p => decide (p.1.o < p.2.o)) = ascB (L.map (·.o))
  | [] => rfl
  | [e] => rfl
  | e :: e' :: L => by
    have ih := asc_all (e' :: L)
    simp only [List.tail_cons, List.zip_cons_cons, List.all_cons, List.map_cons, ascB] at ih ⊢
    rw [ih]
theorem zip_items : ∀ L : List It, zipD (L.map It.d) (L.map It.d).tail = (L.zip L.tail).map fun p => .tup [p.1.d, p.2.d]
  | [] => rfl
  | [e] => rfl
  | e :: e' :: L => by
    have ih := zip_items (e' :: L)
    simp only [List.map_cons, List.tail_cons, zipD, List.zip_cons_cons] at ih ⊢
    rw [ih]
/-- a worth's items -/
def itW (w : W) : List It := w.map fun p => ⟨true, p.1, p.2.num, p.2.den⟩
theorem itW_d (w : W) : wD w = .tup ((itW w).map It.d) := by
  unfold wD itW
  rw [List.map_map]
  rfl
theorem powB_rat {q : Rat} (h : q ≠ 0) : powB q.num q.den = true := by
  have h1 : Nat.gcd q.num.natAbs q.den = 1 := q.reduced
  have h2 := den0' q
  unfold powB fracB
  rw [decide_eq_true (show 1 ≤ (q.den : Int) by omega), Int.natAbs_natCast, h1, decide_eq_true (num0 h)]
  rfl
theorem Can.okT {w : W} (h : Can w) : R.okT (itW w) = true := by
  unfold R.okT
  rw [Bool.and_eq_true, ascB_iff]
  refine ⟨List.all_eq_true.mpr fun e he => ?_, ?_⟩
  · obtain ⟨p, hp, rfl⟩ := List.mem_map.mp he
    unfold It.ok
    rw [powB_rat (h.nz p hp)]
    rfl
  · unfold itW
    rw [List.map_map, List.pairwise_map]
    exact h.asc
theorem worth_ok (n : Nat) (w : W) (κ : Cells) (h : Can w) (h0 : ∀ p ∈ w, 0 ≤ p.1) (hl : w.length ≤ 1000) : callN P0 (n + 4) 9 [wD w] κ = .ok (.bl true, κ) := by
  rw [call0 (fn := ⟨1, 4, Pr.b_is_worth⟩) rfl rfl, itW_d]
  have hL := h.okT
  have hl2 : (itW w).length < 16777216 := by unfold itW; rw [List.length_map]; omega
  have hz : (itW w).length - 1 < 16777216 := by omega
  unfold okT at hL
  rw [Bool.and_eq_true] at hL
  have h1 : ∀ e ∈ itW w, e.t = true ∧ (decide (0 ≤ e.o) && powB e.a e.b) = true := fun e he => by
    obtain ⟨p, hp, rfl⟩ := List.mem_map.mp he
    refine ⟨rfl, ?_⟩
    show (decide (0 ≤ p.1) && powB p.2.num p.2.den) = true
    rw [decide_eq_true (h0 p hp), powB_rat (h.nz p hp)]
    rfl
  have ha : (itW w).all (fun e => decide (0 ≤ e.o) && powB e.a e.b) = true := List.all_eq_true.mpr fun e he => (h1 e he).2
  have hc : cutD ((itW w).map It.d) (some 1) none = ((itW w).map It.d).tail := by
    generalize itW w = L
    cases L with
    | nil => rfl
    | cons e L => rw [show (1 : Int) = ((1 : Nat) : Int) from rfl, cut_hi _ 1 (by simp)]; rfl
  have hw : ((itW w).zip (itW w).tail).all (fun p => decide (p.1.o < p.2.o)) = true := by rw [asc_all, hL.2]
  generalize itW w = L at *
  simp -implicitDefEqProofs [sizeLine_eq, startS, wipeS, assignT, assign1, setAt_eq, isTy, Pr.b_is_worth]
  rw [comp_mapA (f := It.d) (g := fun e => .bl (decide (0 ≤ e.o) && powB e.a e.b)) (fun e he => ?_)]
  · simp -implicitDefEqProofs [sizeLine_eq, startS, wipeS, assignT, assign1, setAt_eq, isTy, hl2, all_is ha, slc_tup, hc, zip_items]
    rw [comp_mapA (f := fun p : It × It => D.tup [p.1.d, p.2.d]) (g := fun p => .bl (decide (p.1.o < p.2.o))) (fun p hp => ?_)]
    · simp -implicitDefEqProofs [sizeLine_eq, startS, wipeS, assignT, assign1, setAt_eq, isTy, hz, all_is hw]
    · have g1 := (h1 p.1 (List.of_mem_zip (show (p.1, p.2) ∈ L.zip L.tail from hp)).1).1
      have g2 := (h1 p.2 (List.mem_of_mem_tail (List.of_mem_zip (show (p.1, p.2) ∈ L.zip L.tail from hp)).2)).1
      simp -implicitDefEqProofs [sizeLine_eq, startS, wipeS, assignT, assign1, setAt_eq, isTy, It.d, g1, g2, triD]
  · have e1 := (h1 e he).1
    have e2 := term_ok n e.o e.a e.b κ
    simp -implicitDefEqProofs [sizeLine_eq, startS, wipeS, assignT, assign1, setAt_eq, isTy, It.d, e1, e2]
theorem sign_ok (n : Nat) (p : Int × Rat) (w : W) (κ : Cells) : callN P0 (n + 1) 14 [wD (p :: w)] κ = .ok (.int (if 0 < p.2.num then 1 else -1), κ) := by
  rw [call0 (fn := ⟨1, 1, Pr.b_sign_of⟩) rfl rfl]
  have e := eqD_wnil (p :: w)
  have hw : wD (p :: w) = .tup (tD p :: w.map tD) := rfl
  rw [hw, List.isEmpty_cons] at e
  rw [hw]
  simp only [tD] at e
  by_cases h : 0 < p.2.num
  · simp -implicitDefEqProofs [sizeLine_eq, startS, wipeS, assignT, assign1, setAt_eq, isTy, Pr.b_sign_of, e, tD, h]
  · simp -implicitDefEqProofs [sizeLine_eq, startS, wipeS, assignT, assign1, setAt_eq, isTy, Pr.b_sign_of, e, tD, h]
theorem quot_ok (n : Nat) (top foot : W) (κ : Cells) (ht : Can top) (hf : Can foot) (t0 : ∀ p ∈ top, 0 ≤ p.1) (f0 : ∀ p ∈ foot, 0 ≤ p.1) {p : Int × Rat} {ft : W} (hd : foot = p :: ft) (hp : 0 < p.2.num) (lt : top.length ≤ 1000) (lf : foot.length ≤ 1000) :
    callN P0 (n + 5) 15 [.tup [wD top, wD foot]] κ = .ok (.bl true, κ) := by
  rw [call0 (fn := ⟨1, 1, Pr.b_is_quotient⟩) rfl rfl]
  have e1 := worth_ok n top κ ht t0 lt
  have e2 := worth_ok n foot κ hf f0 lf
  have e3 := sign_ok (n + 3) p ft κ
  rw [if_pos hp, ← hd] at e3
  simp -implicitDefEqProofs [sizeLine_eq, startS, wipeS, assignT, assign1, setAt_eq, isTy, Pr.b_is_quotient, e1, e2, e3]
theorem needq_ok (n : Nat) (d : D) (κ : Cells) (h : callN P0 n 15 [d] κ = .ok (.bl true, κ)) : callN P0 (n + 1) 16 [d] κ = .ok (.non, κ) := by
  rw [call0 (fn := ⟨1, 1, Pr.b_need_quotient⟩) rfl rfl]
  simp -implicitDefEqProofs [sizeLine_eq, startS, wipeS, assignT, assign1, setAt_eq, isTy, Pr.b_need_quotient, h]
theorem needm_ok (n : Nat) (i : Int) (κ : Cells) : callN P0 (n + 2) 17 [.int i] κ = .ok (.non, κ) := by
  rw [call0 (fn := ⟨1, 1, Pr.b_need_most⟩) rfl rfl]
  simp -implicitDefEqProofs [sizeLine_eq, startS, wipeS, assignT, assign1, setAt_eq, isTy, Pr.b_need_most, whole]
end R

/-! Q16: whether a value is the beginning of a series. -/
namespace R
open PySem L2
open scoped Rat
theorem head_gt {R : W} (h : Can R) (M : Int) : (R = [] ∨ ∃ p r, R = p :: r ∧ M < p.1) ↔ ∀ k, k ≤ M → cf R k = 0 := by
  constructor
  · rintro (rfl | ⟨p, r, rfl, hp⟩) k hk
    · rfl
    · exact cf_low h (by omega)
  · intro hk
    cases R with
    | nil => exact .inl rfl
    | cons p r =>
      refine .inr ⟨p, r, rfl, ?_⟩
      rcases Int.lt_or_le M p.1 with z | z
      · exact z
      · have := hk p.1 z
        rw [cf_head h] at this
        exact absurd this (h.nz p (by simp))
/-- what is left tells whether terms are the series -/
theorem exp_by_left {top foot T T' R : W} {f most b : Int} {b0 : Rat} (hf : Foot foot f b0) (h : Exp top foot f most T) (cT : Can T') (cR : Can R) (e : ∀ k, cf R k = cf top (k - b) - conv (cf T') foot (k - b)) (hl : ∀ t ∈ T', t.1 ≤ most) :
    (R = [] ∨ ∃ p r, R = p :: r ∧ most + f + b < p.1) ↔ T' = T := by
  rw [head_gt cR]
  constructor
  · intro hk
    refine exp_unique hf ⟨cT, hl, fun k hk' => ?_⟩ h
    have := hk (k + b) (by omega)
    rw [e, show k + b - b = k by omega] at this
    grind
  · rintro rfl k hk
    rw [e, h.eq (k - b) (by omega)]
    grind
theorem okT_W {L : List It} (h : okT L = true) : ∃ T : W, Can T ∧ L = itW T := by
  unfold okT at h
  rw [Bool.and_eq_true, ascB_iff, List.all_eq_true] at h
  obtain ⟨h1, h2⟩ := h
  have hp : ∀ e ∈ L, e.t = true ∧ (e.a /. e.b).num = e.a ∧ ((e.a /. e.b).den : Int) = e.b ∧ e.a /. e.b ≠ 0 := fun e he => by
    have := h1 e he
    unfold It.ok powB fracB at this
    simp only [Bool.and_eq_true, decide_eq_true_eq, beq_iff_eq] at this
    obtain ⟨g1, ⟨g2, g3⟩, g4⟩ := this
    have g5 : e.b.gcd e.a = 1 := by rw [Int.gcd_comm]; exact g3
    have hb : e.b ≠ 0 := by omega
    have n1 : (e.a /. e.b).num = e.a := by
      rw [Rat.num_divInt, g5, Int.sign_eq_one_of_pos (by omega)]
      simp
    refine ⟨g1, n1, ?_, fun z => g4 ?_⟩
    · rw [Rat.den_divInt, if_neg hb, g5]
      simp
      omega
    · rw [← n1, z]; rfl
  refine ⟨L.map fun e => (e.o, e.a /. e.b), ⟨?_, fun p hp' => ?_⟩, ?_⟩
  · rw [List.pairwise_map] at h2 ⊢
    exact h2
  · obtain ⟨e, he, rfl⟩ := List.mem_map.mp hp'
    exact (hp e he).2.2.2
  · unfold itW
    rw [List.map_map]
    conv => lhs; rw [← List.map_id L]
    refine List.map_congr_left fun e he => ?_
    obtain ⟨g1, g2, g3, _⟩ := hp e he
    obtain ⟨t, o, a, b⟩ := e
    simp only at g1 g2 g3
    simp only [id, Function.comp, It.mk.injEq]
    exact ⟨g1, trivial, g2.symm, g3.symm⟩
theorem lastW {w : W} {p : Int × Rat} (h : w.getLast? = some p) : atI (w.map tD) (-1) = some (tD p) := atI_last (by rw [List.getLast?_map, h]; rfl)
theorem can_last {w : W} (h : Can w) {p : Int × Rat} (hp : w.getLast? = some p) : ∀ q ∈ w, q.1 ≤ p.1 := by
  obtain ⟨ys, rfl⟩ := List.getLast?_eq_some_iff.mp hp
  intro q hq
  rcases List.mem_append.mp hq with z | z
  · have := (List.pairwise_append.mp h.asc).2.2 q z p (by simp)
    omega
  · simp only [List.mem_singleton] at z
    subst z
    omega
end R

/-! Q17: the law's own reading of terms. -/
namespace R
open PySem L2
open scoped Rat
/-- a loop that may end with an answer -/
theorem good_forR {I : List D → Sl → Cells → Prop} {step : D → Sl → Cells → Res} {t : Tk step} {f : Sl → Cells → Res} {t' : Tk f} {xs : List D} {σ : Sl} {κ : Cells} {Q : D → Cells → Prop}
    (h0 : I xs σ κ) (hs : ∀ (x : D) (xs : List D) (σ : Sl) (κ : Cells), I (x :: xs) σ κ → (∀ J : Sl → Cells → Prop, (∀ σ κ, I xs σ κ → J σ κ) → NxTo (step x σ κ) J) ∨ ∃ d κ', step x σ κ = .rt d κ' ∧ Q d κ')
    (g : ∀ σ κ, I [] σ κ → Good (f σ κ) Q) : Good (Res.then f t' (forD step t xs σ κ)) Q := by
  show Good (Res.then f t' (forLoop step xs σ κ)) Q
  induction xs generalizing σ κ with
  | nil => exact g σ κ h0
  | cons x xs ih =>
    rw [forLoop]
    rcases hs x xs σ κ h0 with h | ⟨d, κ', e, hq⟩
    · obtain ⟨σ', κ', e, hi⟩ := h _ fun _ _ h => h
      rw [e]
      exact ih hi
    · rw [e]
      exact (good_rt d κ' Q).mpr hq
theorem c_isntN (x : D) : cmpD .isnt x .non = some (!isN x) := by cases x <;> rfl
theorem isN_int (i : Int) : isN (.int i) = false := rfl
theorem isN_non : isN .non = true := rfl
/-- what has been read so far -/
def preT (P : List It) : W := P.map fun e => (e.o, e.a /. e.b)
/-- the number of the last item -/
def lastO (P : List It) : Option D := match P.getLast? with
  | some e => some (.int e.o)
  | none => some .non
theorem eqD_lnil : eqD (.lst []) (.lst []) = some true := by
  simp [eqD, D.py, D.pys, SeqAt.shaped, PyData.canLay0, PyData.canLayAll0, PyData.depth, PyData.depthAll, PyData.eqv, PyData.eqvAll]
theorem powB_split (a b : Int) : powB a b = (decide (1 ≤ b) && (Nat.gcd a.natAbs b.natAbs == 1) && decide (a ≠ 0)) := rfl
/-- whether an item may stand behind others -/
def nextOk (P : List It) (e : It) : Bool := e.ok && (match P.getLast? with
  | some p => decide (p.o < e.o)
  | none => true)
theorem asc_snoc : ∀ (l : List Int) (x : Int), ascB (l ++ [x]) = (ascB l && (match l.getLast? with
  | some y => decide (y < x)
  | none => true))
  | [], x => rfl
  | [a], x => by simp [ascB]
  | a :: b :: r, x => by
    have ih := asc_snoc (b :: r) x
    show (decide (a < b) && ascB (b :: r ++ [x])) = _
    rw [ih, ascB, List.getLast?_cons_cons, Bool.and_assoc]
theorem okT_snoc (P : List It) (e : It) : okT (P ++ [e]) = (okT P && nextOk P e) := by
  unfold okT nextOk
  rw [List.all_append, List.map_append, List.map_singleton, asc_snoc, List.getLast?_map]
  have : ([e].all It.ok) = e.ok := by simp
  rw [this]
  cases P.getLast? with
  | none => simp [Bool.and_comm, Bool.and_left_comm, Bool.and_assoc]
  | some p => simp [Bool.and_comm, Bool.and_left_comm, Bool.and_assoc]
theorem okT_pre {P S : List It} (h : okT (P ++ S) = true) : okT P = true := by
  unfold okT at *
  rw [Bool.and_eq_true, ascB_iff] at *
  rw [List.all_append, Bool.and_eq_true, List.map_append, List.pairwise_append] at h
  exact ⟨h.1.1, h.2.1⟩
end R

/-! Q18: drawn worths. -/
namespace R
open PySem L2
open scoped Rat
structure Drw (B many : Nat) (most : Int) (K : W) : Prop where
  d : Dct K
  ne : K ≠ []
  num : ∀ p ∈ K, p.2.num.natAbs ≤ B
  den : ∀ p ∈ K, p.2.den ≤ B
  key : ∀ p ∈ K, 0 ≤ p.1 ∧ p.1 ≤ most
  len : K.length ≤ many
theorem set_mem {K : W} {k : Int} {v : Rat} {p : Int × Rat} (h : p ∈ setW K k v) : p ∈ K ∨ p = (k, v) := by
  unfold setW at h
  split at h
  · obtain ⟨q, hq, rfl⟩ := List.mem_map.mp h
    split
    · rename_i e; exact .inr (by rw [e])
    · exact .inl hq
  · rcases List.mem_append.mp h with z | z
    · exact .inl z
    · exact .inr (by simpa using z)
theorem set_len (K : W) (k : Int) (v : Rat) : (setW K k v).length ≤ K.length + 1 := by
  unfold setW
  split <;> simp
/-- what is drawn one by one -/
structure Drp (B many : Nat) (most : Int) (K : W) : Prop where
  d : Dct K
  num : ∀ p ∈ K, p.2.num.natAbs ≤ B
  den : ∀ p ∈ K, p.2.den ≤ B
  key : ∀ p ∈ K, 0 ≤ p.1 ∧ p.1 ≤ most
  len : K.length ≤ many
theorem Drp.set {B many : Nat} {most : Int} {K : W} (h : Drp B many most K) {k : Int} {v : Rat} (hk : 0 ≤ k ∧ k ≤ most) (hv : v ≠ 0) (h1 : v.num.natAbs ≤ B) (h2 : v.den ≤ B) : Drp B (many + 1) most (setW K k v) := by
  refine ⟨⟨nd_put h.d.nd k v, fun p hp => ?_⟩, fun p hp => ?_, fun p hp => ?_, fun p hp => ?_, by have := set_len K k v; have := h.len; omega⟩
  · rcases set_mem hp with z | rfl
    · exact h.d.nz p z
    · exact hv
  · rcases set_mem hp with z | rfl
    · exact h.num p z
    · exact h1
  · rcases set_mem hp with z | rfl
    · exact h.den p z
    · exact h2
  · rcases set_mem hp with z | rfl
    · exact h.key p z
    · exact hk
theorem set_ne (K : W) (k : Int) (v : Rat) : setW K k v ≠ [] := by
  intro h
  have := keys_put K k v
  rw [h] at this
  split at this
  · rename_i z; rw [← this] at z; simp [keysW] at z
  · simp [keysW] at this
theorem part_bd {a b : Int} {B : Nat} (hb : 0 < b) (ha : a ≠ 0) (h1 : a.natAbs ≤ B) (h2 : b.natAbs ≤ B) : a /. b ≠ 0 ∧ (a /. b).num.natAbs ≤ B ∧ (a /. b).den ≤ B := by
  have e1 : (a /. b).num.natAbs ≤ a.natAbs := by
    rw [Rat.num_divInt, Int.sign_eq_one_of_pos hb, Int.one_mul]
    exact Int.natAbs_ediv_le_natAbs _ _
  have e2 : (a /. b).den ≤ b.natAbs := by
    rw [Rat.den_divInt, if_neg (by omega)]
    exact Nat.div_le_self _ _
  refine ⟨fun z => ?_, by omega, by omega⟩
  have e := Rat.num_divInt a b
  rw [z, Int.sign_eq_one_of_pos hb, Int.one_mul] at e
  have hd : (b.gcd a : Int) ∣ a := Int.gcd_dvd_right b a
  have := Int.ediv_mul_cancel hd
  rw [← e] at this
  simp at this
  exact ha this.symm
def negK (K : W) : W := K.map fun p => (p.1, -p.2)
theorem negK_eq (K : W) : negK K = negW K := rfl
theorem keys_neg (K : W) : keysW (negW K) = keysW K := by unfold keysW negW; rw [List.map_map]; rfl
theorem Drw.neg {B many : Nat} {most : Int} {K : W} (h : Drw B many most K) : Drw B many most (negW K) := by
  refine ⟨⟨by rw [keys_neg]; exact h.d.nd, fun p hp => ?_⟩, fun z => h.ne (by simpa [negW] using z), fun p hp => ?_, fun p hp => ?_, fun p hp => ?_, by simpa [negW] using h.len⟩
  all_goals obtain ⟨q, hq, rfl⟩ := List.mem_map.mp hp
  · have := h.d.nz q hq
    show -q.2 ≠ 0
    grind
  · show (-q.2).num.natAbs ≤ B
    rw [Rat.neg_num, Int.natAbs_neg]
    exact h.num q hq
  · show (-q.2).den ≤ B
    rw [Rat.neg_den]
    exact h.den q hq
  · exact h.key q hq
theorem mn_ex {K : W} (h : K ≠ []) : ∃ f, Mn K f := by
  have : keysW K ≠ [] := by simpa [keysW] using h
  cases hm : (keysW K).min? with
  | none => exact absurd (List.min?_eq_none_iff.mp hm) this
  | some f => exact ⟨f, List.min?_eq_some_iff.mp hm⟩
theorem lt_num (q : Rat) : q.num < 0 ↔ q < 0 := by rw [← Int.not_le, ← Rat.not_le, Rat.num_nonneg]
theorem worth_tail (n r : Nat) {κ : Cells} {Q : D → Cells → Prop} {B many : Nat} {most : Int} {K : W} (ha : AtW κ r K) (h : Drw B many most K) (hl : many ≤ 60) (above : Bool) (a b c d e f : Option O)
    (g : ∀ (r' : Nat) (κ' : Cells) (K' : W), Gr κ κ' → AtW κ' r' K' → Drw B many most K' → r ≤ r' → (above = true → ∀ m, Mn K' m → 0 < cf K' m) → Q (.obj r') κ') :
    Good (exec (Gm n) (sR 2 Pr.b__law_small_worth) [a, b, c, some (.fz (.bl above)), some (.fz (.obj r)), e, f, none] κ) Q := by
  obtain ⟨m, hm⟩ := mn_ex h.ne
  have kmn := kv_min ha.open_ hm
  have el := ix_kd h.d hm.1
  have hl2 : K.length < 16777216 := by have := h.len; omega
  cases above with
  | false =>
    simp -implicitDefEqProofs [sizeLine_eq, startS, wipeS, assignT, assign1, setAt_eq, isTy, sR, Pr.b__law_small_worth]
    exact g r κ K (Gr.rfl' κ) ha h (Nat.le_refl _) (by simp)
  | true =>
    by_cases hneg : (cf K m).num < 0
    · simp -implicitDefEqProofs [sizeLine_eq, startS, wipeS, assignT, assign1, setAt_eq, isTy, sR, Pr.b__law_small_worth, kmn, -kv_min', ha.read, el, frD, hneg, ha.open_, lk_fold, lk_lockd ha.lt, kd_keys]
      rw [comp_keys (K := K) (g := fun p => .tup [.int p.1, frD (-p.2)]) (fun p hp => ?_)]
      · have e1 : (K.map fun p => D.tup [.int p.1, frD (-p.2)]) = (negW K).map fun p => .tup [.int p.1, frD p.2] := by unfold negW; rw [List.map_map]; rfl
        rw [e1]
        have hl3 : (negW K).length < 16777216 := by simpa [negW] using hl2
        simp -implicitDefEqProofs [sizeLine_eq, startS, wipeS, assignT, assign1, setAt_eq, isTy, hl3, lk_self ha, dcp_pairs _ (h.neg.d.nd), -dcp_lst]
        refine g _ _ (negW K) (Gr.one κ _) (AtW.last κ (negW K)) h.neg (Nat.le_of_lt ha.lt) fun _ m' hm' => ?_
        have : m' = m := by
          have h1 := hm'.2 m (by rw [keys_neg]; exact hm.1)
          have h2 := hm.2 m' (by rw [← keys_neg]; exact hm'.1)
          omega
        subst this
        rw [cf_neg]
        have := (lt_num _).mp hneg
        grind
      · have el := look_mem h.d hp
        simp -implicitDefEqProofs [sizeLine_eq, startS, wipeS, assignT, assign1, setAt_eq, isTy, lk_rd ha.lt, el, frD]
    · simp -implicitDefEqProofs [sizeLine_eq, startS, wipeS, assignT, assign1, setAt_eq, isTy, sR, Pr.b__law_small_worth, kmn, -kv_min', ha.read, el, frD, hneg]
      refine g r κ K (Gr.rfl' κ) ha h (Nat.le_refl _) fun _ m' hm' => ?_
      have : m' = m := by
        have h1 := hm'.2 m hm.1
        have h2 := hm.2 m' hm'.1
        omega
      subst this
      have h1 := h.d.ne hm.1
      have h2 := fun z => hneg ((lt_num _).mpr z)
      grind
/-- where a fresh dict stands -/
theorem AtW.penned {κ κ' : Cells} {r : Nat} {K : W} (h : AtW κ r K) (h0 : 1 ≤ r) (u : Up κ κ') : AtW κ' r K := h.up h0 u
theorem up_set {κ : Cells} {r : Nat} {K K' : W} (h : AtW κ r K) : AtW (κ.set r ⟨false, .dk (kd K')⟩) r K' := by
  unfold AtW
  rw [List.getElem?_set_self h.lt]
/-- all but the pen and one cell stay -/
def UpX (r : Nat) (κ κ' : Cells) : Prop := ∀ n c, n + 1 ≠ r → κ[n + 1]? = some c → κ'[n + 1]? = some c
theorem UpX.of {r : Nat} {a b : Cells} (h : Up a b) : UpX r a b := fun n c _ e => h n c e
theorem UpX.trans {r : Nat} {a b c : Cells} (h : UpX r a b) (k : UpX r b c) : UpX r a c := fun n x ne e => k n x ne (h n x ne e)
theorem UpX.set {r : Nat} (κ : Cells) (c : Cell) : UpX r κ (κ.set r c) := fun n x ne e => by
  rw [List.getElem?_set_ne (fun z => ne z.symm)]
  exact e
theorem UpX.up {r : Nat} {κ κ1 κ' : Cells} (h : UpX r κ1 κ') (g : Up κ κ1) (hl : κ.length ≤ r) : Up κ κ' := fun n c e => h n c (by
  have := (List.getElem?_eq_some_iff.mp e).1
  omega) (g n c e)
theorem PenK.set {N : Nat} {κ : Cells} (h : PenK N κ) {r : Nat} (h0 : 1 ≤ r) (c : Cell) : PenK N (κ.set r c) := by
  obtain ⟨p, rest, rfl, hp⟩ := h
  obtain ⟨m, rfl⟩ : ∃ m, r = m + 1 := ⟨r - 1, by omega⟩
  exact ⟨p, rest.set m c, rfl, hp⟩
theorem PenK.pos {N : Nat} {κ : Cells} (h : PenK N κ) : 1 ≤ κ.length := by
  obtain ⟨p, rest, rfl, hp⟩ := h
  simp [pc]
theorem pick_int (n : Nat) {κ : Cells} {N : Nat} (hk : PenK N κ) (hN : N ≤ 1000000) (is : List Int) (h0 : is ≠ []) (hl : is.length ≤ 1000) :
    ∃ (i : Int) (κ' : Cells), callN P0 (n + 2) 29 [.obj 0, .lst (is.map .int)] κ = .ok (.int i, κ') ∧ i ∈ is ∧ PenK (N + 1) κ' ∧ Up κ κ' := by
  obtain ⟨x, κ', e, hx, h1, h2⟩ := pick_ok n hk hN (is.map .int) (by simpa using h0) (by simpa using hl)
  obtain ⟨i, hi, rfl⟩ := List.mem_map.mp hx
  exact ⟨i, κ', e, hi, h1, h2⟩
theorem Drp.up {B many many' : Nat} {most : Int} {K : W} (h : Drp B many most K) (hm : many ≤ many') : Drp B many' most K := ⟨h.d, h.num, h.den, h.key, Nat.le_trans h.len hm⟩
theorem rng_one {m : Nat} (h : m ≤ 100) : rangeD 0 (1 + (m : Int)) = some ((List.range (1 + m)).map fun (k : Nat) => D.int (k : Int)) := by
  have := range_nat (n := 1 + m) (by omega)
  rwa [Int.natCast_add, Int.natCast_one] at this
theorem smallw_ok (n : Nat) {κ : Cells} {N : Nat} (hk : PenK N κ) (hN : N ≤ 900000) {many most : Nat} (h1 : 1 ≤ many) (h2 : many ≤ 20) (h3 : most ≤ 100) (above : Bool) :
    ∃ (r : Nat) (κ' : Cells) (K : W), callN P0 (n + 4) 46 [.obj 0, .int many, .int most, .bl above] κ = .ok (.obj r, κ') ∧ AtW κ' r K ∧ κ.length ≤ r ∧ Drw 99 many most K ∧ PenK (N + 150) κ' ∧ Up κ κ' ∧ (above = true → ∀ m, Mn K m → 0 < cf K m) := by
  suffices h : ∃ d κ', callN P0 (n + 4) 46 [.obj 0, .int many, .int most, .bl above] κ = .ok (d, κ') ∧ (∃ (r : Nat) (K : W), d = .obj r ∧ AtW κ' r K ∧ κ.length ≤ r ∧ Drw 99 many most K ∧ PenK (N + 150) κ' ∧ Up κ κ' ∧ (above = true → ∀ m, Mn K m → 0 < cf K m)) by
    obtain ⟨d, κ', h, r, K, rfl, h2⟩ := h
    exact ⟨r, κ', K, h, h2⟩
  refine good_callQ (fn := ⟨4, 8, Pr.b__law_small_worth⟩) rfl rfl fun Q hQ => ?_
  have hpos := hk.pos
  have tl := fun (κ1 : Cells) (K : W) (ha : AtW κ1 κ.length K) (hd : Drw 99 many most K) (hp : PenK (N + 150) κ1) (hu : Up κ κ1) (e f : Option O) =>
    worth_tail (n + 3) κ.length (Q := Q) ha hd (by omega) above (some (.fz (.obj 0))) (some (.fz (.int many))) (some (.fz (.int most))) none e f fun r' κ' K' g1 g2 g3 g4 g5 =>
      hQ _ _ ⟨r', K', rfl, g2, g4, g3, hp.gr g1, hu.trans g1.up, g5⟩
  rw [show (⟨4, 8, Pr.b__law_small_worth⟩ : Fn).body = .cons (sN 0 Pr.b__law_small_worth) (.cons (sN 1 Pr.b__law_small_worth) (sR 2 Pr.b__law_small_worth)) from rfl]
  generalize sR 2 Pr.b__law_small_worth = T at tl
  have g0 := Gr.one κ ⟨false, .dk (kd [])⟩
  have k0 := hk.gr g0
  have a0 := AtW.last κ []
  have u0 := g0.up
  have e0 : kd [] = [] := rfl
  rw [e0] at g0 k0 u0
  unfold AtW at a0
  rw [e0] at a0
  obtain ⟨k, κ1, e1, b1, b2, k1, u1⟩ := draw' (n + 2) k0 (by omega) many (by omega) (by omega)
  obtain ⟨m, rfl⟩ := Int.eq_ofNat_of_zero_le b1
  have a0' : AtW (κ ++ [(⟨false, .dk []⟩ : Cell)]) κ.length [] := a0
  have a1 := a0'.up hpos u1
  simp -implicitDefEqProofs [sizeLine_eq, startS, wipeS, assignT, assign1, setAt_eq, isTy, Pr.b__law_small_worth, sN, e1, rng_one (show m ≤ 100 by omega)]
  refine good_forJ (I := fun j σ κ' => ∃ (K : W) (u v : Option D), j ≤ 1 + m ∧ σ = [some (.fz (.obj 0)), some (.fz (.int many)), some (.fz (.int most)), some (.fz (.bl above)), some (.fz (.obj κ.length)), Option.map O.fz u, Option.map O.fz v, none] ∧
    AtW κ' κ.length K ∧ Drp 99 j most K ∧ (1 ≤ j → K ≠ []) ∧ PenK (N + 1 + 6 * j) κ' ∧ UpX κ.length κ1 κ') ?_ ?_ ?_
  · exact ⟨[], none, none, Nat.zero_le _, rfl, a1, ⟨Dct.nil, by simp, by simp, by simp, by simp⟩, by simp, k1, fun n c _ e => e⟩
  · rintro j x σ κ2 hx ⟨K, u, v, hj, rfl, a2, d2, n2, k2, u2⟩ J hJ
    obtain ⟨hj, rfl⟩ := get_range hx
    obtain ⟨i3, κ3, e3, m3, k3, u3⟩ := pick_int (n + 1) k2 (by omega) [3, 9, 99] (by simp) (by simp)
    have b3 : 1 ≤ i3 ∧ i3 ≤ 99 := by simp only [List.mem_cons, List.not_mem_nil, or_false] at m3; omega
    obtain ⟨i4, κ4, e4, c4, d4, k4, u4⟩ := draw' (n + 2) k3 (by omega) i3 (by omega) (by omega)
    obtain ⟨i5, κ5, e5, c5, d5, k5, u5⟩ := draw' (n + 2) k4 (by omega) 3 (by omega) (by omega)
    obtain ⟨i6, κ6, e6, m6, k6, u6⟩ := pick_int (n + 1) k5 (by omega) [1, 1, 4, 99] (by simp) (by simp)
    have b6 : 1 ≤ i6 ∧ i6 ≤ 99 := by simp only [List.mem_cons, List.not_mem_nil, or_false] at m6; omega
    obtain ⟨i7, κ7, e7, c7, d7, k7, u7⟩ := draw' (n + 2) k6 (by omega) i6 (by omega) (by omega)
    obtain ⟨i8, κ8, e8, c8, d8, k8, u8⟩ := draw' (n + 2) k7 (by omega) ((most : Int) + 1) (by omega) (by omega)
    have uu : Up κ2 κ8 := u3.trans (u4.trans (u5.trans (u6.trans (u7.trans u8))))
    have a8 := a2.up hpos uu
    have hnum : ∀ s : Int, s ≠ 0 → s.natAbs ≤ 99 → ∃ q : Rat, q = s /. (1 + i7) ∧ q ≠ 0 ∧ q.num.natAbs ≤ 99 ∧ q.den ≤ 99 := fun s h0 hs => by
      obtain ⟨z1, z2, z3⟩ := part_bd (a := s) (b := 1 + i7) (B := 99) (by omega) h0 hs (by omega)
      exact ⟨_, rfl, z1, z2, z3⟩
    have hl8 : (kd K).length < 16777216 := by rw [kd_len]; have := d2.len; omega
    have fin : ∀ q : Rat, q ≠ 0 → q.num.natAbs ≤ 99 → q.den ≤ 99 → ∀ s : Int, J [some (.fz (.obj 0)), some (.fz (.int many)), some (.fz (.int most)), some (.fz (.bl above)), some (.fz (.obj κ.length)), some (.fz (.int j)), some (.fz (.int s)), none] (κ8.set κ.length ⟨false, .dk (kd (setW K i8 q))⟩) := fun q z1 z2 z3 s =>
      hJ _ _ ⟨setW K i8 q, some (.int j), some (.int s), by omega, rfl, up_set a8, d2.set ⟨c8, by omega⟩ z1 z2 z3, fun _ => set_ne _ _ _, (k8.set hpos _).up (by omega), u2.trans ((UpX.of uu).trans (UpX.set _ _))⟩
    clear hJ
    by_cases h5 : i5 = 0
    · obtain ⟨q, hq, z1, z2, z3⟩ := hnum (-(1 + i4)) (by omega) (by omega)
      have ep := lpart_ok (n + 1) (-(1 + i4)) (1 + i7) κ7 (by omega) (show Lt2 _ _ from Nat.lt_of_lt_of_le (show _ < 2 ^ 10 by omega) (Nat.pow_le_pow_right (by decide) (by decide))) (show Lt2 _ _ from Nat.lt_of_lt_of_le (show _ < 2 ^ 10 by omega) (Nat.pow_le_pow_right (by decide) (by decide)))
      rw [← hq] at ep
      simp -implicitDefEqProofs [sizeLine_eq, startS, wipeS, assignT, assign1, setAt_eq, isTy, show callN P0 (n + 3) 29 [.obj 0, .lst [.int 3, .int 9, .int 99]] κ2 = _ from e3, e4, e5, h5, show callN P0 (n + 3) 29 [.obj 0, .lst [.int 1, .int 1, .int 4, .int 99]] κ5 = _ from e6, e7, ep, e8, a8.open_, hl8, put_kd]
      exact fin q z1 z2 z3 _
    · obtain ⟨q, hq, z1, z2, z3⟩ := hnum (1 + i4) (by omega) (by omega)
      have ep := lpart_ok (n + 1) (1 + i4) (1 + i7) κ7 (by omega) (show Lt2 _ _ from Nat.lt_of_lt_of_le (show _ < 2 ^ 10 by omega) (Nat.pow_le_pow_right (by decide) (by decide))) (show Lt2 _ _ from Nat.lt_of_lt_of_le (show _ < 2 ^ 10 by omega) (Nat.pow_le_pow_right (by decide) (by decide)))
      rw [← hq] at ep
      have h5' : (i5 == 0) = false := by simpa using h5
      simp -implicitDefEqProofs [sizeLine_eq, startS, wipeS, assignT, assign1, setAt_eq, isTy, show callN P0 (n + 3) 29 [.obj 0, .lst [.int 3, .int 9, .int 99]] κ2 = _ from e3, e4, e5, h5, h5', show callN P0 (n + 3) 29 [.obj 0, .lst [.int 1, .int 1, .int 4, .int 99]] κ5 = _ from e6, e7, ep, e8, a8.open_, hl8, put_kd]
      exact fin q z1 z2 z3 _
  · rintro σ κ' ⟨K, u, v, hj, rfl, a2, d2, n2, k2, u2⟩
    have hlen : (List.map (fun (k : Nat) => D.int (k : Int)) (List.range (1 + m))).length = 1 + m := by simp
    rw [hlen] at d2 n2 k2
    exact tl κ' K a2 ⟨d2.d, n2 (by omega), d2.num, d2.den, d2.key, by have := d2.len; omega⟩ (k2.up (by omega)) (u2.up (u0.trans u1) (Nat.le_refl _)) _ _
theorem tiny_ok (n : Nat) {κ : Cells} {N : Nat} (hk : PenK N κ) (hN : N ≤ 900000) {many most : Nat} (h1 : 1 ≤ many) (h2 : many ≤ 20) (h3 : most ≤ 100) (above : Bool) :
    ∃ (r : Nat) (κ' : Cells) (K : W), callN P0 (n + 4) 45 [.obj 0, .int many, .int most, .bl above] κ = .ok (.obj r, κ') ∧ AtW κ' r K ∧ κ.length ≤ r ∧ Drw 4 many most K ∧ PenK (N + 150) κ' ∧ Up κ κ' ∧ (above = true → ∀ m, Mn K m → 0 < cf K m) := by
  suffices h : ∃ d κ', callN P0 (n + 4) 45 [.obj 0, .int many, .int most, .bl above] κ = .ok (d, κ') ∧ (∃ (r : Nat) (K : W), d = .obj r ∧ AtW κ' r K ∧ κ.length ≤ r ∧ Drw 4 many most K ∧ PenK (N + 150) κ' ∧ Up κ κ' ∧ (above = true → ∀ m, Mn K m → 0 < cf K m)) by
    obtain ⟨d, κ', h, r, K, rfl, h2⟩ := h
    exact ⟨r, κ', K, h, h2⟩
  refine good_callQ (fn := ⟨4, 8, Pr.b__law_tiny_worth⟩) rfl rfl fun Q hQ => ?_
  have hpos := hk.pos
  have tl := fun (κ1 : Cells) (K : W) (ha : AtW κ1 κ.length K) (hd : Drw 4 many most K) (hp : PenK (N + 150) κ1) (hu : Up κ κ1) (e f : Option O) =>
    worth_tail (n + 3) κ.length (Q := Q) ha hd (by omega) above (some (.fz (.obj 0))) (some (.fz (.int many))) (some (.fz (.int most))) none e f fun r' κ' K' g1 g2 g3 g4 g5 =>
      hQ _ _ ⟨r', K', rfl, g2, g4, g3, hp.gr g1, hu.trans g1.up, g5⟩
  rw [show (⟨4, 8, Pr.b__law_tiny_worth⟩ : Fn).body = .cons (sN 0 Pr.b__law_tiny_worth) (.cons (sN 1 Pr.b__law_tiny_worth) (sR 2 Pr.b__law_small_worth)) from rfl]
  generalize sR 2 Pr.b__law_small_worth = T at tl
  have g0 := Gr.one κ ⟨false, .dk (kd [])⟩
  have k0 := hk.gr g0
  have a0 := AtW.last κ []
  have u0 := g0.up
  have e0 : kd [] = [] := rfl
  rw [e0] at g0 k0 u0
  unfold AtW at a0
  rw [e0] at a0
  obtain ⟨k, κ1, e1, b1, b2, k1, u1⟩ := draw' (n + 2) k0 (by omega) many (by omega) (by omega)
  obtain ⟨m, rfl⟩ := Int.eq_ofNat_of_zero_le b1
  have a0' : AtW (κ ++ [(⟨false, .dk []⟩ : Cell)]) κ.length [] := a0
  have a1 := a0'.up hpos u1
  simp -implicitDefEqProofs [sizeLine_eq, startS, wipeS, assignT, assign1, setAt_eq, isTy, Pr.b__law_tiny_worth, sN, e1, rng_one (show m ≤ 100 by omega)]
  refine good_forJ (I := fun j σ κ' => ∃ (K : W) (u v : Option D), j ≤ 1 + m ∧ σ = [some (.fz (.obj 0)), some (.fz (.int many)), some (.fz (.int most)), some (.fz (.bl above)), some (.fz (.obj κ.length)), Option.map O.fz u, Option.map O.fz v, none] ∧
    AtW κ' κ.length K ∧ Drp 4 j most K ∧ (1 ≤ j → K ≠ []) ∧ PenK (N + 1 + 6 * j) κ' ∧ UpX κ.length κ1 κ') ?_ ?_ ?_
  · exact ⟨[], none, none, Nat.zero_le _, rfl, a1, ⟨Dct.nil, by simp, by simp, by simp, by simp⟩, by simp, k1, fun n c _ e => e⟩
  · rintro j x σ κ2 hx ⟨K, u, v, hj, rfl, a2, d2, n2, k2, u2⟩ J hJ
    obtain ⟨hj, rfl⟩ := get_range hx
    obtain ⟨i4, κ6, e6, m6, k6, u6⟩ := pick_int (n + 1) k2 (by omega) [1, 1, 2, 3, 4, -1, -2, -3] (by simp) (by simp)
    have b6 : i4 ≠ 0 ∧ i4.natAbs ≤ 4 := by simp only [List.mem_cons, List.not_mem_nil, or_false] at m6; omega
    obtain ⟨i7, κ7, e7, c7, d7, k7, u7⟩ := draw' (n + 2) k6 (by omega) 2 (by omega) (by omega)
    obtain ⟨i8, κ8, e8, c8, d8, k8, u8⟩ := draw' (n + 2) k7 (by omega) ((most : Int) + 1) (by omega) (by omega)
    have uu : Up κ2 κ8 := u6.trans (u7.trans u8)
    have a8 := a2.up hpos uu
    have hl8 : (kd K).length < 16777216 := by rw [kd_len]; have := d2.len; omega
    have fin : ∀ q : Rat, q ≠ 0 → q.num.natAbs ≤ 4 → q.den ≤ 4 → ∀ s : Int, J [some (.fz (.obj 0)), some (.fz (.int many)), some (.fz (.int most)), some (.fz (.bl above)), some (.fz (.obj κ.length)), some (.fz (.int j)), some (.fz (.int s)), none] (κ8.set κ.length ⟨false, .dk (kd (setW K i8 q))⟩) := fun q z1 z2 z3 s =>
      hJ _ _ ⟨setW K i8 q, some (.int j), some (.int s), by omega, rfl, up_set a8, d2.set ⟨c8, by omega⟩ z1 z2 z3, fun _ => set_ne _ _ _, (k8.set hpos _).up (by omega), u2.trans ((UpX.of uu).trans (UpX.set _ _))⟩
    clear hJ
    obtain ⟨z1, z2, z3⟩ := part_bd (a := i4) (b := 1 + i7) (B := 4) (by omega) b6.1 b6.2 (by omega)
    have ep := lpart_ok (n + 1) i4 (1 + i7) κ7 (by omega) (show Lt2 _ _ from Nat.lt_of_lt_of_le (show _ < 2 ^ 10 by omega) (Nat.pow_le_pow_right (by decide) (by decide))) (show Lt2 _ _ from Nat.lt_of_lt_of_le (show _ < 2 ^ 10 by omega) (Nat.pow_le_pow_right (by decide) (by decide)))
    generalize i4 /. (1 + i7) = q at ep z1 z2 z3
    simp -implicitDefEqProofs [sizeLine_eq, startS, wipeS, assignT, assign1, setAt_eq, isTy, show callN P0 (n + 3) 29 [.obj 0, .lst [.int 1, .int 1, .int 2, .int 3, .int 4, .int (-1), .int (-2), .int (-3)]] κ2 = _ from e6, e7, ep, e8, a8.open_, hl8, put_kd]
    exact fin q z1 z2 z3 _
  · rintro σ κ' ⟨K, u, v, hj, rfl, a2, d2, n2, k2, u2⟩
    have hlen : (List.map (fun (k : Nat) => D.int (k : Int)) (List.range (1 + m))).length = 1 + m := by simp
    rw [hlen] at d2 n2 k2
    exact tl κ' K a2 ⟨d2.d, n2 (by omega), d2.num, d2.den, d2.key, by have := d2.len; omega⟩ (k2.up (by omega)) (u2.up (u0.trans u1) (Nat.le_refl _)) _ _
end R

/-! Q19: how large all this is. -/
namespace R
open PySem L2
open scoped Rat
theorem dv_list {B : Nat} (hB : 1 ≤ B) : ∀ K : W, (∀ p ∈ K, p.2.num.natAbs ≤ B) → (∀ p ∈ K, p.2.den ≤ B) → ∃ Δ : Nat, 0 < Δ ∧ Δ ≤ B ^ K.length ∧ ∀ p ∈ K, Dv Δ (B * B ^ K.length) p.2
  | [], _, _ => ⟨1, by decide, by simp, by simp⟩
  | p :: K, h1, h2 => by
    obtain ⟨Δ, d0, dl, hd⟩ := dv_list hB K (fun q hq => h1 q (by simp [hq])) (fun q hq => h2 q (by simp [hq]))
    have n1 := h1 p (by simp)
    have n2 := h2 p (by simp)
    have dp := p.2.den_pos
    refine ⟨p.2.den * Δ, Nat.mul_pos dp d0, ?_, fun q hq => ?_⟩
    · rw [List.length_cons, Nat.pow_succ, Nat.mul_comm]
      exact Nat.mul_le_mul dl n2
    · rcases List.mem_cons.mp hq with e | e
      · subst e
        refine ((Dv.self q.2).scale Δ d0).up ?_
        rw [List.length_cons, Nat.pow_succ]
        calc q.2.num.natAbs * Δ ≤ B * B ^ K.length := Nat.mul_le_mul n1 dl
          _ ≤ B * (B ^ K.length * B) := Nat.mul_le_mul_left _ (Nat.le_mul_of_pos_right _ hB)
      · have := (hd q e).scale p.2.den dp
        rw [Nat.mul_comm Δ] at this
        refine this.up ?_
        rw [List.length_cons, Nat.pow_succ, ← Nat.mul_assoc]
        exact Nat.mul_le_mul_left _ n2
theorem dv_cfs {K : W} (nd : (keysW K).Nodup) {Δ M : Nat} (h : ∀ p ∈ K, Dv Δ M p.2) (k : Int) : Dv Δ M (cf K k) := by
  by_cases hk : k ∈ keysW K
  · obtain ⟨p, hp, rfl⟩ := List.mem_map.mp hk
    rw [cf_mem nd hp]
    exact h p hp
  · rw [cf_no fun p hp e => hk (by rw [← e]; exact List.mem_map_of_mem hp)]
    exact Dv.zero _ _
/-- a top that the law makes -/
structure TopOk (A : W) (Δ0 M0 : Nat) : Prop where
  d : Dct A
  key : ∀ p ∈ A, 0 ≤ p.1 ∧ p.1 ≤ 12
  d0 : 0 < Δ0
  D0 : Δ0 < 2 ^ 64
  m0 : M0 < 2 ^ 64
  dv : ∀ k, Dv Δ0 M0 (cf A k)
/-- a bottom that the law makes -/
structure BotOk (B : W) (Δb Mb : Nat) : Prop where
  t : TopOk B Δb Mb
  ne : B ≠ []
  above : ∀ m, Mn B m → 0 < cf B m
theorem TopOk.len {A : W} {Δ0 M0 : Nat} (h : TopOk A Δ0 M0) : A.length ≤ 13 := by
  have := nodup_range h.d.nd (lo := 0) (m := 13) fun k hk => by
    obtain ⟨p, hp, rfl⟩ := List.mem_map.mp hk
    have := h.key p hp
    omega
  simpa [keysW] using this
theorem Drw.topOk {B many most : Nat} {K : W} (h : Drw B many most K) (hB : 1 ≤ B) (hm : most ≤ 12) (hs : B * B ^ many < 2 ^ 64) : ∃ Δ, TopOk K Δ (B * B ^ many) := by
  obtain ⟨Δ, d0, dl, hd⟩ := dv_list hB K h.num h.den
  have hp : B ^ K.length ≤ B ^ many := Nat.pow_le_pow_right hB h.len
  have h2 : B ^ many ≤ B * B ^ many := Nat.le_mul_of_pos_left _ hB
  refine ⟨Δ, h.d, fun p hp => ?_, d0, by omega, hs, fun k => (dv_cfs h.d.nd hd k).up (Nat.mul_le_mul_left _ hp)⟩
  have := h.key p hp
  omega
theorem Drw.nrm_mem {K : W} (h : Dct K) {p : Int × Rat} (hp : p ∈ nrm K) : p.1 ∈ keysW K ∧ p.2 = cf K p.1 := by
  obtain ⟨k, hk, rfl⟩ := List.mem_map.mp hp
  exact ⟨(sortI_mem _ _).mp (List.mem_filter.mp hk).1, rfl⟩
theorem nrm_key {K : W} (h : Dct K) {k : Int} (hk : k ∈ keysW K) : k ∈ keysW (nrm K) := cf_ne (by rw [nrm_cf h.nd]; exact h.ne hk)
/-- a worth begins with the least key -/
theorem nrm_hd {K : W} (h : Dct K) {f : Int} (m : Mn K f) : ∃ ft, nrm K = (f, cf K f) :: ft := by
  have hm := nrm_key h m.1
  cases e : nrm K with
  | nil => rw [e] at hm; simp [keysW] at hm
  | cons p ft =>
    have hc := nrm_can h.nd
    have h1 := Drw.nrm_mem h (p := p) (by rw [e]; simp)
    have h2 := m.2 p.1 h1.1
    have hp : p.1 = f := by
      rw [e] at hm hc
      obtain ⟨q, hq, eq⟩ := List.mem_map.mp hm
      have eq : q.1 = f := eq
      rcases List.mem_cons.mp hq with z | z
      · rw [← z]; exact eq
      · have := hc.head q z
        omega
    exact ⟨ft, by rw [← hp, ← h1.2]⟩
/-- the greatest key -/
def Mx (K : W) (f : Int) : Prop := f ∈ keysW K ∧ ∀ k ∈ keysW K, k ≤ f
theorem mx_ex {K : W} (h : K ≠ []) : ∃ f, Mx K f := by
  have : keysW K ≠ [] := by simpa [keysW] using h
  cases hm : (keysW K).max? with
  | none => exact absurd (List.max?_eq_none_iff.mp hm) this
  | some f => exact ⟨f, List.max?_eq_some_iff.mp hm⟩
theorem Mx.max {K : W} {f : Int} (h : Mx K f) : (keysW K).max? = some f := List.max?_eq_some_iff.mpr h
theorem kv_max {κ : Cells} {n : Nat} {K : W} {f : Int} (h : openAt κ n = some (kd K)) (m : Mx K f) : bltKv κ n .max = some (.fz (.int f)) := by
  rw [kv_max', h, Option.bind_some, keys_kd, Option.bind_some, m.max]
  rfl
theorem nrm_last {K : W} (h : Dct K) {f : Int} (m : Mx K f) : (nrm K).getLast? = some (f, cf K f) := by
  have hm := nrm_key h m.1
  cases e : (nrm K).getLast? with
  | none =>
    rw [List.getLast?_eq_none_iff.mp e] at hm
    simp [keysW] at hm
  | some p =>
    have h1 := Drw.nrm_mem h (p := p) (List.mem_of_getLast? e)
    have h2 := m.2 p.1 h1.1
    obtain ⟨q, hq, eq⟩ := List.mem_map.mp hm
    have eq : q.1 = f := eq
    have h3 := can_last (nrm_can h.nd) e q hq
    have hp : p.1 = f := by omega
    rw [← hp, ← h1.2]
/-- all that is known of a drawn quotient -/
structure Qd (A B : W) (f fl lo : Int) (Δ0 M0 Δb Mb : Nat) (z0 : Int) : Prop where
  a : TopOk A Δ0 M0
  b : BotOk B Δb Mb
  mn : Mn B f
  mx : Mx B fl
  lo0 : 0 ≤ lo ∧ lo ≤ 12
  lo : A = [] ∨ Mn A lo
  hz : cf B f = z0 /. Δb
  hz1 : z0.natAbs ≤ Mb
theorem qd_make {A B : W} {Δ0 M0 Δb Mb : Nat} (a : TopOk A Δ0 M0) (b : BotOk B Δb Mb) : ∃ f fl lo z0, Qd A B f fl lo Δ0 M0 Δb Mb z0 ∧ (A = [] → lo = 12) := by
  obtain ⟨f, mn⟩ := mn_ex b.ne
  obtain ⟨fl, mx⟩ := mx_ex b.ne
  obtain ⟨z0, h1, h2⟩ := b.t.dv f
  by_cases hA : A = []
  · exact ⟨f, fl, 12, z0, ⟨a, b, mn, mx, by omega, .inl hA, h2, h1⟩, fun _ => rfl⟩
  · obtain ⟨lo, ml⟩ := mn_ex hA
    refine ⟨f, fl, lo, z0, ⟨a, b, mn, mx, ?_, .inr ml, h2, h1⟩, fun z => absurd z hA⟩
    obtain ⟨p, hp, e⟩ := List.mem_map.mp ml.1
    have e : p.1 = lo := e
    have := a.key p hp
    omega
section
variable {A B : W} {f fl lo : Int} {Δ0 M0 Δb Mb : Nat} {z0 : Int}
theorem Qd.foot (h : Qd A B f fl lo Δ0 M0 Δb Mb z0) : Foot (nrm B) f (cf B f) := ⟨nrm_can h.b.t.d.nd, nrm_hd h.b.t.d h.mn⟩
theorem Qd.f0 (h : Qd A B f fl lo Δ0 M0 Δb Mb z0) : 0 ≤ f ∧ f ≤ fl ∧ fl ≤ 12 := by
  obtain ⟨p, hp, e⟩ := List.mem_map.mp h.mn.1
  obtain ⟨q, hq, e2⟩ := List.mem_map.mp h.mx.1
  have e : p.1 = f := e
  have e2 : q.1 = fl := e2
  have h1 := h.b.t.key p hp
  have h2 := h.b.t.key q hq
  have h3 := h.mx.2 f h.mn.1
  omega
theorem Qd.akey (h : Qd A B f fl lo Δ0 M0 Δb Mb z0) : ∀ k ∈ keysW A, lo ≤ k ∧ k ≤ 12 := fun k hk => by
  obtain ⟨p, hp, rfl⟩ := List.mem_map.mp hk
  refine ⟨?_, (h.a.key p hp).2⟩
  rcases h.lo with z | z
  · rw [z] at hp; simp at hp
  · exact z.2 _ hk
theorem Qd.bkey (h : Qd A B f fl lo Δ0 M0 Δb Mb z0) : ∀ k ∈ keysW B, f ≤ k ∧ k ≤ 12 := fun k hk => by
  obtain ⟨p, hp, rfl⟩ := List.mem_map.mp hk
  exact ⟨h.mn.2 _ hk, (h.b.t.key p hp).2⟩
theorem Qd.z (h : Qd A B f fl lo Δ0 M0 Δb Mb z0) : 0 < z0.natAbs := by
  have h1 := h.b.t.d.ne h.mn.1
  rcases Nat.eq_zero_or_pos z0.natAbs with z | z
  · have : z0 = 0 := by omega
    rw [h.hz, this] at h1
    simp at h1
  · exact z
theorem Qd.qt (h : Qd A B f fl lo Δ0 M0 Δb Mb z0) : Qt (nrm A) (nrm B) f fl (cf B f) (cf B fl) lo Δ0 M0 Δb Mb z0 := by
  have hf := h.f0
  refine ⟨⟨nrm_can h.a.d.nd, h.foot, h.a.d0, h.a.D0, h.a.m0, h.b.t.d0, h.b.t.D0, h.b.t.m0, fun k => by rw [nrm_cf h.a.d.nd]; exact h.a.dv k, fun k => by rw [nrm_cf h.b.t.d.nd]; exact h.b.t.dv k, fun p hp => ?_, fun q hq => ?_⟩, h.hz, h.hz1, hf.2.1, by omega, nrm_last h.b.t.d h.mx⟩
  · have := h.akey p.1 (Drw.nrm_mem h.a.d hp).1
    have := h.lo0
    omega
  · have := h.bkey q.1 (Drw.nrm_mem h.b.t.d hq).1
    omega
end
end R

set_option exponentiation.threshold 5000
/-! Q20: all sums that are made fit. -/
namespace R
open PySem L2
open scoped Rat
def dT (Δ0 : Nat) (z0 : Int) : Nat := Δ0 * z0.natAbs ^ 13
def mT (M0 Mb : Nat) (z0 : Int) : Nat := M0 * (2 * Mb) ^ 12 * 2 ^ 64 * z0.natAbs ^ 12
/-- beside it, with seven more -/
def mT7 (Δ0 M0 Mb : Nat) (z0 : Int) : Nat := mT M0 Mb z0 + 7 * dT Δ0 z0
theorem mul_lt2 {a b i j : Nat} (h : a < 2 ^ i) (g : b < 2 ^ j) : a * b < 2 ^ (i + j) := by
  rw [Nat.pow_add]; exact Nat.mul_lt_mul'' h g
theorem pow_le2 {a i : Nat} (n : Nat) (h : a ≤ 2 ^ i) : a ^ n ≤ 2 ^ (i * n) := pow_lt h (Nat.le_refl n)
theorem mul_le2 {a b i j : Nat} (h : a ≤ 2 ^ i) (g : b ≤ 2 ^ j) : a * b ≤ 2 ^ (i + j) := by
  rw [Nat.pow_add]; exact Nat.mul_le_mul h g
section
variable {A B : W} {f fl lo : Int} {Δ0 M0 Δb Mb : Nat} {z0 : Int}
theorem Qd.y (h : Qd A B f fl lo Δ0 M0 Δb Mb z0) : 0 < z0.natAbs ∧ z0.natAbs ≤ 2 ^ 64 ∧ 0 < Mb ∧ Mb ≤ 2 ^ 64 := by
  have h1 := h.z
  have h2 := h.hz1
  have h3 := h.b.t.m0
  omega
theorem Qd.dT0 (h : Qd A B f fl lo Δ0 M0 Δb Mb z0) : 0 < dT Δ0 z0 := Nat.mul_pos h.a.d0 (Nat.pow_pos h.z)
theorem Qd.dTl (h : Qd A B f fl lo Δ0 M0 Δb Mb z0) : dT Δ0 z0 ≤ 2 ^ 896 := mul_le2 (i := 64) (j := 832) (Nat.le_of_lt h.a.D0) (pow_le2 13 h.y.2.1)
theorem Qd.mTl (h : Qd A B f fl lo Δ0 M0 Δb Mb z0) : mT M0 Mb z0 ≤ 2 ^ 1676 := by
  have h1 : 2 * Mb ≤ 2 ^ 65 := by have := h.y.2.2.2; omega
  exact mul_le2 (i := 908) (j := 768) (mul_le2 (i := 844) (j := 64) (mul_le2 (i := 64) (j := 780) (Nat.le_of_lt h.a.m0) (pow_le2 12 h1)) (Nat.le_refl _)) (pow_le2 12 h.y.2.1)
theorem Qd.mT7l (h : Qd A B f fl lo Δ0 M0 Δb Mb z0) : mT7 Δ0 M0 Mb z0 ≤ 2 ^ 1677 := by
  have h1 := h.mTl
  have h2 := h.dTl
  have h3 : 7 * 2 ^ 896 ≤ 2 ^ 1676 := by
    calc 7 * 2 ^ 896 ≤ 2 ^ 3 * 2 ^ 896 := Nat.mul_le_mul_right _ (by decide)
      _ = 2 ^ 899 := (Nat.pow_add 2 3 896).symm
      _ ≤ 2 ^ 1676 := Nat.pow_le_pow_right (by decide) (by decide)
  have h4 : (2 : Nat) ^ 1677 = 2 ^ 1676 + 2 ^ 1676 := by rw [show (1677 : Nat) = 1676 + 1 from rfl, Nat.pow_succ]
  unfold mT7
  omega
theorem tb_all {T : W} (h : Qd A B f fl lo Δ0 M0 Δb Mb z0) (hl : T.length ≤ 13) (ht : ∀ (i : Nat) (p : Int × Rat), T[i]? = some p → Dv (Δ0 * z0.natAbs ^ (i + 1)) (M0 * (2 * Mb) ^ i * 2 ^ 64) p.2) :
    ∀ p ∈ T, Dv (dT Δ0 z0) (mT M0 Mb z0) p.2 := fun p hp => by
  obtain ⟨i, hi, rfl⟩ := List.mem_iff_getElem.mp hp
  have h1 := ht i T[i] (List.getElem?_eq_getElem hi)
  have h2 := h1.scale (z0.natAbs ^ (12 - i)) (Nat.pow_pos h.z)
  rw [Nat.mul_assoc, ← Nat.pow_add, show i + 1 + (12 - i) = 13 by omega] at h2
  refine h2.up ?_
  unfold mT
  have y := h.y
  exact Nat.mul_le_mul (Nat.mul_le_mul_right _ (Nat.mul_le_mul_left _ (Nat.pow_le_pow_right (by omega) (by omega)))) (Nat.pow_le_pow_right y.1 (by omega))
theorem dvd_lt {a b : Nat} (h : a ≤ 2 ^ 3000) (hb : b ≤ 512) : b * a < 2 ^ 3999 := by
  calc b * a ≤ 2 ^ 9 * 2 ^ 3000 := Nat.mul_le_mul (by omega) h
    _ = 2 ^ 3009 := (Nat.pow_add 2 9 3000).symm
    _ < 2 ^ 3999 := Nat.pow_lt_pow_right (by decide) (by decide)
theorem up3000 {a i : Nat} (h : a ≤ 2 ^ i) (hi : i ≤ 3000) : a ≤ 2 ^ 3000 := Nat.le_trans h (Nat.pow_le_pow_right (by decide) hi)
theorem lt3999 {a : Nat} (h : a ≤ 2 ^ 3000) : a < 2 ^ 3999 := Nat.lt_of_le_of_lt h (Nat.pow_lt_pow_right (by decide) (by decide))
theorem Qd.dd (h : Qd A B f fl lo Δ0 M0 Δb Mb z0) : dT Δ0 z0 * Δb ≤ 2 ^ 3000 := up3000 (mul_le2 (i := 896) (j := 64) h.dTl (Nat.le_of_lt h.b.t.D0)) (by decide)
theorem Qd.mm (h : Qd A B f fl lo Δ0 M0 Δb Mb z0) : mT7 Δ0 M0 Mb z0 * Mb ≤ 2 ^ 1741 := mul_le2 (i := 1677) (j := 64) h.mT7l h.y.2.2.2
theorem fit_prod {T' v : W} {b lo1 : Int} (h : Qd A B f fl lo Δ0 M0 Δb Mb z0) (h1 : ∀ t ∈ T', Dv (dT Δ0 z0) (mT7 Δ0 M0 Mb z0) t.2) (h2 : ∀ q ∈ v, Dv Δb Mb q.2) (hr : ∀ t ∈ T', ∀ q ∈ v, lo1 ≤ t.1 + b + q.1 ∧ t.1 + b + q.1 < lo1 + 60) (hl : T'.length * v.length ≤ 512) :
    Fit (prodW (shW T' b) v) (dT Δ0 z0 * Δb) (mT7 Δ0 M0 Mb z0 * Mb) lo1 := by
  have hm : ∀ p ∈ prodW (shW T' b) v, ∃ t ∈ T', ∃ q ∈ v, p = (t.1 + b + q.1, t.2 * q.2) := fun p hp => by
    unfold prodW shW at hp
    obtain ⟨t2, ht2, hp⟩ := List.mem_flatMap.mp hp
    obtain ⟨t, ht, rfl⟩ := List.mem_map.mp ht2
    obtain ⟨q, hq, rfl⟩ := (List.mem_map.mp hp)
    exact ⟨t, ht, q, hq, rfl⟩
  refine ⟨Nat.mul_pos h.dT0 h.b.t.d0, fun p hp => ?_, fun p hp => ?_, lt3999 h.dd, ?_⟩
  · obtain ⟨t, ht, q, hq, rfl⟩ := hm p hp
    exact (h1 t ht).mul (h2 q hq)
  · obtain ⟨t, ht, q, hq, rfl⟩ := hm p hp
    exact hr t ht q hq
  · rw [prod_len]
    exact dvd_lt (up3000 h.mm (by decide)) (by simpa [shW] using hl)
theorem fit_left {T' v P : W} {b lo1 : Int} (h : Qd A B f fl lo Δ0 M0 Δb Mb z0) (h1 : ∀ t ∈ T', Dv (dT Δ0 z0) (mT7 Δ0 M0 Mb z0) t.2) (h2 : ∀ q ∈ v, Dv Δb Mb q.2) (hr : ∀ t ∈ T', ∀ q ∈ v, lo1 ≤ t.1 + b + q.1 ∧ t.1 + b + q.1 < lo1 + 60) (hl : T'.length * v.length ≤ 512)
    (hP : Can P) (eP : ∀ k, cf P k = cf (prodW (shW T' b) v) k) (hA : ∀ k ∈ keysW A, lo1 ≤ k + b ∧ k + b < lo1 + 60) :
    Fit (shW (nrm A) b ++ negW P) (dT Δ0 z0 * Δb) (M0 * (z0.natAbs ^ 13 * Δb) + 512 * (mT7 Δ0 M0 Mb z0 * Mb)) lo1 := by
  have fp := fit_prod h h1 h2 hr hl
  have dP : ∀ k, Dv (dT Δ0 z0 * Δb) (512 * (mT7 Δ0 M0 Mb z0 * Mb)) (cf P k) := fun k => by
    rw [eP]
    refine (dv_cf fp.d0 fp.dv k).up (Nat.mul_le_mul_right _ ?_)
    rw [prod_len]
    simpa [shW] using hl
  have rP : ∀ p ∈ P, lo1 ≤ p.1 ∧ p.1 < lo1 + ((60 : Nat) : Int) := fun p hp => by
    have z := can_mem hP (List.mem_map_of_mem (f := (·.1)) hp)
    rw [eP] at z
    obtain ⟨q, hq, eq⟩ := List.mem_map.mp (cf_ne z)
    have := fp.lo q hq
    have eq : q.1 = p.1 := eq
    omega
  have lP : P.length ≤ 60 := len_rng hP rP
  refine ⟨fp.d0, fun p hp => ?_, fun p hp => ?_, fp.dk, ?_⟩
  · rcases List.mem_append.mp hp with z | z
    · obtain ⟨q, hq, rfl⟩ := List.mem_map.mp z
      have h3 := (h.a.dv q.1).scale (z0.natAbs ^ 13 * Δb) (Nat.mul_pos (Nat.pow_pos h.z) h.b.t.d0)
      rw [← (Drw.nrm_mem h.a.d hq).2] at h3
      unfold dT
      rw [Nat.mul_assoc]
      exact h3.up (Nat.le_add_right _ _)
    · obtain ⟨q, hq, rfl⟩ := List.mem_map.mp z
      have h3 := dP q.1
      rw [cf_mem hP.nd hq] at h3
      exact h3.neg.up (Nat.le_add_left _ _)
  · rcases List.mem_append.mp hp with z | z
    · obtain ⟨q, hq, rfl⟩ := List.mem_map.mp z
      exact hA q.1 (Drw.nrm_mem h.a.d hq).1
    · obtain ⟨q, hq, rfl⟩ := List.mem_map.mp z
      have := rP q hq
      exact ⟨this.1, by have := this.2; show q.1 < lo1 + 60; omega⟩
  · have hlen : (shW (nrm A) b ++ negW P).length ≤ 512 := by
      have h5 : (nrm A).length ≤ A.length := by
        unfold nrm
        rw [List.length_map]
        refine Nat.le_trans (List.length_filter_le _ _) ?_
        unfold sortI
        rw [List.length_mergeSort]
        simp [keysW]
      have := h.a.len
      simp [shW, negW]
      omega
    refine dvd_lt ?_ hlen
    have h6 : M0 * (z0.natAbs ^ 13 * Δb) ≤ 2 ^ 960 := mul_le2 (i := 64) (j := 896) (Nat.le_of_lt h.a.m0) (mul_le2 (i := 832) (j := 64) (pow_le2 13 h.y.2.1) (Nat.le_of_lt h.b.t.D0))
    have h7 : 512 * (mT7 Δ0 M0 Mb z0 * Mb) ≤ 2 ^ 1750 := mul_le2 (i := 9) (j := 1741) (by decide) h.mm
    have h8 : (2 : Nat) ^ 960 + 2 ^ 1750 ≤ 2 ^ 3000 := by
      have a1 : (2 : Nat) ^ 960 ≤ 2 ^ 2999 := Nat.pow_le_pow_right (by decide) (by decide)
      have a2 : (2 : Nat) ^ 1750 ≤ 2 ^ 2999 := Nat.pow_le_pow_right (by decide) (by decide)
      have a3 : (2 : Nat) ^ 3000 = 2 ^ 2999 + 2 ^ 2999 := by rw [show (3000 : Nat) = 2999 + 1 from rfl, Nat.pow_succ]
      omega
    omega
/-- sums along parts of a dict -/
theorem dv_conv {v : W} {F : Int → Rat} {Δ M Δ' M' : Nat} (d0 : 0 < Δ * Δ') (hF : ∀ k, Dv Δ M (F k)) : ∀ (v : W), (∀ q ∈ v, Dv Δ' M' q.2) → ∀ m, Dv (Δ * Δ') (v.length * (M' * M)) (conv F v m)
  | [], _, m => Dv.zero _ _
  | q :: v, h, m => by
    have h1 := dv_conv (v := v) d0 hF v (fun r hr => h r (by simp [hr])) m
    have h2 := (h q (by simp)).mul (hF (m - q.1))
    rw [Nat.mul_comm Δ' Δ] at h2
    rw [conv, List.length_cons, Nat.succ_mul, Nat.add_comm]
    exact h2.add h1 d0
theorem Qd.sm {T : W} (h : Qd A B f fl lo Δ0 M0 Δb Mb z0) (hT : Can T) (ht : ∀ p ∈ T, Dv (dT Δ0 z0) (mT M0 Mb z0) p.2) : Sm A B T f := by
  have hb : ∀ p ∈ B, Dv Δb Mb p.2 := fun p hp => by
    have := h.b.t.dv p.1
    rwa [cf_mem h.b.t.d.nd hp] at this
  have e1 : mT M0 Mb z0 ≤ mT7 Δ0 M0 Mb z0 := Nat.le_add_right _ _
  have szU : ∀ {r : Rat}, Dv (dT Δ0 z0 * Δb) (512 * (mT7 Δ0 M0 Mb z0 * Mb)) r → Sz 3999 r := fun hr => hr.sz (Nat.mul_pos h.dT0 h.b.t.d0) (dvd_lt (up3000 h.mm (by decide)) (by decide)) (lt3999 h.dd)
  refine ⟨fun p hp t ht' => ?_, fun o P S e => ?_, fun p hp => ?_, fun t ht' => ?_⟩
  · refine szU (((hb p hp).mul (ht t ht')).up ?_ |> fun z => by rw [Nat.mul_comm Δb] at z; exact z)
    calc Mb * mT M0 Mb z0 ≤ Mb * mT7 Δ0 M0 Mb z0 := Nat.mul_le_mul_left _ e1
      _ = mT7 Δ0 M0 Mb z0 * Mb := Nat.mul_comm _ _
      _ ≤ 512 * (mT7 Δ0 M0 Mb z0 * Mb) := Nat.le_mul_of_pos_left _ (by decide)
  · have hF : ∀ k, Dv (dT Δ0 z0) (mT M0 Mb z0) (cf (cutW T (o - 1)) k) := fun k => by
      rw [cf_lt]
      split
      · exact dv_cfs hT.nd ht k
      · exact Dv.zero _ _
    have lB := h.b.t.len
    have hc := dv_conv (v := noK P f) (Nat.mul_pos h.dT0 h.b.t.d0) hF (noK P f) (fun q hq => hb q (by rw [e]; exact List.mem_append_left _ (List.mem_filter.mp hq).1)) (o + f)
    have h3 := (h.a.dv (o + f)).scale (z0.natAbs ^ 13 * Δb) (Nat.mul_pos (Nat.pow_pos h.z) h.b.t.d0)
    have e3 : Δ0 * (z0.natAbs ^ 13 * Δb) = dT Δ0 z0 * Δb := by unfold dT; rw [Nat.mul_assoc]
    rw [e3] at h3
    have h4 := h3.add hc.neg (Nat.mul_pos h.dT0 h.b.t.d0)
    rw [show cf A (o + f) + -conv (cf (cutW T (o - 1))) (noK P f) (o + f) = cf A (o + f) - conv (cf (cutW T (o - 1))) (noK P f) (o + f) by grind] at h4
    refine (h4.sz (Nat.mul_pos h.dT0 h.b.t.d0) (k := 3999) (lt3999 ?_) (lt3999 h.dd)).up (by decide)
    have h6 : M0 * (z0.natAbs ^ 13 * Δb) ≤ 2 ^ 960 := mul_le2 (i := 64) (j := 896) (Nat.le_of_lt h.a.m0) (mul_le2 (i := 832) (j := 64) (pow_le2 13 h.y.2.1) (Nat.le_of_lt h.b.t.D0))
    have l1 : (noK P f).length ≤ 512 := by
      have h7 : (noK P f).length ≤ P.length := List.length_filter_le _ _
      have h8 : P.length ≤ B.length := by rw [e]; simp
      omega
    have h7 : (noK P f).length * (Mb * mT M0 Mb z0) ≤ 2 ^ 1750 := mul_le2 (i := 9) (j := 1741) l1 (mul_le2 (i := 64) (j := 1677) h.y.2.2.2 (Nat.le_trans e1 h.mT7l))
    have h8 : (2 : Nat) ^ 960 + 2 ^ 1750 ≤ 2 ^ 3000 := by
      have a1 : (2 : Nat) ^ 960 ≤ 2 ^ 2999 := Nat.pow_le_pow_right (by decide) (by decide)
      have a2 : (2 : Nat) ^ 1750 ≤ 2 ^ 2999 := Nat.pow_le_pow_right (by decide) (by decide)
      have a3 : (2 : Nat) ^ 3000 = 2 ^ 2999 + 2 ^ 2999 := by rw [show (3000 : Nat) = 2999 + 1 from rfl, Nat.pow_succ]
      omega
    omega
  · exact ((hb p hp).sz h.b.t.d0 (k := 64) h.b.t.m0 h.b.t.D0).up (by decide)
  · exact (ht t ht').sz h.dT0 (k := 3999) (lt3999 (up3000 h.mTl (by decide))) (lt3999 (up3000 h.dTl (by decide)))
end
end R

/-! Q21: what the program tells of a drawn quotient, and what the law makes of it. -/
namespace R
open PySem L2
open scoped Rat
section
variable {A B : W} {f fl lo : Int} {Δ0 M0 Δb Mb : Nat} {z0 : Int}
def oneD (A B : W) : D := .tup [wD (nrm A), wD (nrm B)]
/-- terms that may be asked about -/
structure Tl (A B : W) (f lo : Int) (Δ0 M0 Mb : Nat) (z0 : Int) (T : W) : Prop where
  can : Can T
  dv : ∀ t ∈ T, Dv (dT Δ0 z0) (mT7 Δ0 M0 Mb z0) t.2
  rng : ∀ t ∈ T, lo - f - 20 ≤ t.1 ∧ t.1 ≤ lo - f + 14
  len : T.length ≤ 20
/-- the series of a drawn quotient -/
structure Ser (A B : W) (f lo : Int) (Δ0 M0 Mb : Nat) (z0 most : Int) (T : W) : Prop where
  exp : Exp (nrm A) (nrm B) f most T
  low : ∀ t ∈ T, lo - f ≤ t.1
  len : T.length ≤ 13
  dv : ∀ t ∈ T, Dv (dT Δ0 z0) (mT M0 Mb z0) t.2
  run : ∀ (n : Nat) (κ : Cells), ∃ κ', callN P0 (n + 5) 20 [oneD A B, .int most] κ = .ok (wD T, κ') ∧ Gr κ κ'
theorem Ser.tl {most : Int} {T : W} (s : Ser A B f lo Δ0 M0 Mb z0 most T) (hm : most ≤ lo - f + 12) : Tl A B f lo Δ0 M0 Mb z0 T :=
  ⟨s.exp.can, fun t ht => (s.dv t ht).up (Nat.le_add_right _ _), fun t ht => by have := s.low t ht; have := s.exp.le t ht; omega, by have := s.len; omega⟩
theorem Qd.ser (h : Qd A B f fl lo Δ0 M0 Δb Mb z0) {most : Int} (hm : most ≤ lo - f + 12) : ∃ T, Ser A B f lo Δ0 M0 Mb z0 most T := by
  have hf := h.f0
  obtain ⟨T, κ', _, _, hE, hlow, hdv⟩ := expin_ok 0 [] h.qt (most := most) (by omega)
  have hl : T.length ≤ 13 := len_rng hE.can (lo := lo - f) fun t ht => by have := hlow t ht; have := hE.le t ht; omega
  refine ⟨T, hE, hlow, hl, tb_all h hl hdv, fun n κ => ?_⟩
  obtain ⟨T', κ', e, g, hE', _⟩ := expin_ok n κ h.qt (most := most) (by omega)
  have : T' = T := exp_unique h.foot hE' hE
  subst this
  exact ⟨κ', e, g⟩
theorem nrm_len (K : W) : (nrm K).length ≤ K.length := by
  unfold nrm
  rw [List.length_map]
  refine Nat.le_trans (List.length_filter_le _ _) ?_
  unfold sortI
  rw [List.length_mergeSort]
  simp [keysW]
theorem Qd.fdv (h : Qd A B f fl lo Δ0 M0 Δb Mb z0) : ∀ q ∈ nrm B, Dv Δb Mb q.2 := fun q hq => by
  rw [(Drw.nrm_mem h.b.t.d hq).2]
  exact h.b.t.dv q.1
theorem Qd.bdv (h : Qd A B f fl lo Δ0 M0 Δb Mb z0) : ∀ q ∈ B, Dv Δb Mb q.2 := fun q hq => by
  have := h.b.t.dv q.1
  rwa [cf_mem h.b.t.d.nd hq] at this
/-- what is left behind terms -/
structure Lft (A B T R : W) : Prop where
  can : Can R
  eq : ∀ k, cf R k = cf A (k - byOf T) - conv (cf T) (nrm B) (k - byOf T)
  run : ∀ (n : Nat) (κ : Cells), ∃ κ', callN P0 (n + 5) 22 [oneD A B, wD T] κ = .ok (.tup [wD R, wD (shW (nrm B) (byOf T))], κ') ∧ Gr κ κ'
  len : R.length ≤ 60
  rng2 : ∀ p ∈ R, -20 ≤ p.1 - byOf T ∧ p.1 - byOf T ≤ 52
  by40 : byOf T ≤ 40
theorem by_le {T : W} {m : Int} (h : Can T) (h0 : 0 ≤ m) (hm : ∀ t ∈ T, -m ≤ t.1) : byOf T ≤ m := by
  cases T with
  | nil => exact h0
  | cons p T => rw [byOf_cons h]; have := hm p (by simp); omega
theorem Lft.rng {A B T R : W} (l : Lft A B T R) : ∀ p ∈ R, -100 ≤ p.1 ∧ p.1 ≤ 200 := fun p hp => by
  have := l.rng2 p hp
  have := l.by40
  have := byOf_ge T
  omega
theorem Tl.sz {T : W} (h : Qd A B f fl lo Δ0 M0 Δb Mb z0) (t : Tl A B f lo Δ0 M0 Mb z0 T) : ∀ p ∈ T, Sz 3999 p.2 := fun p hp =>
  (t.dv p hp).sz h.dT0 (lt3999 (up3000 h.mT7l (by decide))) (lt3999 (up3000 h.dTl (by decide)))
theorem Qd.szB (h : Qd A B f fl lo Δ0 M0 Δb Mb z0) {r : Rat} (hr : Dv Δb Mb r) : Sz 64 r := hr.sz h.b.t.d0 h.b.t.m0 h.b.t.D0
theorem Qd.lft (h : Qd A B f fl lo Δ0 M0 Δb Mb z0) {T : W} (t : Tl A B f lo Δ0 M0 Mb z0 T) : ∃ R, Lft A B T R := by
  have hf := h.f0
  have lB := h.b.t.len
  have lA := h.a.len
  have nB := nrm_len B
  have nA := nrm_len A
  have lT := t.len
  have hr : ∀ t' ∈ T, ∀ q ∈ nrm B, lo - 20 + byOf T ≤ t'.1 + byOf T + q.1 ∧ t'.1 + byOf T + q.1 < lo - 20 + byOf T + 60 := fun t' ht' q hq => by
    have h1 := t.rng t' ht'
    have h2 := h.bkey q.1 (Drw.nrm_mem h.b.t.d hq).1
    omega
  have hl : T.length * (nrm B).length ≤ 512 := by
    calc T.length * (nrm B).length ≤ 20 * 13 := Nat.mul_le_mul lT (by omega)
      _ ≤ 512 := by decide
  have hA : ∀ k ∈ keysW A, lo - 20 + byOf T ≤ k + byOf T ∧ k + byOf T < lo - 20 + byOf T + 60 := fun k hk => by
    have := h.akey k hk
    have := h.lo0
    omega
  have fp := fit_prod h t.dv h.fdv hr hl
  have run := fun (n : Nat) (κ : Cells) => leftin_ok n κ (nrm_can h.a.d.nd) (nrm_can h.b.t.d.nd) t.can fp (fun P hP eP => fit_left h t.dv h.fdv hr hl hP eP hA) (by omega) (by omega) (by omega)
    (fun p hp => (t.sz h p hp)) (fun p hp => (h.szB (h.fdv p hp)).up (by decide))
  obtain ⟨R, κ', _, _, cR, rR, eR⟩ := run 0 []
  have hby : byOf T ≤ 40 := by_le t.can (by decide) fun t' ht' => by have := t.rng t' ht'; have := h.lo0; omega
  have hby0 := byOf_ge T
  have l0 := h.lo0
  refine ⟨R, cR, fun k => by rw [eR, nrm_cf h.a.d.nd], fun n κ => ?_, len_rng cR (m := 60) rR, fun p hp => by have := rR p hp; omega, hby⟩
  obtain ⟨R', κ', e, g, cR', _, eR'⟩ := run n κ
  have : R' = R := can_ext cR' cR fun k => by rw [eR', eR]
  subst this
  exact ⟨κ', e, g⟩
/-- the law's own series -/
theorem Qd.lexp (h : Qd A B f fl lo Δ0 M0 Δb Mb z0) {most : Int} {T : W} (s : Ser A B f lo Δ0 M0 Mb z0 most T) (hm : lo - f - 15 ≤ most ∧ most ≤ lo - f + 12) (n a b : Nat) {κ : Cells} (ha : AtW κ a A) (hb : AtW κ b B) :
    callN P0 (n + 5) 41 [.obj a, .obj b, .int most] κ = .ok (.obj κ.length, κ ++ [⟨false, .dk (kd T)⟩, ⟨false, .dk []⟩]) := by
  have hf := h.f0
  have l0 := h.lo0
  rcases h.lo with z | z
  · subst z
    have : T = [] := by
      refine exp_unique h.foot s.exp ⟨⟨.nil, by simp⟩, by simp, fun k hk => ?_⟩
      rw [show cf ([] : W) = fun _ => (0 : Rat) from rfl, conv_zero, nrm_cf h.a.d.nd]
      rfl
    subst this
    exact lexpand_nil (n + 4) a b ha
  · exact lexpand_ok n a b ha hb h.a.d h.b.t.d z h.mn h.foot s.exp s.low (by omega) (by omega) (by have := s.len; omega) (h.sm s.exp.can s.dv)
/-- what the law says is left -/
theorem Qd.lleft (h : Qd A B f fl lo Δ0 M0 Δb Mb z0) {T R : W} (t : Tl A B f lo Δ0 M0 Mb z0 T) (l : Lft A B T R) (n a b c : Nat) {κ : Cells} (ha : AtW κ a A) (hb : AtW κ b B) (hc : AtW κ c T) :
    ∃ κ' r K, callN P0 (n + 6) 42 [.obj a, .obj b, .obj c] κ = .ok (.tup [.obj r, .obj κ.length], κ') ∧ Gr κ κ' ∧ AtW κ' r K ∧ AtW κ' κ.length (shW B (byOf T)) ∧ Dct K ∧ nrm K = R ∧ K.length ≤ 60 ∧ κ.length ≤ r := by
  have hf := h.f0
  have lB := h.b.t.len
  have lA := h.a.len
  have lT := t.len
  have hr : ∀ t' ∈ T, ∀ q ∈ B, lo - 20 + byOf T ≤ t'.1 + byOf T + q.1 ∧ t'.1 + byOf T + q.1 < lo - 20 + byOf T + 60 := fun t' ht' q hq => by
    have h1 := t.rng t' ht'
    have h2 := h.bkey q.1 (List.mem_map_of_mem hq)
    omega
  have hl : T.length * B.length ≤ 512 := by
    calc T.length * B.length ≤ 20 * 13 := Nat.mul_le_mul lT (by omega)
      _ ≤ 512 := by decide
  have iA : In60 (shW A (byOf T)) (lo - 20 + byOf T) := fun k hk => by
    obtain ⟨p, hp, rfl⟩ := List.mem_map.mp hk
    obtain ⟨q, hq, rfl⟩ := (List.mem_map.mp hp)
    have := h.akey q.1 (List.mem_map_of_mem hq)
    have := h.lo0
    show _ ≤ q.1 + byOf T ∧ q.1 + byOf T < _
    omega
  have sA : ∀ k, Sz (4000 + 1) (cf A k) := fun k => ((h.a.dv k).sz h.a.d0 (k := 64) h.a.m0 h.a.D0).up (by decide)
  obtain ⟨κ', r, K, e, g, k1, k2, dK, iK, lr, eK⟩ := leftof_ok n a b c ha hb hc h.a.d h.b.t.d t.can.dct (fit_prod h t.dv h.bdv hr hl) iA (by omega) (by omega) (by omega) sA (fun p hp => (h.szB (h.bdv p hp)).up (by decide)) (fun p hp => (t.sz h p hp).up (by decide))
  refine ⟨κ', r, K, e, g, k1, k2, dK, can_ext (nrm_can dK.nd) l.can fun k => ?_, iK.len dK.nd, lr⟩
  rw [nrm_cf dK.nd, eK, l.eq, conv_dict (fun k => (nrm_cf h.b.t.d.nd k).symm)]
/-! ### the program -/
theorem Qd.quot (h : Qd A B f fl lo Δ0 M0 Δb Mb z0) (n : Nat) (κ : Cells) : callN P0 (n + 6) 16 [oneD A B] κ = .ok (.non, κ) := by
  obtain ⟨ft, e⟩ := h.foot.hd
  have lB := h.b.t.len
  have lA := h.a.len
  have nB := nrm_len B
  have nA := nrm_len A
  refine needq_ok (n + 5) _ κ (quot_ok n (nrm A) (nrm B) κ (nrm_can h.a.d.nd) (nrm_can h.b.t.d.nd) (fun p hp => ?_) (fun p hp => ?_) e ?_ (by omega) (by omega))
  · have := h.akey p.1 (Drw.nrm_mem h.a.d hp).1
    have := h.lo0
    omega
  · have := h.bkey p.1 (Drw.nrm_mem h.b.t.d hp).1
    have := h.f0
    omega
  · have h1 := h.b.above f h.mn
    have h2 : ¬ (cf B f).num < 0 := fun z => by have := (lt_num _).mp z; grind
    have h3 := num0 (h.b.t.d.ne h.mn.1)
    show 0 < (cf B f).num
    omega
theorem Qd.expd (h : Qd A B f fl lo Δ0 M0 Δb Mb z0) {most : Int} {T : W} (s : Ser A B f lo Δ0 M0 Mb z0 most T) (n : Nat) (κ : Cells) : ∃ κ', callN P0 (n + 7) 21 [oneD A B, .int most] κ = .ok (wD T, κ') ∧ Gr κ κ' := by
  obtain ⟨κ', e, g⟩ := s.run (n + 1) κ
  refine ⟨κ', ?_, g⟩
  have e1 := h.quot n κ
  have e2 := needm_ok (n + 4) most κ
  rw [call0 (fn := ⟨2, 2, Pr.b_expanded⟩) rfl rfl]
  simp -implicitDefEqProofs [sizeLine_eq, startS, wipeS, assignT, assign1, setAt_eq, isTy, Pr.b_expanded, e1, e2, e]
end
end R

/-! Q24: texts of values are short and clean. -/
namespace R
open PySem L2
theorem ok_app (a b : Str) : PyData.strOk (a ++ b) = (PyData.strOk a && PyData.strOk b) := by
  show ((a.cps ++ b.cps).all _) = _
  rw [Array.all_append]
  rfl
theorem ok_of (s : String) : PyData.strOk (Str.ofString s) = true := by
  rw [Str.ofString_eq_toList]
  unfold PyData.strOk
  rw [Array.all_eq_true']
  intro x hx
  simp only [List.mem_toArray, List.mem_map] at hx
  obtain ⟨c, _, rfl⟩ := hx
  have h := c.valid
  simp only [Nat.isValidChar, UInt32.isValidChar] at h
  have ht : c.toNat = c.val.toNat := (rfl)
  simp only [decide_eq_true_eq]
  omega
/-- a value with a short text -/
def Rp (k b : Nat) (d : D) : Prop := ∃ p : PyData, d.py = some p ∧ p.showable = true ∧ p.hasDict = false ∧ p.depth ≤ k ∧ p.shown.length ≤ b ∧ PyData.strOk p.shown = true
theorem Rp.up {k b l c : Nat} {d : D} (h : Rp k b d) (hk : k ≤ l) (hb : b ≤ c) : Rp l c d := by
  obtain ⟨p, h1, h2, h3, h4, h5, h6⟩ := h
  exact ⟨p, h1, h2, h3, by omega, by omega, h6⟩
theorem rp_int {i : Int} (h : Lt2 1900 i) : Rp 0 1902 (.int i) := by
  refine ⟨.int i, by simp only [D.py], ?_, by simp only [PyData.hasDict], by simp [PyData.depth], ?_, ?_⟩
  · have := log_lt (k := 1899) h
    simp only [decide_eq_true_eq, PyData.showable]
    omega
  · have := int_text_length_le (a := i) (k := 1900) (by decide) (log_lt (k := 1899) h)
    simp only [PyData.shown]
    rw [ofString_length]
    omega
  · simp only [PyData.shown]
    exact ok_of _
theorem rp_non : Rp 0 1902 .non := by
  refine ⟨.none, by simp only [D.py], by simp only [PyData.showable], by simp only [PyData.hasDict], by simp [PyData.depth], ?_, ?_⟩
  · simp only [PyData.shown]
    rw [ofString_length]
    decide
  · simp only [PyData.shown]
    exact ok_of _
theorem rp_bl (b : Bool) : Rp 0 1902 (.bl b) := by
  refine ⟨.bool b, by simp only [D.py], by simp only [PyData.showable], by simp only [PyData.hasDict], by simp [PyData.depth], ?_, ?_⟩
  · simp only [PyData.shown]
    cases b <;> decide +kernel
  · simp only [PyData.shown]
    cases b <;> decide +kernel

theorem rp_str {x : Str} (h : (decide ((reprText x).length ≤ 1902) && PyData.strOk (reprText x)) = true) : Rp 0 1902 (.str x) := by
  rw [(Bool.and_eq_true), decide_eq_true_eq] at h
  exact ⟨.str x, by simp only [D.py], by simp only [PyData.showable], by simp only [PyData.hasDict], by simp [PyData.depth], by simp only [PyData.shown]; exact h.1, by simp only [PyData.shown]; exact h.2⟩
theorem rps {k b : Nat} : ∀ {xs : List D}, (∀ x ∈ xs, Rp k b x) → ∃ ps : List PyData, D.pys xs = some ps ∧ PyData.showableAll ps = true ∧ PyData.hasDictAll ps = false ∧ PyData.depthAll ps ≤ k ∧
    (∀ t ∈ PyData.shownAll ps, t.length ≤ b ∧ PyData.strOk t = true) ∧ (PyData.shownAll ps).length = xs.length
  | [], _ => ⟨[], by simp [D.pys], by simp [PyData.showableAll], by simp [PyData.hasDictAll], by simp [PyData.depthAll], by simp [PyData.shownAll], by simp [PyData.shownAll]⟩
  | x :: xs, h => by
    obtain ⟨p, h1, h2, h3, h4, h5, h6⟩ := h x (by simp)
    obtain ⟨ps, g1, g2, g3, g4, g5, g6⟩ := rps (xs := xs) (fun y hy => h y (by simp [hy]))
    refine ⟨p :: ps, by simp [D.pys, h1, g1], by simp [PyData.showableAll, h2, g2], by simp [PyData.hasDictAll, h3, g3], ?_, ?_, by simp [PyData.shownAll, g6]⟩
    · simp only [PyData.depthAll]
      omega
    · intro t ht
      simp only [PyData.shownAll, List.mem_cons] at ht
      rcases ht with rfl | ht
      · exact ⟨h5, h6⟩
      · exact g5 t ht
theorem join_fine {b : Nat} : ∀ {ts : List Str}, (∀ t ∈ ts, t.length ≤ b ∧ PyData.strOk t = true) → (Str.join ", " ts).length ≤ ts.length * (b + 2) ∧ PyData.strOk (Str.join ", " ts) = true
  | [], _ => ⟨by show (0 : Nat) ≤ _; omega, by decide +kernel⟩
  | [x], h => by
    have := h x (by simp)
    exact ⟨by show x.length ≤ _; simp; omega, this.2⟩
  | x :: y :: r, h => by
    have h1 := h x (by simp)
    obtain ⟨h2, h3⟩ := join_fine (ts := y :: r) (fun t ht => h t (by simp [ht]))
    have e : Str.join ", " (x :: y :: r) = x ++ ", " ++ Str.join ", " (y :: r) := rfl
    refine ⟨?_, ?_⟩
    · rw [e, strLen_append, strLen_append, ofString_length, List.length_cons, Nat.add_mul]
      have : (", " : String).length = 2 := rfl
      omega
    · rw [e, ok_app, ok_app, h1.2, ok_of, h3]
      rfl
theorem from_fine {b : Nat} : ∀ {ts : List Str} (k : Nat) (acc : Str), (∀ t ∈ ts, t.length ≤ b ∧ PyData.strOk t = true) → PyData.strOk acc = true →
    (textFrom k acc ts).length ≤ acc.length + ts.length * (b + 2) ∧ PyData.strOk (textFrom k acc ts) = true
  | [], k, acc, _, ha => ⟨by show acc.length ≤ _; omega, ha⟩
  | t :: r, k, acc, h, ha => by
    have h1 := h t (by simp)
    have e : ∀ c : Bool, ((if c then ", " else "" : String)).length ≤ 2 := fun c => by cases c <;> decide
    have e2 : (if k > 0 then ", " else "" : String).length ≤ 2 := by split <;> decide
    obtain ⟨h2, h3⟩ := from_fine (ts := r) (k + 1) (acc ++ (if k > 0 then ", " else "" : String) ++ t) (fun t ht => h t (by simp [ht])) (by rw [ok_app, ok_app, ha, ok_of, h1.2]; rfl)
    refine ⟨?_, h3⟩
    show (textFrom (k + 1) (acc ++ (if k > 0 then ", " else "" : String) ++ t) r).length ≤ _
    rw [strLen_append, strLen_append, ofString_length] at h2
    rw [List.length_cons, Nat.add_mul]
    omega
theorem rp_tup {k b : Nat} {xs : List D} (h : ∀ x ∈ xs, Rp k b x) : Rp (k + 1) (xs.length * (b + 2) + 3) (.tup xs) := by
  obtain ⟨ps, g1, g2, g3, g4, g5, g6⟩ := rps h
  obtain ⟨j1, j2⟩ := join_fine g5
  rw [g6] at j1
  have e2 : (if (PyData.shownAll ps).length == 1 then ",)" else ")" : String).length ≤ 2 := by split <;> decide
  refine ⟨.tuple ps, by simp [D.py, g1], by simp [PyData.showable, g2], by simp [PyData.hasDict, g3], by simp [PyData.depth]; omega, ?_, ?_⟩
  · simp only [PyData.shown]
    show ((("(" : Str) ++ Str.join ", " (PyData.shownAll ps) ++ (if (PyData.shownAll ps).length == 1 then ",)" else ")" : String)) : Str).length ≤ _
    rw [strLen_append]; rw [strLen_append, ofString_length, ofString_length]
    have : ("(" : String).length = 1 := rfl
    omega
  · simp only [PyData.shown]
    show PyData.strOk ((("(" : Str) ++ Str.join ", " (PyData.shownAll ps) ++ (if (PyData.shownAll ps).length == 1 then ",)" else ")" : String)) : Str) = true
    rw [ok_app, ok_app, ok_of, ok_of, j2]
    rfl
theorem rp_lst {k b : Nat} {xs : List D} (h : ∀ x ∈ xs, Rp k b x) : Rp (k + 1) (xs.length * (b + 2) + 3) (.lst xs) := by
  obtain ⟨ps, g1, g2, g3, g4, g5, g6⟩ := rps h
  obtain ⟨j1, j2⟩ := from_fine (b := b) 0 "[" g5 (ok_of _)
  rw [g6, ofString_length] at j1
  have : ("[" : String).length = 1 := rfl
  have : ("]" : String).length = 1 := rfl
  refine ⟨.list ps, by simp [D.py, g1], by simp [PyData.showable, g2], by simp [PyData.hasDict, g3], by simp [PyData.depth]; omega, ?_, ?_⟩
  · simp only [PyData.shown]
    show ((textFrom 0 "[" (PyData.shownAll ps) ++ "]" : Str)).length ≤ _
    rw [strLen_append, ofString_length]
    omega
  · simp only [PyData.shown]
    show PyData.strOk ((textFrom 0 "[" (PyData.shownAll ps) ++ "]" : Str)) = true
    rw [ok_app, j2, ok_of]
    rfl
theorem rp_rep {k b : Nat} {d : D} (h : Rp k b d) (hk : k ≤ 60) (hb : b ≤ 16777216) : ∃ t, repD d = some t ∧ PyData.strOk t = true := by
  obtain ⟨p, h1, h2, h3, h4, h5, h6⟩ := h
  refine ⟨p.shown, ?_, h6⟩
  have e1 : decide (p.depth ≤ 60) = true := decide_eq_true (by omega)
  have e2 : decide (p.shown.length ≤ sizeLine) = true := decide_eq_true (by rw [sizeLine_eq]; omega)
  simp only [repD, h1, h2, h3, e1, e2, Bool.not_false, Bool.and_self, if_true]
end R

set_option exponentiation.threshold 5000
/-! Q25a: texts of series. -/
namespace R
open PySem L2
open scoped Rat
section
variable {A B : W} {f fl lo : Int} {Δ0 M0 Δb Mb : Nat} {z0 most : Int} {T R : W}

theorem kd_lenT (T : W) : (kd T).length = T.length := by simp [kd]
/-- texts of series -/
theorem rp_i {i : Int} (h : i.natAbs < 2 ^ 40) : Rp 0 1902 (.int i) := rp_int (Nat.lt_of_lt_of_le h (Nat.pow_le_pow_right (by decide) (by decide)))
theorem rp_w {w : W} (hl : w.length ≤ 60) (hs : ∀ p ∈ w, Sz 1900 p.2) (hk : ∀ p ∈ w, -100 ≤ p.1 ∧ p.1 ≤ 200) : Rp 2 400000 (wD w) := by
  have h1 : ∀ x ∈ w.map tD, Rp 1 5720 x := fun x hx => by
    obtain ⟨p, hp, rfl⟩ := List.mem_map.mp hx
    refine (rp_tup (k := 0) (b := 1902) (xs := [.int p.1, .int p.2.num, .int p.2.den]) fun y hy => ?_).up (by decide) (by simp)
    have h2 := hk p hp
    have h3 := hs p hp
    simp only [List.mem_cons, List.not_mem_nil, or_false] at hy
    rcases hy with rfl | rfl | rfl
    · exact rp_i (by omega)
    · exact rp_int h3.1
    · exact rp_int h3.2
  have := rp_tup h1
  refine this.up (by decide) ?_
  rw [List.length_map]
  omega
theorem rp_two {a b : D} {k c : Nat} (ha : Rp k c a) (hb : Rp k c b) : Rp (k + 1) (2 * (c + 2) + 3) (.tup [a, b]) := rp_tup (xs := [a, b]) fun x hx => by
  simp only [List.not_mem_nil, or_false, List.mem_cons] at hx
  rcases hx with rfl | rfl
  · exact ha
  · exact hb
theorem rep_self {d : D} {k b : Nat} (h : Rp k b d) (hk : k ≤ 60) (hb : b ≤ 16777216) : ∃ t, repD d = some t ∧ eqD (.str t) (.str t) = some true := by
  obtain ⟨t, h1, h2⟩ := rp_rep h hk hb
  exact ⟨t, h1, by rw [eqD_str h2 h2]; simp⟩
theorem Ser.rp (h : Qd A B f fl lo Δ0 M0 Δb Mb z0) (s : Ser A B f lo Δ0 M0 Mb z0 most T) (hm : most ≤ lo - f + 12) : Rp 2 400000 (wD T) := by
  have hf := h.f0
  have l0 := h.lo0
  refine rp_w (by have := s.len; omega) (fun p hp => (s.dv p hp).sz h.dT0 ?_ ?_) fun p hp => by have := (s.tl hm).rng p hp; omega
  · exact Nat.lt_of_le_of_lt h.mTl (Nat.pow_lt_pow_right (by decide) (by decide))
  · exact Nat.lt_of_le_of_lt h.dTl (Nat.pow_lt_pow_right (by decide) (by decide))
theorem Ser.rdv (h : Qd A B f fl lo Δ0 M0 Δb Mb z0) (s : Ser A B f lo Δ0 M0 Mb z0 most T) (l : Lft A B T R) : ∀ p ∈ R, Dv (dT Δ0 z0 * Δb) (2 ^ 1745) p.2 := fun p hp => by
  rw [← cf_mem l.can.nd hp, l.eq]
  generalize p.1 - byOf T = k
  have ez : Δ0 * (z0.natAbs ^ 13 * Δb) = dT Δ0 z0 * Δb := by unfold dT; rw [Nat.mul_assoc]
  have hz := h.z
  have b0 := h.b.t.d0
  have y := h.y
  have h1 := (h.a.dv k).scale (z0.natAbs ^ 13 * Δb) (Nat.mul_pos (Nat.pow_pos hz) b0)
  rw [ez] at h1
  have d0 : 0 < dT Δ0 z0 * Δb := Nat.mul_pos h.dT0 b0
  have h2 := dv_conv (Δ := dT Δ0 z0) (M := mT M0 Mb z0) (Δ' := Δb) (M' := Mb) (v := nrm B) d0 (dv_cfs s.exp.can.nd s.dv) (nrm B) h.fdv k
  have h3 := h1.add h2.neg d0
  rw [← Rat.sub_eq_add_neg] at h3
  have lB : (nrm B).length ≤ 2 ^ 4 := by have := nrm_len B; have := h.b.t.len; omega
  have m1 : M0 * (z0.natAbs ^ 13 * Δb) ≤ 2 ^ (64 + (832 + 64)) := mul_le2 (Nat.le_of_lt h.a.m0) (mul_le2 (pow_le2 13 y.2.1) (Nat.le_of_lt h.b.t.D0))
  have m2 : (nrm B).length * (Mb * mT M0 Mb z0) ≤ 2 ^ (4 + (64 + 1676)) := mul_le2 lB (mul_le2 y.2.2.2 h.mTl)
  have m3 : (2 : Nat) ^ (64 + (832 + 64)) ≤ 2 ^ 1744 := Nat.pow_le_pow_right (by decide) (by decide)
  have m4 : (2 : Nat) ^ 1745 = 2 ^ 1744 + 2 ^ 1744 := by rw [show (1745 : Nat) = 1744 + 1 from rfl, Nat.pow_succ]
  rw [show (4 + (64 + 1676) : Nat) = 1744 from rfl] at m2
  exact h3.up (by omega)
theorem Qd.ddb (h : Qd A B f fl lo Δ0 M0 Δb Mb z0) : 0 < dT Δ0 z0 * Δb ∧ dT Δ0 z0 * Δb ≤ 2 ^ (896 + 64) := ⟨Nat.mul_pos h.dT0 h.b.t.d0, mul_le2 h.dTl (Nat.le_of_lt h.b.t.D0)⟩
theorem Ser.rsz (h : Qd A B f fl lo Δ0 M0 Δb Mb z0) (s : Ser A B f lo Δ0 M0 Mb z0 most T) (l : Lft A B T R) : ∀ p ∈ R, Sz 1900 p.2 := fun p hp =>
  (s.rdv h l p hp).sz h.ddb.1 (Nat.pow_lt_pow_right (by decide) (by decide)) (Nat.lt_of_le_of_lt h.ddb.2 (Nat.pow_lt_pow_right (by decide) (by decide)))
theorem Lft.rp (h : Qd A B f fl lo Δ0 M0 Δb Mb z0) (s : Ser A B f lo Δ0 M0 Mb z0 most T) (hm : most ≤ lo - f + 12) (l : Lft A B T R) : Rp 3 800100 (.tup [wD R, wD (shW (nrm B) (byOf T))]) := by
  have hf := h.f0
  have l0 := h.lo0
  have hby : byOf T ≤ 40 := by_le s.exp.can (by decide) fun t' ht' => by have := (s.tl hm).rng t' ht'; omega
  have hby0 := byOf_ge T
  refine (rp_two (rp_w l.len (s.rsz h l) l.rng) (rp_w ?_ ?_ ?_)).up (by decide) (by decide)
  · have := nrm_len B; have := h.b.t.len; simp [shW]; omega
  · intro p hp
    obtain ⟨q, hq, rfl⟩ := (List.mem_map.mp hp)
    exact (h.szB (h.fdv q hq)).up (by decide)
  · intro p hp
    obtain ⟨q, hq, rfl⟩ := (List.mem_map.mp hp)
    have := h.bkey q.1 (Drw.nrm_mem h.b.t.d hq).1
    show -100 ≤ q.1 + _ ∧ q.1 + _ ≤ 200
    omega--end--
end
end R

set_option exponentiation.threshold 5000
/-! Q27a: new dicts; the pen; what is shifted. -/
namespace R
open PySem L2
open scoped Rat

theorem nrm_nil : nrm [] = [] := by
  have h := (nrm_can (K := []) (by simp [keysW]))
  have : ∀ k, cf (nrm []) k = cf [] k := nrm_cf (by simp [keysW])
  exact can_ext h ⟨.nil, by simp⟩ this
theorem eqC_w (κ : Cells) (w : W) (y : D) : eqC κ (wD w) y = eqD (wD w) y := rfl
theorem nrm_ne {K : W} (h : Dct K) (h0 : K ≠ []) : nrm K ≠ [] := fun z => by
  obtain ⟨f, m⟩ := mn_ex h0
  have := nrm_key h m.1
  rw [z] at this
  simp [keysW] at this
theorem lpen_ok (n : Nat) (xs : List Int) : ∃ κ, callN P0 (n + 1) 27 [.scr (xs.map .int)] [] = .ok (.obj 0, κ) ∧ PenK 0 κ := by
  suffices h : ∃ d κ, callN P0 (n + 1) 27 [.scr (xs.map .int)] [] = .ok (d, κ) ∧ (d = .obj 0 ∧ PenK 0 κ) by
    obtain ⟨d, κ', h, rfl, h2⟩ := h
    exact ⟨κ', h, h2⟩
  refine good_callQ (fn := ⟨1, 3, Pr.b__law_pen⟩) rfl rfl fun Q hQ => ?_
  simp -implicitDefEqProofs [sizeLine_eq, startS, wipeS, assignT, assign1, setAt_eq, isTy, Pr.b__law_pen]
  refine good_for (I := fun ys σ κ => κ = [] ∧ ∃ (zs : List Int) (f : Int) (u : Option D), ys = zs.map .int ∧ 0 ≤ f ∧ f < 2147483497 ∧
    σ = [some (.fz (.scr (xs.map .int))), some (.fz (.int f)), Option.map O.fz u]) ?_ ?_ ?_
  · exact ⟨rfl, xs, 31, none, rfl, by decide, by decide, rfl⟩
  · rintro x ys σ κ ⟨rfl, zs, f, u, hz, h0, h1, rfl⟩
    cases zs with
    | nil => simp at hz
    | cons z zs =>
      simp only [List.map_cons, List.cons.injEq] at hz
      obtain ⟨rfl, rfl⟩ := hz
      have em : mulOk f 67 = true := mulOk_of (a := 40) (b := 10) (by omega) (by decide) (by decide)
      have h2 := Int.fmod_nonneg_of_pos (f * 67 + z) (show (0 : Int) < 1000000123 by decide)
      have h3 := Int.fmod_lt_of_pos (f * 67 + z) (show (0 : Int) < 1000000123 by decide)
      refine ⟨_, [], ?_, rfl, zs, (f * 67 + z).fmod 1000000123, some (.int z), rfl, h2, by omega, rfl⟩
      simp -implicitDefEqProofs [sizeLine_eq, startS, wipeS, assignT, assign1, setAt_eq, isTy, b_mul em, b_mod (show (1000000123 : Int) ≠ 0 by decide)]
  · rintro σ κ ⟨rfl, zs, f, u, hz, h0, h1, rfl⟩
    simp -implicitDefEqProofs [sizeLine_eq, startS, wipeS, assignT, assign1, setAt_eq, isTy, ]
    rw [if_pos (by decide +kernel)]
    have ek : putP (putP (putP (putP (putP [] (Sum.inr (Str.ofString "cells")) (D.lst (List.map D.int xs))) (Sum.inr (Str.ofString "at")) (D.int 0)) (Sum.inr (Str.ofString "digits")) (D.int 0))
        (Sum.inr (Str.ofString "count")) (D.int 0)) (Sum.inr (Str.ofString "fold")) (D.int f) = Pen.kv ⟨xs, 0, 0, 0, f⟩ := rfl
    rw [ek]
    simp -implicitDefEqProofs [sizeLine_eq, startS, wipeS, assignT, assign1, setAt_eq, isTy, ]
    exact hQ _ _ ⟨rfl, ⟨xs, 0, 0, 0, f⟩, [], rfl, ⟨Int.le_refl _, Nat.le_refl _, h0, by show f < _; omega⟩⟩
def forB : S → S
  | .for_ _ _ b => b
  | s => s
theorem nrm_sh {B : W} (h : Dct B) (b : Int) : nrm (shW B b) = shW (nrm B) b := by
  have hs : Dct (shW B b) := dct_sh h b
  refine can_ext (nrm_can hs.nd) (can_sh (nrm_can h.nd) b) fun k => ?_
  rw [nrm_cf hs.nd, cf_sh, cf_sh, nrm_cf h.nd]
theorem mn_sh {B : W} {f : Int} (m : Mn B f) (b : Int) : Mn (shW B b) (f + b) := by
  have e : keysW (shW B b) = (keysW B).map (· + b) := by simp [keysW, shW]
  constructor
  · rw [e]; exact List.mem_map_of_mem m.1
  · intro k hk
    rw [e] at hk
    obtain ⟨q, hq, rfl⟩ := List.mem_map.mp hk
    have := m.2 q hq
    show f + b ≤ q + b
    omega
/-- a dict against a new one -/
theorem eq_new {κ : Cells} {n : Nat} {K : W} (h : AtW κ n K) : eqC (κ ++ [⟨false, .dk []⟩]) (.obj n) (.obj κ.length) = some K.isEmpty := by
  rw [eqC_obj, (h.gr ⟨_, rfl⟩).open_, show openAt (κ ++ [⟨false, .dk []⟩]) κ.length = some [] from (AtW.last κ []).open_, Option.bind_some, Option.bind_some, kd_lenT]
  cases K with
  | nil => rfl
  | cons p K => rfl
theorem top_nil : TopOk [] 1 1 := ⟨Dct.nil, by simp, by decide, by decide, by decide, fun k => Dv.zero _ _⟩
theorem Drw.botOk {B many most : Nat} {K : W} (h : Drw B many most K) (hB : 1 ≤ B) (hm : most ≤ 12) (hs : B * B ^ many < 2 ^ 64) (ab : ∀ m, Mn K m → 0 < cf K m) : ∃ Δ, BotOk K Δ (B * B ^ many) := by
  obtain ⟨Δ, t⟩ := h.topOk hB hm hs
  exact ⟨Δ, t, h.ne, ab⟩
theorem prod_rng {A B : W} {p : Int × Rat} (h : p ∈ prodW A B) : ∃ x ∈ A, ∃ y ∈ B, p = (x.1 + y.1, x.2 * y.2) := by
  unfold prodW at h
  obtain ⟨x, hx, h⟩ := List.mem_flatMap.mp h
  obtain ⟨y, hy, rfl⟩ := List.mem_map.mp h
  exact ⟨x, hx, y, hy, rfl⟩
theorem prod_len2 (A B : W) : (prodW A B).length = A.length * B.length := by
  unfold prodW
  induction A with
  | nil => simp
  | cons a A ih => rw [List.flatMap_cons, List.length_append, ih, List.length_map, List.length_cons, Nat.succ_mul, Nat.add_comm]
theorem nrm_emp {K R : W} (h : Dct K) (e : nrm K = R) : K.isEmpty = R.isEmpty := by
  cases K with
  | nil => rw [nrm_nil] at e; rw [← e]
  | cons p K =>
    have := nrm_ne h (by simp)
    cases R with
    | nil => exact absurd e this
    | cons q R => rfl--end--
end R

/-! B1: what a sum of powers comes to at a number; how great what is left may be. -/
namespace R
open PySem L2
open scoped Rat
/-- the value of a sum of powers at a number -/
def evl (w : W) (e : Rat) : Rat := w.foldr (fun p s => p.2 * e ^ p.1 + s) 0
@[simp] theorem evl_nil (e : Rat) : evl [] e = 0 := rfl
@[simp] theorem evl_cons (p : Int × Rat) (w : W) (e : Rat) : evl (p :: w) e = p.2 * e ^ p.1 + evl w e := rfl
theorem evl_app (w v : W) (e : Rat) : evl (w ++ v) e = evl w e + evl v e := by
  induction w with
  | nil => simp; grind
  | cons p w ih => rw [List.cons_append, evl_cons, evl_cons, ih]; grind
theorem evl_perm {w v : W} (h : w.Perm v) (e : Rat) : evl w e = evl v e := by
  induction h with
  | nil => rfl
  | cons p _ ih => rw [evl_cons, evl_cons, ih]
  | swap p q w => simp only [evl_cons]; grind
  | trans _ _ h1 h2 => rw [h1, h2]
theorem evl_neg (w : W) (e : Rat) : evl (negW w) e = -evl w e := by
  induction w with
  | nil => show (0 : Rat) = -0; grind
  | cons p w ih =>
    show -p.2 * e ^ p.1 + evl (negW w) e = -(p.2 * e ^ p.1 + evl w e)
    rw [ih]; grind
theorem evl_sh {e : Rat} (he : e ≠ 0) (w : W) (b : Int) : evl (shW w b) e = evl w e * e ^ b := by
  induction w with
  | nil => show (0 : Rat) = 0 * e ^ b; grind
  | cons p w ih =>
    show p.2 * e ^ (p.1 + b) + evl (shW w b) e = (p.2 * e ^ p.1 + evl w e) * e ^ b
    rw [ih, Rat.zpow_add he]; grind
theorem evl_prod {e : Rat} (he : e ≠ 0) (w v : W) : evl (prodW w v) e = evl w e * evl v e := by
  induction w with
  | nil => show (0 : Rat) = 0 * evl v e; grind
  | cons p w ih =>
    have h1 : prodW (p :: w) v = v.map (fun q => (p.1 + q.1, p.2 * q.2)) ++ prodW w v := rfl
    have h2 : ∀ v : W, evl (v.map fun q => (p.1 + q.1, p.2 * q.2)) e = p.2 * e ^ p.1 * evl v e := fun v => by
      induction v with
      | nil => show (0 : Rat) = _ * 0; grind
      | cons q v ihv =>
        show p.2 * q.2 * e ^ (p.1 + q.1) + evl (v.map fun q => (p.1 + q.1, p.2 * q.2)) e = _
        rw [ihv, Rat.zpow_add he, evl_cons]; grind
    rw [h1, evl_app, ih, h2, evl_cons]; grind
/-- one key taken out -/
theorem evl_drop {K : W} (nd : (keysW K).Nodup) (k : Int) (e : Rat) : evl K e = cf K k * e ^ k + evl (dropW K k) e := by
  induction K with
  | nil => show (0 : Rat) = 0 * e ^ k + 0; grind
  | cons p K ih =>
    rw [keysW, List.map_cons, List.nodup_cons] at nd
    by_cases h : p.1 = k
    · subst h
      have h1 : cf (p :: K) p.1 = p.2 := cf_mem (w := p :: K) (by rw [keysW, List.map_cons, List.nodup_cons]; exact nd) (by simp)
      have h2 : dropW (p :: K) p.1 = dropW K p.1 := by simp [dropW]
      rw [h1, h2, drop_no nd.1, evl_cons]
    · have h1 : cf (p :: K) k = cf K k := by rw [cf, if_neg h]; grind
      have h2 : dropW (p :: K) k = p :: dropW K k := by simp [dropW, h]
      rw [h1, h2, evl_cons, evl_cons, ih nd.2]; grind
/-- what stands for the same numbers has the same value -/
theorem evl_ext (e : Rat) : ∀ {w v : W}, Dct w → Dct v → (∀ k, cf w k = cf v k) → evl w e = evl v e
  | [], v, _, hv, h => by
    cases v with
    | nil => rfl
    | cons p v =>
      have h1 : cf (p :: v) p.1 = p.2 := cf_mem hv.nd (by simp)
      have h2 := h p.1
      rw [h1] at h2
      exact absurd h2.symm (hv.nz p (by simp))
  | p :: w, v, hw, hv, h => by
    have nw := hw.nd
    rw [keysW, List.map_cons, List.nodup_cons] at nw
    have dw : Dct w := ⟨nw.2, fun q hq => hw.nz q (by simp [hq])⟩
    have dv : Dct (dropW v p.1) := ⟨nd_drop hv.nd p.1, fun q hq => hv.nz q (List.mem_filter.mp hq).1⟩
    have hp : cf (p :: w) p.1 = p.2 := cf_mem hw.nd (by simp)
    rw [evl_drop hv.nd p.1, evl_cons, ← h p.1, hp]
    congr 1
    refine evl_ext e dw dv fun k => ?_
    by_cases hk : k = p.1
    · subst hk
      have a : cf w p.1 = 0 := Classical.not_not.mp fun z => nw.1 (cf_ne z)
      have b : cf (dropW v p.1) p.1 = 0 := Classical.not_not.mp fun z => by
        have := cf_ne z
        obtain ⟨q, hq, e⟩ := (List.mem_map.mp this)
        have := (List.mem_filter.mp hq).2
        simp at this
        exact this e
      rw [a, b]
    · have a : cf w k = cf (p :: w) k := by rw [cf, if_neg fun z => hk z.symm]; grind
      rw [a, h k]
      have := cf_drop v p.1 k
      rw [this, if_neg hk]
theorem evl_addW {K : W} (h : Dct K) (k : Int) (r e : Rat) : evl (addW K k r) e = evl K e + r * e ^ k := by
  have d := addW_dct h k r
  rw [evl_drop d.nd k, evl_drop h.nd k, addW_cf h.nd, if_pos rfl]
  have : evl (dropW (addW K k r) k) e = evl (dropW K k) e := by
    refine evl_ext e ⟨nd_drop d.nd k, fun q hq => d.nz q (List.mem_filter.mp hq).1⟩ ⟨nd_drop h.nd k, fun q hq => h.nz q (List.mem_filter.mp hq).1⟩ fun j => ?_
    rw [cf_drop, cf_drop, addW_cf h.nd]
    by_cases hj : j = k
    · rw [if_pos hj, if_pos hj]
    · rw [if_neg hj, if_neg hj, if_neg hj]; grind
  rw [this]; grind
theorem evl_addAll (e : Rat) : ∀ {F : W} (L : W), Dct F → evl (addAll F L) e = evl F e + evl L e
  | F, [], _ => by show evl F e = evl F e + 0; grind
  | F, p :: L, h => by
    show evl (addAll (addW F p.1 p.2) L) e = _
    rw [evl_addAll e L (addW_dct h p.1 p.2), evl_addW h, evl_cons]; grind
/-- the size of a number -/
def absR (q : Rat) : Rat := if q < 0 then -q else q
theorem absR_nonneg (q : Rat) : 0 ≤ absR q := by unfold absR; split <;> grind
theorem absR_add (p q : Rat) : absR (p + q) ≤ absR p + absR q := by unfold absR; split <;> split <;> split <;> grind
theorem absR_le {p b : Rat} (h1 : p ≤ b) (h2 : -p ≤ b) : absR p ≤ b := by unfold absR; split <;> grind
theorem le_absR (p : Rat) : p ≤ absR p ∧ -p ≤ absR p := by unfold absR; split <;> grind
theorem absR_pos {p : Rat} (h : p ≠ 0) : 0 < absR p := by unfold absR; split <;> grind
theorem absR_mul (p q : Rat) : absR (p * q) = absR p * absR q := by
  have hp : absR p = p ∧ 0 ≤ p ∨ absR p = -p ∧ p < 0 := by unfold absR; split <;> grind
  have hq : absR q = q ∧ 0 ≤ q ∨ absR q = -q ∧ q < 0 := by unfold absR; split <;> grind
  have key : ∀ x y : Rat, 0 ≤ x * y → absR (x * y) = x * y := fun x y h => by unfold absR; rw [if_neg (Rat.not_lt.mpr h)]
  have key2 : ∀ x y : Rat, x * y ≤ 0 → absR (x * y) = -(x * y) := fun x y h => by unfold absR; split <;> grind
  rcases hp with ⟨e1, h1⟩ | ⟨e1, h1⟩ <;> rcases hq with ⟨e2, h2⟩ | ⟨e2, h2⟩ <;> rw [e1, e2]
  · exact key _ _ (Rat.mul_nonneg h1 h2)
  · have := Rat.mul_nonneg h1 (show 0 ≤ -q by grind)
    rw [key2 _ _ (by grind)]; grind
  · have := Rat.mul_nonneg (show 0 ≤ -p by grind) h2
    rw [key2 _ _ (by grind)]; grind
  · have := Rat.mul_nonneg (show 0 ≤ -p by grind) (show 0 ≤ -q by grind)
    rw [key _ _ (by grind)]; grind
/-- the greatest size of the numbers of terms -/
def gmax (w : W) : Rat := w.foldl (fun m p => if m < absR p.2 then absR p.2 else m) 0
theorem gfold_ge : ∀ (w : W) (m : Rat), m ≤ w.foldl (fun m p => if m < absR p.2 then absR p.2 else m) m
  | [], m => Rat.le_refl
  | p :: w, m => by
    have := gfold_ge w (if m < absR p.2 then absR p.2 else m)
    refine Rat.le_trans ?_ this
    split
    · rename_i h; exact Rat.le_of_lt h
    · exact Rat.le_refl
theorem gfold_mem : ∀ (w : W) (m : Rat), ∀ p ∈ w, absR p.2 ≤ w.foldl (fun m p => if m < absR p.2 then absR p.2 else m) m
  | q :: w, m, p, hp => by
    rcases (List.mem_cons.mp hp) with rfl | hp
    · refine Rat.le_trans ?_ (gfold_ge w _)
      show absR p.2 ≤ if m < absR p.2 then absR p.2 else m
      split
      · exact Rat.le_refl
      · rename_i h; exact Rat.not_lt.mp h
    · exact gfold_mem w _ p hp
theorem gmax_nonneg (w : W) : 0 ≤ gmax w := gfold_ge w 0
theorem gmax_mem {w : W} {p : Int × Rat} (h : p ∈ w) : absR p.2 ≤ gmax w := gfold_mem w 0 p h
/-- powers of a number below 1 -/
theorem zpow_le {e : Rat} (h0 : 0 < e) (h1 : e ≤ 1) {a b : Int} (h : a ≤ b) : e ^ b ≤ e ^ a := by
  obtain ⟨n, rfl⟩ : ∃ n : Nat, b = a + n := ⟨(b - a).toNat, by omega⟩
  clear h
  induction n with
  | zero => rw [show a + ((0 : Nat) : Int) = a by omega]; exact Rat.le_refl
  | succ n ih =>
    refine Rat.le_trans ?_ ih
    rw [show a + ((n + 1 : Nat) : Int) = (a + n) + 1 by omega, Rat.zpow_add_one (Rat.ne_of_gt h0)]
    have h2 : 0 ≤ e ^ (a + (n : Int)) := Rat.zpow_nonneg (Rat.le_of_lt h0)
    have := Rat.mul_le_mul_of_nonneg_left h1 h2
    grind
/-- what stands behind a power -/
theorem tail_le {e g : Rat} (h0 : 0 < e) (h1 : e < 1) (hg : 0 ≤ g) : ∀ (w : W) (m : Int), Can w → (∀ p ∈ w, m < p.1) → (∀ p ∈ w, absR p.2 ≤ g) → (1 - e) * absR (evl w e) ≤ g * e ^ (m + 1)
  | [], m, _, _, _ => by
    have : absR (evl [] e) = 0 := by show absR 0 = 0; unfold absR; rw [if_neg Rat.lt_irrefl]
    rw [this]
    have := Rat.mul_nonneg hg (Rat.zpow_nonneg (n := m + 1) (Rat.le_of_lt h0))
    grind
  | p :: w, m, ha, hm, hc => by
    have ha' : Can w ∧ ∀ q ∈ w, p.1 < q.1 := ⟨⟨(List.pairwise_cons.mp ha.asc).2, fun q hq => ha.nz q (by simp [hq])⟩, ha.head⟩
    have ih := tail_le h0 h1 hg w p.1 ha'.1 ha'.2 fun q hq => hc q (by simp [hq])
    have hp := hc p (by simp)
    have hk : 0 ≤ e ^ p.1 := Rat.zpow_nonneg (Rat.le_of_lt h0)
    have h1e : 0 ≤ 1 - e := by grind
    have e1 : absR (p.2 * e ^ p.1) = absR p.2 * e ^ p.1 := by
      rw [absR_mul]
      congr 1
      unfold absR; rw [if_neg (Rat.not_lt.mpr hk)]
    have h3 := absR_add (p.2 * e ^ p.1) (evl w e)
    rw [e1] at h3
    have h4 : absR p.2 * e ^ p.1 ≤ g * e ^ p.1 := Rat.mul_le_mul_of_nonneg_right hp hk
    have h5 := Rat.mul_le_mul_of_nonneg_left h3 h1e
    have h6 := Rat.mul_le_mul_of_nonneg_left h4 h1e
    rw [Rat.zpow_add_one (Rat.ne_of_gt h0)] at ih
    have h7 : e ^ p.1 ≤ e ^ (m + 1) := zpow_le h0 (Rat.le_of_lt h1) (by have := hm p (by simp); omega)
    have h8 := Rat.mul_le_mul_of_nonneg_left h7 hg
    rw [evl_cons]
    generalize e ^ p.1 = x at *
    generalize e ^ (m + 1) = y at *
    generalize absR (p.2 * x + evl w e) = u at *
    generalize absR p.2 = c at *
    generalize absR (evl w e) = v at *
    grind
end R

/-! B2: how great what is left of a quotient may be. -/
namespace R
open PySem L2
open scoped Rat
/-- up to where the bound holds -/
def belR (b g : Rat) : Rat := if b / (b + 2 * g) < 1 / 2 then b / (b + 2 * g) else 1 / 2
theorem belR_pos {b g : Rat} (hb : 0 < b) (hg : 0 ≤ g) : 0 < belR b g ∧ belR b g ≤ 1 / 2 := by
  have h2 : 0 < b + 2 * g := by grind
  have h3 : 0 < b / (b + 2 * g) := by rw [Rat.div_def]; exact Rat.mul_pos hb (Rat.inv_pos.mpr h2)
  unfold belR
  split
  · rename_i h; exact ⟨h3, Rat.le_of_lt h⟩
  · exact ⟨by grind, Rat.le_refl⟩
theorem belR_le {b g e : Rat} (hb : 0 < b) (hg : 0 ≤ g) (he : e ≤ belR b g) : e * (b + 2 * g) ≤ b := by
  have h2 : 0 < b + 2 * g := by grind
  have h1 : e ≤ b / (b + 2 * g) := by
    unfold belR at he
    split at he
    · exact he
    · rename_i h; exact Rat.le_trans he (Rat.not_lt.mp h)
  have h3 := Rat.mul_le_mul_of_nonneg_right h1 (Rat.le_of_lt h2)
  rwa [Rat.div_mul_cancel (Rat.ne_of_gt h2)] at h3
theorem absR_of {x : Rat} (h : 0 ≤ x) : absR x = x := by unfold absR; rw [if_neg (Rat.not_lt.mpr h)]
theorem can_cons {p : Int × Rat} {w : W} (h : Can (p :: w)) : Can w := ⟨(List.pairwise_cons.mp h.asc).2, fun q hq => h.nz q (by simp [hq])⟩
theorem foot_ge {f : Int} {b e : Rat} {ft : W} (hc : Can ((f, b) :: ft)) (h0 : 0 < e) (he : e ≤ belR (absR b) (gmax ft)) : absR b * e ^ f ≤ 2 * absR (evl ((f, b) :: ft) e) := by
  have hb : 0 < absR b := absR_pos (hc.nz (f, b) (by simp))
  have hg := gmax_nonneg ft
  have h1 := belR_le hb hg he
  have hh := (belR_pos hb hg).2
  have h12 : e ≤ 1 / 2 := Rat.le_trans he hh
  have ht := tail_le h0 (by grind) hg ft f (can_cons hc) hc.head fun p hp => gmax_mem hp
  rw [Rat.zpow_add_one (Rat.ne_of_gt h0)] at ht
  have hx : 0 < e ^ f := Rat.zpow_pos h0
  have e1 : absR (b * e ^ f) = absR b * e ^ f := by rw [absR_mul, absR_of (Rat.le_of_lt hx)]
  have h3 := absR_add (b * e ^ f + evl ft e) (-evl ft e)
  have e2 : b * e ^ f + evl ft e + -evl ft e = b * e ^ f := by grind
  have e3 : absR (-evl ft e) = absR (evl ft e) := by unfold absR; split <;> split <;> grind
  rw [e2, e1, e3] at h3
  rw [evl_cons]
  have h4 : 0 < 1 - e := by grind
  have h5 := Rat.mul_le_mul_of_nonneg_left h3 (Rat.le_of_lt h4)
  have h6 := Rat.mul_le_mul_of_nonneg_right h1 (Rat.le_of_lt hx)
  refine Rat.le_of_mul_le_mul_left (c := 1 - e) ?_ h4
  generalize e ^ f = x at *
  generalize absR (b * x + evl ft e) = u at *
  generalize absR (evl ft e) = v at *
  generalize absR b = c at *
  generalize gmax ft = g at *
  grind
theorem rest_le {r : Int} {c e : Rat} {rt : W} (hc : Can ((r, c) :: rt)) (h0 : 0 < e) (he : e ≤ 1 / 2) : absR (evl ((r, c) :: rt) e) ≤ (absR c + gmax rt) * e ^ r := by
  have hg := gmax_nonneg rt
  have ht := tail_le h0 (by grind) hg rt r (can_cons hc) hc.head fun p hp => gmax_mem hp
  rw [Rat.zpow_add_one (Rat.ne_of_gt h0)] at ht
  have hx : 0 < e ^ r := Rat.zpow_pos h0
  have e1 : absR (c * e ^ r) = absR c * e ^ r := by rw [absR_mul, absR_of (Rat.le_of_lt hx)]
  have h3 := absR_add (c * e ^ r) (evl rt e)
  rw [e1] at h3
  rw [evl_cons]
  have h4 : 0 < 1 - e := by grind
  have h5 : gmax rt * (e ^ r * e) ≤ gmax rt * (e ^ r * (1 - e)) := by
    have := Rat.mul_le_mul_of_nonneg_left (show e ≤ 1 - e by grind) (Rat.mul_nonneg hg (Rat.le_of_lt hx))
    grind
  have h6 : absR (evl rt e) ≤ gmax rt * e ^ r := by
    refine Rat.le_of_mul_le_mul_left (c := 1 - e) ?_ h4
    grind
  grind
/-- what is left, at a number -/
theorem left_evl {A B T R : W} {b : Int} (dA : Dct A) (dB : Dct B) (cT : Can T) (cR : Can R) (h : ∀ k, cf R k = cf A (k - b) - conv (cf T) B (k - b)) {e : Rat} (h0 : e ≠ 0) : evl R e = (evl A e - evl T e * evl B e) * e ^ b := by
  have d0 : Dct (addAll [] (shW (A ++ negW (prodW T B)) b)) := addAll_dct Dct.nil _
  have h1 : evl R e = evl (addAll [] (shW (A ++ negW (prodW T B)) b)) e := evl_ext e cR.dct d0 fun k => by
    rw [addAll_cf Dct.nil, cf_sh, cf_app, cf_neg, cf_prod, h k]
    show _ = (0 : Rat) + _
    grind
  rw [h1, evl_addAll e _ Dct.nil, evl_sh h0, evl_app, evl_neg, evl_prod h0, evl_nil]
  grind
theorem bound_le {A B T R : W} {b f r : Int} {e b0 c : Rat} {ft rt : W} (dA : Dct A) (dB : Dct B) (cT : Can T) (cR : Can R) (h : ∀ k, cf R k = cf A (k - b) - conv (cf T) B (k - b))
    (eB : nrm B = (f, b0) :: ft) (eR : R = (r, c) :: rt) (h0 : 0 < e) (he : e ≤ belR (absR b0) (gmax ft)) :
    absR (evl A e / evl B e - evl T e) ≤ 2 * (absR c + gmax rt) / absR b0 * e ^ (r - (f + b)) := by
  have cB := nrm_can dB.nd
  have e1 : evl B e = evl (nrm B) e := evl_ext e dB cB.dct fun k => (nrm_cf dB.nd k).symm
  rw [eB] at cB e1
  have hb : 0 < absR b0 := absR_pos (cB.nz (f, b0) (by simp))
  have hg := foot_ge cB h0 he
  rw [← e1] at hg
  have h12 : e ≤ 1 / 2 := Rat.le_trans he (belR_pos hb (gmax_nonneg ft)).2
  have hl := left_evl dA dB cT cR h (Rat.ne_of_gt h0)
  rw [eR] at hl cR
  have hr := rest_le cR h0 h12
  rw [hl] at hr
  have hx : 0 < e ^ f := Rat.zpow_pos h0
  have hy : 0 < e ^ b := Rat.zpow_pos h0
  have hB : evl B e ≠ 0 := fun z => by
    rw [z] at hg
    have : absR 0 = 0 := absR_of Rat.le_refl
    rw [this] at hg
    have := Rat.mul_pos hb hx
    grind
  have e2 : evl A e - evl T e * evl B e = (evl A e / evl B e - evl T e) * evl B e := by
    have : evl A e = evl A e / evl B e * evl B e := (Rat.div_mul_cancel hB).symm
    grind
  rw [e2, absR_mul, absR_mul, absR_of (Rat.le_of_lt hy)] at hr
  have e3 : e ^ r = e ^ (r - (f + b)) * (e ^ f * e ^ b) := by rw [← Rat.zpow_add (Rat.ne_of_gt h0), ← Rat.zpow_add (Rat.ne_of_gt h0)]; congr 1; omega
  rw [e3] at hr
  generalize evl A e / evl B e - evl T e = x at *
  have hu := absR_nonneg x
  have h5 := Rat.mul_le_mul_of_nonneg_left hg (Rat.mul_nonneg hu (Rat.le_of_lt hy))
  have h6 : absR x * absR b0 ≤ 2 * (absR c + gmax rt) * e ^ (r - (f + b)) := by
    refine Rat.le_of_mul_le_mul_right (c := e ^ f * e ^ b) ?_ (Rat.mul_pos hx hy)
    generalize e ^ f = xf at *
    generalize e ^ b = xb at *
    generalize e ^ (r - (f + b)) = z at *
    generalize absR (evl B e) = w at *
    grind
  refine Rat.le_of_mul_le_mul_right (c := absR b0) ?_ hb
  have e4 : 2 * (absR c + gmax rt) / absR b0 * e ^ (r - (f + b)) * absR b0 = 2 * (absR c + gmax rt) * e ^ (r - (f + b)) := by
    have : 2 * (absR c + gmax rt) / absR b0 * absR b0 = 2 * (absR c + gmax rt) := Rat.div_mul_cancel (Rat.ne_of_gt hb)
    grind
  rw [e4]
  exact h6
theorem foot_ne {B : W} {f : Int} {e b0 : Rat} {ft : W} (dB : Dct B) (eB : nrm B = (f, b0) :: ft) (h0 : 0 < e) (he : e ≤ belR (absR b0) (gmax ft)) : evl B e ≠ 0 := fun z => by
  have cB := nrm_can dB.nd
  have e1 : evl B e = evl (nrm B) e := evl_ext e dB cB.dct fun k => (nrm_cf dB.nd k).symm
  rw [eB] at cB e1
  have hg := foot_ge cB h0 he
  rw [← e1, z, absR_of Rat.le_refl] at hg
  have := Rat.mul_pos (absR_pos (cB.nz (f, b0) (by simp)) : 0 < absR b0) (Rat.zpow_pos h0 : 0 < e ^ f)
  grind
theorem bound_nil {A B T : W} {b : Int} {e : Rat} (dA : Dct A) (dB : Dct B) (cT : Can T) (h : ∀ k, cf ([] : W) k = cf A (k - b) - conv (cf T) B (k - b)) (h0 : 0 < e) (hB : evl B e ≠ 0) : evl A e / evl B e - evl T e = 0 := by
  have hl := left_evl dA dB cT ⟨.nil, by simp⟩ h (Rat.ne_of_gt h0)
  have hy : 0 < e ^ b := Rat.zpow_pos h0
  have h1 : evl A e - evl T e * evl B e = 0 := by
    rw [evl_nil] at hl
    rcases Rat.mul_eq_zero.mp hl.symm with z | z
    · exact z
    · rw [z] at hy; exact absurd hy Rat.lt_irrefl
  have e1 : evl A e / evl B e * evl B e = evl A e := Rat.div_mul_cancel hB
  have h2 : (evl A e / evl B e - evl T e) * evl B e = 0 := by grind
  rcases Rat.mul_eq_zero.mp h2 with z | z
  · exact z
  · exact absurd z hB
end R

/-! C1: sizes are compared. -/
namespace R
open PySem L2
open scoped Rat
theorem frD_abs (q : Rat) : D.tup [.int (if q.num < 0 then -q.num else q.num), .int q.den] = frD (absR q) := by
  unfold absR frD
  by_cases h : q < 0
  · rw [if_pos h, if_pos ((lt_num q).mpr h)]
    simp
  · rw [if_neg h, if_neg fun z => h ((lt_num q).mp z)]
theorem sz_abs {q : Rat} {k : Nat} (h : Sz k q) : Sz k (absR q) := by
  unfold absR
  split
  · exact sz_neg h
  · exact h
theorem multiplied_ok (n : Nat) (p q : Rat) (κ : Cells) (hp : Sz (4000 + 1) p) (hq : Sz (3998 + 1) q) : callN P0 (n + 2) 5 [frD p, frD q] κ = .ok (frD (p * q), κ) := by
  rw [call0 (fn := ⟨2, 2, Pr.b_multiplied⟩) rfl rfl]
  have e := fracof_ok n (p.num * q.num) (p.den * q.den) κ (Int.mul_ne_zero (den0 p) (den0 q)) ((hp.2.mul hq.2).up (by decide))
  rw [mul_eq] at e
  simp [sizeLine_eq, startS, wipeS, assignT, assign1, setAt_eq, isTy, Pr.b_multiplied, frD, b_mul (hp.1.ok hq.1 (by decide)), b_mul (hp.2.ok hq.2 (by decide))]
  rw [e]
  simp [sizeLine_eq, startS, wipeS, assignT, assign1, setAt_eq, isTy, frD]
theorem less_eq (p q : Rat) : decide (p.num * q.den < q.num * p.den) = decide (p < q) := by
  simp only [Rat.lt_iff]
theorem isless_ok (n : Nat) (p q : Rat) (κ : Cells) (hp : Sz 5000 p) (hq : Sz 5000 q) : callN P0 (n + 1) 7 [frD p, frD q] κ = .ok (.bl (decide (p < q)), κ) := by
  rw [call0 (fn := ⟨2, 2, Pr.b_is_less⟩) rfl rfl]
  have h1 : mulOk p.num q.den = true := Lt2.ok (k := 4999) (l := 4999) hp.1 hq.2 (by decide)
  have h2 : mulOk q.num p.den = true := Lt2.ok (k := 4999) (l := 4999) hq.1 hp.2 (by decide)
  simp -implicitDefEqProofs [sizeLine_eq, startS, wipeS, assignT, assign1, setAt_eq, isTy, Pr.b_is_less, frD, b_mul h1, b_mul h2, ← less_eq]
theorem lisless_ok (n : Nat) (p q : Rat) (κ : Cells) (hp : Sz 5000 p) (hq : Sz 5000 q) : callN P0 (n + 1) 35 [frD p, frD q] κ = .ok (.bl (decide (p < q)), κ) := by
  rw [call0 (fn := ⟨2, 2, Pr.b__law_is_less⟩) rfl rfl]
  have h1 : mulOk p.num q.den = true := Lt2.ok (k := 4999) (l := 4999) hp.1 hq.2 (by decide)
  have h2 : mulOk q.num p.den = true := Lt2.ok (k := 4999) (l := 4999) hq.1 hp.2 (by decide)
  simp -implicitDefEqProofs [sizeLine_eq, startS, wipeS, assignT, assign1, setAt_eq, isTy, Pr.b__law_is_less, frD, b_mul h1, b_mul h2, ← less_eq]
theorem sizeof_ok (n : Nat) (p : Int × Rat) (κ : Cells) : callN P0 (n + 1) 23 [tD p] κ = .ok (frD (absR p.2), κ) := by
  rw [call0 (fn := ⟨1, 1, Pr.b_size_of⟩) rfl rfl]
  simp -implicitDefEqProofs [sizeLine_eq, startS, wipeS, assignT, assign1, setAt_eq, isTy, Pr.b_size_of, tD, ← frD_abs]
theorem sz_zero (k : Nat) (h : 1 ≤ k) : Sz k 0 := by
  have : (1 : Nat) < 2 ^ k := Nat.lt_of_lt_of_le (show 1 < 2 ^ 1 by decide) (Nat.pow_le_pow_right (by decide) h)
  exact ⟨by show (0 : Nat) < _; omega, by show (1 : Nat) < _; omega⟩
theorem gmax_snoc (w : W) (p : Int × Rat) : gmax (w ++ [p]) = if gmax w < absR p.2 then absR p.2 else gmax w := by
  unfold gmax
  rw [List.foldl_append]
  rfl
theorem gmax_sz {k : Nat} (hk : 1 ≤ k) : ∀ (w : W), (∀ p ∈ w, Sz k p.2) → Sz k (gmax w) := fun w => by
  suffices h : ∀ (w : W) (m : Rat), Sz k m → (∀ p ∈ w, Sz k p.2) → Sz k (w.foldl (fun m p => if m < absR p.2 then absR p.2 else m) m) from fun hw => h w 0 (sz_zero k hk) hw
  intro w
  induction w with
  | nil => exact fun m hm _ => hm
  | cons p w ih =>
    intro m hm hw
    refine ih _ ?_ fun q hq => hw q (by simp [hq])
    show Sz k (if m < absR p.2 then absR p.2 else m)
    split
    · exact sz_abs (hw p (by simp))
    · exact hm
theorem frD_zero : frD 0 = .tup [.int 0, .int 1] := rfl
theorem greatest_ok (n : Nat) (w : W) (κ : Cells) (hs : ∀ p ∈ w, Sz 5000 p.2) : callN P0 (n + 2) 24 [wD w] κ = .ok (frD (gmax w), κ) := by
  suffices h : ∃ d κ', callN P0 (n + 2) 24 [wD w] κ = .ok (d, κ') ∧ (d = frD (gmax w) ∧ κ' = κ) by
    obtain ⟨d, κ', h, rfl, rfl⟩ := h
    exact h
  refine good_callQ (fn := ⟨1, 3, Pr.b_greatest⟩) rfl rfl fun Q hQ => ?_
  have hw : wD w = .tup (w.map tD) := rfl
  simp -implicitDefEqProofs [sizeLine_eq, startS, wipeS, assignT, assign1, setAt_eq, isTy, Pr.b_greatest, hw]
  refine good_for (I := fun ys σ κ' => κ' = κ ∧ ∃ (P S : W) (u : Option D), w = P ++ S ∧ ys = S.map tD ∧ σ = [some (.fz (.tup (w.map tD))), some (.fz (frD (gmax P))), Option.map O.fz u]) ?_ ?_ ?_
  · exact ⟨rfl, [], w, none, rfl, rfl, rfl⟩
  · rintro x ys σ κ' ⟨rfl, P, S, u, e, hy, rfl⟩
    cases S with
    | nil => simp at hy
    | cons p S =>
      simp only [List.map_cons, List.cons.injEq] at hy
      obtain ⟨rfl, rfl⟩ := hy
      have h1 : ∀ q ∈ P, Sz 5000 q.2 := fun q hq => hs q (by rw [e]; simp [hq])
      have h2 : Sz 5000 p.2 := hs p (by rw [e]; simp)
      have e1 := sizeof_ok n p κ'
      have e2 := isless_ok n (gmax P) (absR p.2) κ' (gmax_sz (by decide) P h1) (sz_abs h2)
      refine ⟨_, κ', ?_, rfl, P ++ [p], S, some (tD p), by rw [e]; simp, rfl, rfl⟩
      rw [gmax_snoc]
      generalize tD p = t at *
      by_cases h : gmax P < absR p.2
      · rw [if_pos h]
        rw [decide_eq_true h] at e2
        simp -implicitDefEqProofs [sizeLine_eq, startS, wipeS, assignT, assign1, setAt_eq, isTy, e1, e2]
      · rw [if_neg h]
        rw [decide_eq_false h] at e2
        simp -implicitDefEqProofs [sizeLine_eq, startS, wipeS, assignT, assign1, setAt_eq, isTy, e1, e2]
  · rintro σ κ' ⟨rfl, P, S, u, e, hy, rfl⟩
    cases S with
    | nil =>
      rw [List.append_nil] at e
      subst e
      simp -implicitDefEqProofs [sizeLine_eq, startS, wipeS, assignT, assign1, setAt_eq, isTy, ]
      exact hQ _ _ ⟨rfl, rfl⟩
    | cons p S => simp at hy
end R

set_option exponentiation.threshold 5000
/-! C2: the bound, as the program tells it. -/
namespace R
open PySem L2
open scoped Rat
theorem sz_frac {a d : Int} {k : Nat} (hd : d ≠ 0) (ha : Lt2 k a) (hb : Lt2 k d) : Sz k (a /. d) := by
  have hg : 0 < d.gcd a := Int.gcd_pos_iff.mpr (.inl hd)
  have h1 : (a /. d).num.natAbs ≤ a.natAbs := by
    rw [Rat.num_divInt]
    have : (d.sign * a / (d.gcd a : Int)).natAbs ≤ (d.sign * a).natAbs := Int.natAbs_ediv_le_natAbs _ _
    refine Nat.le_trans this ?_
    rw [Int.natAbs_mul]
    have : d.sign.natAbs = 1 := Int.natAbs_sign_of_ne_zero hd
    rw [this, Nat.one_mul]
    exact Nat.le_refl _
  have h2 : (a /. d).den ≤ d.natAbs := by
    rw [Rat.den_divInt, if_neg hd]
    exact Nat.div_le_self _ _
  exact ⟨Nat.lt_of_le_of_lt h1 ha, by
    show (((a /. d).den : Int)).natAbs < _
    rw [Int.natAbs_natCast]
    exact Nat.lt_of_le_of_lt h2 hb⟩
theorem Sz.mul {j k : Nat} {p q : Rat} (hp : Sz j p) (hq : Sz k q) : Sz (j + k) (p * q) := by
  rw [← mul_eq]
  exact sz_frac (Int.mul_ne_zero (den0 p) (den0 q)) (hp.1.mul hq.1) (hp.2.mul hq.2)
theorem Sz.add {j k : Nat} {p q : Rat} (hp : Sz j p) (hq : Sz k q) : Sz (j + k + 1) (p + q) := by
  rw [← added_eq]
  refine sz_frac (Int.mul_ne_zero (den0 p) (den0 q)) ?_ ((hp.2.mul hq.2).up (by omega))
  exact ((hp.1.mul hq.2).add ((hq.1.mul hp.2).up (by omega)))
theorem Sz.div {j k : Nat} {p q : Rat} (h0 : q ≠ 0) (hp : Sz j p) (hq : Sz k q) : Sz (j + k) (p / q) := by
  rw [← div_eq]
  exact sz_frac (Int.mul_ne_zero (den0 p) (num0 h0)) (hp.1.mul hq.2) (hp.2.mul hq.1)
theorem gmax_sh (w : W) (b : Int) : gmax (shW w b) = gmax w := by
  unfold gmax shW
  rw [List.foldl_map]
theorem cut_tl {α : Type} (x : α) (xs : List α) : cutD (x :: xs) (some 1) none = xs := by
  have := cut_hi (x :: xs) 1 (by simp)
  simpa using this
theorem absR_dv {Δ M : Nat} {r : Rat} (h : Dv Δ M r) : Dv Δ M (absR r) := by
  unfold absR
  split
  · exact h.neg
  · exact h
theorem gmax_dv {Δ M : Nat} : ∀ (w : W), (∀ p ∈ w, Dv Δ M p.2) → Dv Δ M (gmax w) := fun w => by
  suffices h : ∀ (w : W) (m : Rat), Dv Δ M m → (∀ p ∈ w, Dv Δ M p.2) → Dv Δ M (w.foldl (fun m p => if m < absR p.2 then absR p.2 else m) m) from fun hw => h w 0 (Dv.zero _ _) hw
  intro w
  induction w with
  | nil => exact fun m hm _ => hm
  | cons p w ih =>
    intro m hm hw
    refine ih _ ?_ fun q hq => hw q (by simp [hq])
    show Dv Δ M (if m < absR p.2 then absR p.2 else m)
    split
    · exact absR_dv (hw p (by simp))
    · exact hm
theorem sz_two : Sz 2 2 := ⟨by show (2 : Nat) < _; decide, by show (1 : Nat) < _; decide⟩
section
variable {A B : W} {f fl lo : Int} {Δ0 M0 Δb Mb : Nat} {z0 most : Int} {T R : W}
/-- all that is known of a bound -/
structure Bnd (A B : W) (f lo : Int) (Δ0 M0 Mb : Nat) (z0 most : Int) (T R : W) (b0 : Rat) (ft : W) : Prop where
  s : Ser A B f lo Δ0 M0 Mb z0 most T
  l : Lft A B T R
  eB : nrm B = (f, b0) :: ft
  sB : ∀ p ∈ nrm B, Sz 7 p.2
def sizR (b0 c : Rat) (rt : W) : Rat := 2 * (absR c + gmax rt) / absR b0
def bndV (f most : Int) (T : W) (b0 : Rat) (v : D) : W → D
  | [] => .tup [.int (most + 1), .tup [.int 0, .int 1], v]
  | (r, c) :: rt => .tup [.int (r - (f + byOf T)), frD (sizR b0 c rt), v]
def bndD (f most : Int) (T R : W) (b0 : Rat) (ft : W) : D := bndV f most T b0 (frD (belR (absR b0) (gmax ft))) R
variable {b0 : Rat} {ft : W}
theorem Bnd.b (h : Qd A B f fl lo Δ0 M0 Δb Mb z0) (k : Bnd A B f lo Δ0 M0 Mb z0 most T R b0 ft) : 0 < absR b0 ∧ Sz 7 (absR b0) ∧ Sz 7 (gmax ft) := by
  have cB := nrm_can h.b.t.d.nd
  have hB := k.sB
  rw [k.eB] at cB hB
  exact ⟨absR_pos (cB.nz (f, b0) (by simp)), sz_abs (hB (f, b0) (by simp)), gmax_sz (by decide) ft fun p hp => hB p (by simp [hp])⟩
theorem Bnd.bel0 (h : Qd A B f fl lo Δ0 M0 Δb Mb z0) (k : Bnd A B f lo Δ0 M0 Mb z0 most T R b0 ft) : Sz 24 (absR b0 / (absR b0 + 2 * gmax ft)) ∧ Sz 17 (absR b0 + 2 * gmax ft) ∧ Sz 9 (2 * gmax ft) ∧ absR b0 + 2 * gmax ft ≠ 0 := by
  obtain ⟨h0, h1, h2⟩ := k.b h
  have h3 := sz_two.mul h2
  have h4 := h1.add h3
  have hg := gmax_nonneg ft
  have h5 : absR b0 + 2 * gmax ft ≠ 0 := by grind
  exact ⟨h1.div h5 h4, h4, h3, h5⟩
theorem Bnd.bel (h : Qd A B f fl lo Δ0 M0 Δb Mb z0) (k : Bnd A B f lo Δ0 M0 Mb z0 most T R b0 ft) : Sz 24 (belR (absR b0) (gmax ft)) := by
  unfold belR
  split
  · exact (k.bel0 h).1
  · have e : (1 / 2 : Rat) = 1 /. 2 := by decide +kernel
    rw [e]
    exact sz_frac (by decide) (by show (1 : Nat) < _; decide) (by show (2 : Nat) < _; decide)
theorem Bnd.siz (h : Qd A B f fl lo Δ0 M0 Δb Mb z0) (k : Bnd A B f lo Δ0 M0 Mb z0 most T R b0 ft) {r : Int} {c : Rat} {rt : W} (e : R = (r, c) :: rt) :
    Sz 1757 (sizR b0 c rt) ∧ Sz 1750 (2 * (absR c + gmax rt)) ∧ Sz 1750 (absR c + gmax rt) ∧ Sz 1750 (absR c) ∧ Sz 1750 (gmax rt) := by
  obtain ⟨h0, h1, h2⟩ := k.b h
  have hd := k.s.rdv h k.l
  rw [e] at hd
  have d1 := absR_dv (hd (r, c) (by simp))
  have d2 := gmax_dv rt fun p hp => hd p (by simp [hp])
  obtain ⟨p0, p1⟩ := h.ddb
  have d3 := d1.add d2 p0
  have d4 := d3.add d3 p0
  have e2 : absR c + gmax rt + (absR c + gmax rt) = 2 * (absR c + gmax rt) := by grind
  rw [show ((r, c) : Int × Rat).2 = c from rfl, e2] at d4
  have q1 : (2 : Nat) ^ 1750 = 8 * (4 * 2 ^ 1745) := by rw [show (1750 : Nat) = 1745 + 5 from rfl, Nat.pow_add]
  have q2 : 0 < (2 : Nat) ^ 1745 := Nat.pow_pos (by decide)
  have q3 : dT Δ0 z0 * Δb < 2 ^ 1750 := Nat.lt_of_le_of_lt p1 (Nat.pow_lt_pow_right (by decide) (by decide))
  have s4 : Sz 1750 (2 * (absR c + gmax rt)) := d4.sz p0 (by omega) q3
  exact ⟨s4.div (Rat.ne_of_gt h0) h1, s4, d3.sz p0 (by omega) q3, d1.sz p0 (by omega) q3, d2.sz p0 (by omega) q3⟩
theorem half_eq : frD (1 / 2) = .tup [.int 1, .int 2] := by
  unfold frD
  rw [show (1 / 2 : Rat).num = 1 by decide +kernel, show (1 / 2 : Rat).den = 2 by decide +kernel]
  rfl
theorem sz_half : Sz 24 (1 / 2) := by
  have e : (1 / 2 : Rat) = 1 /. 2 := by decide +kernel
  rw [e]
  exact sz_frac (by decide) (by show (1 : Nat) < _; decide) (by show (2 : Nat) < _; decide)
theorem Bnd.prog (h : Qd A B f fl lo Δ0 M0 Δb Mb z0) (k : Bnd A B f lo Δ0 M0 Mb z0 most T R b0 ft) (n : Nat) (κ : Cells) :
    ∃ κ', callN P0 (n + 6) 25 [oneD A B, .int most] κ = .ok (bndD f most T R b0 ft, κ') ∧ Gr κ κ' := by
  obtain ⟨κ1, e1, g1⟩ := k.s.run n κ
  obtain ⟨κ2, e2, g2⟩ := k.l.run n κ1
  have ew : wD (shW (nrm B) (byOf T)) = .tup (tD (f + byOf T, b0) :: (shW ft (byOf T)).map tD) := by rw [k.eB]; rfl
  rw [ew] at e2
  obtain ⟨h0, h1, h2⟩ := k.b h
  obtain ⟨b1, b2, b3, b4⟩ := k.bel0 h
  have hB := k.sB
  rw [k.eB] at hB
  have e3 := sizeof_ok (n + 4) (f + byOf T, b0) κ2
  have e4 := greatest_ok (n + 3) (shW ft (byOf T)) κ2 fun p hp => by
    obtain ⟨q, hq, rfl⟩ := (List.mem_map.mp hp)
    exact (hB q (by simp [hq])).up (by decide)
  rw [gmax_sh] at e4
  have e5 := multiplied_ok (n + 3) 2 (gmax ft) κ2 (sz_two.up (by decide)) (h2.up (by decide))
  have e6 := added_ok (n + 3) (absR b0) (2 * gmax ft) κ2 (h1.up (by decide)) (b3.up (by decide))
  have e7 := divided_ok (n + 3) (absR b0) (absR b0 + 2 * gmax ft) κ2 b4 (h1.up (by decide)) (b2.up (by decide))
  have e8 := isless_ok (n + 4) (absR b0 / (absR b0 + 2 * gmax ft)) (1 / 2) κ2 (b1.up (by decide)) (sz_half.up (by decide))
  rw [show frD 2 = .tup [.int 2, .int 1] from rfl] at e5
  rw [half_eq] at e8
  refine ⟨κ2, ?_, g1.trans g2⟩
  rw [call0 (fn := ⟨2, 8, Pr.b_bound_in⟩) rfl rfl]
  have w1 : wD (shW ft (byOf T)) = .tup ((shW ft (byOf T)).map tD) := rfl
  rw [w1] at e4
  have e1' : callN P0 (n + 5) 20 [oneD A B, .int most] κ = .ok (wD T, κ1) := e1
  have e2' : callN P0 (n + 5) 22 [oneD A B, wD T] κ1 = .ok (.tup [wD R, .tup (tD (f + byOf T, b0) :: (shW ft (byOf T)).map tD)], κ2) := e2
  have e3' : callN P0 (n + 5) 23 [tD (f + byOf T, b0)] κ2 = .ok (frD (absR b0), κ2) := e3
  have q1 := eqD_wnil R
  have he : belR (absR b0) (gmax ft) = if absR b0 / (absR b0 + 2 * gmax ft) < 1 / 2 then absR b0 / (absR b0 + 2 * gmax ft) else 1 / 2 := rfl
  have fz : frD 0 = .tup [.int 0, .int 1] := rfl
  have e4' : callN P0 (n + 5) 24 [.tup ((shW ft (byOf T)).map tD)] κ2 = .ok (frD (gmax ft), κ2) := e4
  have e5' : callN P0 (n + 5) 5 [.tup [.int 2, .int 1], frD (gmax ft)] κ2 = .ok (frD (2 * gmax ft), κ2) := e5
  have e6' : callN P0 (n + 5) 4 [frD (absR b0), frD (2 * gmax ft)] κ2 = .ok (frD (absR b0 + 2 * gmax ft), κ2) := e6
  have e7' : callN P0 (n + 5) 6 [frD (absR b0), frD (absR b0 + 2 * gmax ft)] κ2 = .ok (frD (absR b0 / (absR b0 + 2 * gmax ft)), κ2) := e7
  have e8' : callN P0 (n + 5) 7 [frD (absR b0 / (absR b0 + 2 * gmax ft)), .tup [.int 1, .int 2]] κ2 = .ok (.bl (decide (absR b0 / (absR b0 + 2 * gmax ft) < 1 / 2)), κ2) := e8
  have hv : ∃ v, frD (belR (absR b0) (gmax ft)) = v ∧ v = if decide (absR b0 / (absR b0 + 2 * gmax ft) < 1 / 2) = true then frD (absR b0 / (absR b0 + 2 * gmax ft)) else .tup [.int 1, .int 2] := by
    refine ⟨_, rfl, ?_⟩
    unfold belR
    by_cases hc : absR b0 / (absR b0 + 2 * gmax ft) < 1 / 2
    · rw [if_pos hc, if_pos (by simpa using hc)]
    · rw [if_neg hc, if_neg (by simpa using hc), half_eq]
  obtain ⟨v, hv1, hv2⟩ := hv
  have tk : ∀ κ : Cells, idxC κ (tD (f + byOf T, b0)) (.int 0) = some (.int (f + byOf T)) := fun _ => rfl
  have more : ∀ (r : Int) (c : Rat) (rt : W), R = (r, c) :: rt → callN P0 (n + 5) 23 [tD (r, c)] κ2 = .ok (frD (absR c), κ2) ∧ callN P0 (n + 5) 24 [.tup (rt.map tD)] κ2 = .ok (frD (gmax rt), κ2) ∧
      callN P0 (n + 5) 4 [frD (absR c), frD (gmax rt)] κ2 = .ok (frD (absR c + gmax rt), κ2) ∧ callN P0 (n + 5) 5 [.tup [.int 2, .int 1], frD (absR c + gmax rt)] κ2 = .ok (frD (2 * (absR c + gmax rt)), κ2) ∧
      callN P0 (n + 5) 6 [frD (2 * (absR c + gmax rt)), frD (absR b0)] κ2 = .ok (frD (sizR b0 c rt), κ2) := by
    intro r c rt hR
    obtain ⟨z1, z2, z3, z4, z5⟩ := k.siz h hR
    have hs := k.s.rsz h k.l
    rw [hR] at hs
    have m := multiplied_ok (n + 3) 2 (absR c + gmax rt) κ2 (sz_two.up (by decide)) (z3.up (by decide))
    rw [show frD 2 = .tup [.int 2, .int 1] from rfl] at m
    exact ⟨sizeof_ok (n + 4) (r, c) κ2, greatest_ok (n + 3) rt κ2 fun p hp => (hs p (by simp [hp])).up (by decide), added_ok (n + 3) _ _ κ2 (z4.up (by decide)) (z5.up (by decide)), m,
      divided_ok (n + 3) _ _ κ2 (Rat.ne_of_gt h0) (z2.up (by decide)) (h1.up (by decide))⟩
  have goal : bndD f most T R b0 ft = bndV f most T b0 v R := by
    unfold bndD
    rw [hv1]
  rw [goal]
  clear goal hv1 e1 e2 e3 e4 e5 e6 e7 e8 he
  generalize decide (absR b0 / (absR b0 + 2 * gmax ft) < 1 / 2) = cB at *
  generalize frD (absR b0 / (absR b0 + 2 * gmax ft)) = bel at *
  have wc : ∀ p (w : W), wD (p :: w) = .tup (tD p :: w.map tD) := fun _ _ => rfl
  cases hR : R with
  | nil =>
    rw [hR] at e2' q1
    cases cB <;> subst hv2 <;> simp -implicitDefEqProofs [sizeLine_eq, startS, wipeS, assignT, assign1, setAt_eq, isTy, bndV, Pr.b_bound_in, exec.exec1, exec.evos, exec.assignO, e1', e2', e3', slc_tup, cut_tl, e4', e5', e6', e7', e8', eqC_w, q1]
  | cons p rt =>
    obtain ⟨r, c⟩ := p
    obtain ⟨m1, m2, m3, m4, m5⟩ := more r c rt hR
    rw [hR] at e2' q1
    have tk2 : ∀ κ : Cells, idxC κ (tD (r, c)) (.int 0) = some (.int r) := fun _ => rfl
    have q1' : eqD (.tup (tD (r, c) :: rt.map tD)) (.tup []) = some false := q1
    rw [wc] at e2'
    cases cB <;> subst hv2 <;> simp -implicitDefEqProofs [sizeLine_eq, startS, wipeS, assignT, assign1, setAt_eq, isTy, bndV, Pr.b_bound_in, exec.exec1, exec.evos, exec.assignO, e1', e2', e3', slc_tup, cut_tl, e4', e5', e6', e7', e8', q1', m1, m2, m3, m4, m5, tk, tk2]
theorem Bnd.bound (h : Qd A B f fl lo Δ0 M0 Δb Mb z0) (k : Bnd A B f lo Δ0 M0 Mb z0 most T R b0 ft) (n : Nat) (κ : Cells) :
    ∃ κ', callN P0 (n + 7) 26 [oneD A B, .int most] κ = .ok (bndD f most T R b0 ft, κ') ∧ Gr κ κ' := by
  obtain ⟨κ1, e, g⟩ := k.prog h n κ
  refine ⟨κ1, ?_, g⟩
  have e1 := h.quot n κ
  have e2 := needm_ok (n + 4) most κ
  rw [call0 (fn := ⟨2, 2, Pr.b_bound⟩) rfl rfl]
  simp -implicitDefEqProofs [sizeLine_eq, startS, wipeS, assignT, assign1, setAt_eq, isTy, Pr.b_bound, e1, e2, show callN P0 (n + 6) 25 [oneD A B, .int most] κ = _ from e]
end
end R

set_option exponentiation.threshold 5000
/-! C3: sums of powers at a number, as the law reckons them. -/
namespace R
open PySem L2
open scoped Rat
/-! ### powers over one bottom -/
theorem pow_num (e : Rat) (n : Nat) : e ^ n * (e.den : Rat) ^ n = (e.num : Rat) ^ n := by
  induction n with
  | zero => simp
  | succ n ih =>
    have h1 : e * (e.den : Rat) = (e.num : Rat) := by
      have h := Rat.num_divInt_den e
      rw [Rat.divInt_eq_div] at h
      have h2 : ((e.den : Int) : Rat) ≠ 0 := by
        intro z
        have : ((e.den : Int) : Rat) = ((0 : Int) : Rat) := z
        rw [Rat.intCast_inj] at this
        have := e.den_pos
        omega
      have h3 := Rat.div_mul_cancel (a := (e.num : Rat)) h2
      rw [h] at h3
      exact h3
    rw [Rat.pow_succ, Rat.pow_succ, Rat.pow_succ, ← ih, ← h1]
    grind
theorem zpow_over {e : Rat} (h0 : e ≠ 0) (K1 K2 : Nat) : ∀ n : Nat, n ≤ K1 + K2 → e ^ ((n : Int) - K1) * ((e.num : Rat) ^ K1 * (e.den : Rat) ^ K2) = (e.num : Rat) ^ n * (e.den : Rat) ^ (K1 + K2 - n)
  | 0, _ => by
    have h1 := pow_num e K1
    have h2 : e ^ (((0 : Nat) : Int) - K1) * e ^ K1 = 1 := by
      rw [show ((0 : Nat) : Int) - K1 = -(K1 : Int) by omega, ← Rat.zpow_natCast, ← Rat.zpow_add h0, show -(K1 : Int) + K1 = 0 by omega, Rat.zpow_zero]
    rw [Nat.sub_zero, Rat.pow_zero, ← h1]
    have h3 : (e.den : Rat) ^ (K1 + K2) = (e.den : Rat) ^ K1 * (e.den : Rat) ^ K2 := by
      have hd : (e.den : Rat) ≠ 0 := by
        intro z
        have h : ((e.den : Nat) : Rat) = ((0 : Nat) : Rat) := z
        rw [Rat.natCast_inj] at h
        exact absurd h e.den_nz
      have := Rat.zpow_add hd K1 K2
      rw [← Int.natCast_add, Rat.zpow_natCast, Rat.zpow_natCast, Rat.zpow_natCast] at this
      exact this
    rw [h3]
    grind
  | n + 1, hn => by
    have ih := zpow_over h0 K1 K2 n (by omega)
    have h1 := pow_num e 1
    rw [Rat.pow_one, Rat.pow_one, Rat.pow_one] at h1
    rw [show ((n + 1 : Nat) : Int) - K1 = ((n : Int) - K1) + 1 by omega, Rat.zpow_add_one h0, Rat.pow_succ]
    have h2 : (e.den : Rat) ^ (K1 + K2 - n) = (e.den : Rat) ^ (K1 + K2 - (n + 1)) * e.den := by
      rw [← Rat.pow_succ]; congr 1; omega
    rw [h2] at ih
    grind
/-- a number above 0 with small numbers -/
structure Em (e : Rat) : Prop where
  pos : 0 < e
  sz : Sz 38 e
theorem Em.ne {e : Rat} (h : Em e) : e ≠ 0 := Rat.ne_of_gt h.pos
theorem Em.num {e : Rat} (h : Em e) : 0 < e.num := by
  have h1 := Rat.num_nonneg.mpr (Rat.le_of_lt h.pos)
  have h2 := num0 h.ne
  omega
def dE (e : Rat) (K1 K2 : Nat) : Nat := e.num.natAbs ^ K1 * e.den ^ K2
theorem Em.d0 {e : Rat} (h : Em e) (K1 K2 : Nat) : 0 < dE e K1 K2 ∧ dE e K1 K2 ≤ 2 ^ (38 * K1 + 38 * K2) := by
  have h1 := h.num
  have h2 := e.den_pos
  have s1 : e.num.natAbs ≤ 2 ^ 38 := Nat.le_of_lt h.sz.1
  have s2 : e.den ≤ 2 ^ 38 := Nat.le_of_lt (by have := h.sz.2; unfold Lt2 at this; rwa [Int.natAbs_natCast] at this)
  exact ⟨Nat.mul_pos (Nat.pow_pos (by omega)) (Nat.pow_pos h2), mul_le2 (pow_le2 K1 s1) (pow_le2 K2 s2)⟩
theorem cast_pow (i : Int) (n : Nat) : ((i ^ n : Int) : Rat) = (i : Rat) ^ n := by
  induction n with
  | zero => simp
  | succ n ih => rw [Int.pow_succ, Rat.pow_succ, ← ih, Rat.intCast_mul]
theorem Em.dv {e : Rat} (h : Em e) (K1 K2 : Nat) {k : Int} (hk : -(K1 : Int) ≤ k ∧ k ≤ K2) : Dv (dE e K1 K2) (2 ^ (38 * (K1 + K2))) (e ^ k) := by
  obtain ⟨n, hn⟩ : ∃ n : Nat, k = (n : Int) - K1 := ⟨(k + K1).toNat, by omega⟩
  have hn2 : n ≤ K1 + K2 := by omega
  have h1 := zpow_over h.ne K1 K2 n hn2
  rw [← hn] at h1
  have s1 : e.num.natAbs ≤ 2 ^ 38 := Nat.le_of_lt h.sz.1
  have s2 : e.den ≤ 2 ^ 38 := Nat.le_of_lt (by have := h.sz.2; unfold Lt2 at this; rwa [Int.natAbs_natCast] at this)
  have hnum := h.num
  refine ⟨e.num ^ n * (e.den : Int) ^ (K1 + K2 - n), ?_, ?_⟩
  · rw [Int.natAbs_mul, Int.natAbs_pow, Int.natAbs_pow, Int.natAbs_natCast]
    calc e.num.natAbs ^ n * e.den ^ (K1 + K2 - n) ≤ 2 ^ (38 * n + 38 * (K1 + K2 - n)) := mul_le2 (pow_le2 n s1) (pow_le2 _ s2)
      _ = 2 ^ (38 * (K1 + K2)) := by congr 1; omega
  · have hd : ((dE e K1 K2 : Nat) : Int) = e.num ^ K1 * (e.den : Int) ^ K2 := by
      unfold dE
      rw [Int.natCast_mul, Int.natCast_pow, Int.natCast_pow]
      congr 2
      omega
    have hne : ((dE e K1 K2 : Nat) : Int) ≠ 0 := by have := (h.d0 K1 K2).1; omega
    rw [Rat.divInt_eq_div]
    have hne2 : (((dE e K1 K2 : Nat) : Int) : Rat) ≠ 0 := fun z => hne (by
      have : (((dE e K1 K2 : Nat) : Int) : Rat) = ((0 : Int) : Rat) := z
      rwa [Rat.intCast_inj] at this)
    have e1 : (((dE e K1 K2 : Nat) : Int) : Rat) = (e.num : Rat) ^ K1 * (e.den : Rat) ^ K2 := by
      rw [hd, Rat.intCast_mul, cast_pow, cast_pow]
      rfl
    have e2 : ((e.num ^ n * (e.den : Int) ^ (K1 + K2 - n) : Int) : Rat) = (e.num : Rat) ^ n * (e.den : Rat) ^ (K1 + K2 - n) := by
      rw [Rat.intCast_mul, cast_pow, cast_pow]
      rfl
    rw [e2, ← h1, ← e1, Rat.mul_div_cancel hne2]
theorem evl_dv {e : Rat} (h : Em e) (K1 K2 : Nat) {Δ M : Nat} (d0 : 0 < Δ) : ∀ (w : W), (∀ p ∈ w, Dv Δ M p.2) → (∀ p ∈ w, -(K1 : Int) ≤ p.1 ∧ p.1 ≤ K2) → Dv (Δ * dE e K1 K2) (w.length * (M * 2 ^ (38 * (K1 + K2)))) (evl w e)
  | [], _, _ => Dv.zero _ _
  | p :: w, h1, h2 => by
    have ih := evl_dv h K1 K2 d0 w (fun q hq => h1 q (by simp [hq])) fun q hq => h2 q (by simp [hq])
    have a := (h1 p (by simp)).mul (h.dv K1 K2 (h2 p (by simp)))
    rw [evl_cons, List.length_cons, Nat.succ_mul, Nat.add_comm]
    exact a.add ih (Nat.mul_pos d0 (h.d0 K1 K2).1)
/-! ### one power after another -/
theorem sz_zpow {e : Rat} (h : Em e) {c : Rat} {s : Nat} (hc : Sz s c) (k : Int) : Sz (s + 38 * k.natAbs) (c * e ^ k) := by
  obtain ⟨n, rfl | rfl⟩ := Int.eq_nat_or_neg k
  · rw [Int.natAbs_natCast]
    induction n with
    | zero => simpa using hc
    | succ n ih =>
      rw [show ((n + 1 : Nat) : Int) = (n : Int) + 1 by omega, Rat.zpow_add_one h.ne, ← Rat.mul_assoc]
      exact (ih.mul h.sz).up (by omega)
  · rw [Int.natAbs_neg, Int.natAbs_natCast]
    induction n with
    | zero => simpa using hc
    | succ n ih =>
      rw [show -((n + 1 : Nat) : Int) = -(n : Int) - 1 by omega, Rat.zpow_sub_one h.ne, ← Rat.mul_assoc, ← Rat.div_def]
      exact (ih.div h.ne h.sz).up (by omega)
/-- the power after so many steps -/
def stp (k : Int) (j : Nat) : Int := if 0 < k then (j : Int) else -(j : Int)
theorem stp_full (k : Int) : stp k k.natAbs = k := by unfold stp; split <;> omega
theorem stp_abs (k : Int) (j : Nat) : (stp k j).natAbs = j := by unfold stp; split <;> omega
theorem step_by (n : Nat) {e c : Rat} (h : Em e) {k : Int} {s j : Nat} (hc : Sz s c) (hk : s + 38 * j ≤ 4000) (hp : 0 < k) (κ : Cells) : callN P0 (n + 3) 33 [frD (c * e ^ stp k j), frD e] κ = .ok (frD (c * e ^ stp k (j + 1)), κ) := by
  have h1 := sz_zpow h hc (stp k j)
  rw [stp_abs] at h1
  have := lby_ok n _ e κ (h1.up (by omega)) (h.sz.up (by decide))
  have e1 : stp k j + 1 = stp k (j + 1) := by
    unfold stp
    rw [if_pos hp, if_pos hp]
    omega
  rw [this, Rat.mul_assoc, ← Rat.zpow_add_one h.ne, e1]
theorem step_ov (n : Nat) {e c : Rat} (h : Em e) {k : Int} {s j : Nat} (hc : Sz s c) (hk : s + 38 * j ≤ 4000) (hp : ¬ 0 < k) (κ : Cells) : callN P0 (n + 3) 34 [frD (c * e ^ stp k j), frD e] κ = .ok (frD (c * e ^ stp k (j + 1)), κ) := by
  have h1 := sz_zpow h hc (stp k j)
  rw [stp_abs] at h1
  have := lover_ok n _ e κ h.ne (h1.up (by omega)) (h.sz.up (by decide))
  have e1 : stp k j - 1 = stp k (j + 1) := by
    unfold stp
    rw [if_neg hp, if_neg hp]
    omega
  rw [this, Rat.div_def, Rat.mul_assoc, ← Rat.zpow_sub_one h.ne, e1]
theorem rng_abs {k : Int} (h : k.natAbs ≤ 1000) : rangeD 0 (if k < 0 then -k else k) = some ((List.range k.natAbs).map fun (j : Nat) => D.int (j : Int)) := by
  have : (if k < 0 then -k else k) = ((k.natAbs : Nat) : Int) := by split <;> omega
  rw [this]
  exact range_nat (by omega)
theorem lpower_ok (n : Nat) {e : Rat} (h : Em e) (k : Int) (hk : k.natAbs ≤ 60) (κ : Cells) : callN P0 (n + 4) 47 [frD e, .int k] κ = .ok (frD (e ^ k), κ) := by
  suffices h : ∃ d κ', callN P0 (n + 4) 47 [frD e, .int k] κ = .ok (d, κ') ∧ (d = frD (e ^ k) ∧ κ' = κ) by
    obtain ⟨d, κ', h, rfl, rfl⟩ := h
    exact h
  refine good_callQ (fn := ⟨2, 4, Pr.b__law_power_of⟩) rfl rfl fun Q hQ => ?_
  have er := rng_abs (k := k) (by omega)
  simp -implicitDefEqProofs [sizeLine_eq, startS, wipeS, assignT, assign1, setAt_eq, isTy, Pr.b__law_power_of, er]
  refine good_for1 (I := fun j σ κ' => κ' = κ ∧ j ≤ k.natAbs ∧ ∃ u : Option D, σ = [some (.fz (frD e)), some (.fz (.int k)), some (.fz (frD (e ^ stp k j))), Option.map O.fz u]) ?_ ?_ ?_
  · refine ⟨rfl, Nat.zero_le _, none, ?_⟩
    have : stp k 0 = 0 := by unfold stp; split <;> rfl
    rw [this, Rat.zpow_zero]
    rfl
  · rintro j x σ κ' hx ⟨rfl, hj, u, rfl⟩
    obtain ⟨hj, rfl⟩ := get_range hx
    refine ⟨_, κ', ?_, rfl, by omega, some (.int j), rfl⟩
    have s1 : Sz 1 1 := ⟨by show (1 : Nat) < _; decide, by show (1 : Nat) < _; decide⟩
    by_cases hp : 0 < k
    · have e1 := step_by n h (k := k) (j := j) s1 (by omega) hp κ'
      rw [Rat.one_mul, Rat.one_mul] at e1
      simp -implicitDefEqProofs [sizeLine_eq, startS, wipeS, assignT, assign1, setAt_eq, isTy, hp, e1]
    · have e1 := step_ov n h (k := k) (j := j) s1 (by omega) hp κ'
      rw [Rat.one_mul, Rat.one_mul] at e1
      simp -implicitDefEqProofs [sizeLine_eq, startS, wipeS, assignT, assign1, setAt_eq, isTy, hp, e1]
  · rintro σ κ' ⟨rfl, hj, u, rfl⟩
    have hl : ((List.range k.natAbs).map fun (j : Nat) => D.int (j : Int)).length = k.natAbs := by simp
    rw [hl, stp_full]
    simp -implicitDefEqProofs [sizeLine_eq, startS, wipeS, assignT, assign1, setAt_eq, isTy, ]
    exact hQ _ _ ⟨rfl, rfl⟩
/-! ### the value of a dict -/
theorem lvalue_ok (n a : Nat) {κ : Cells} {K : W} {e : Rat} {s : Nat} (ha : AtW κ a K) (dK : Dct K) (h : Em e) (hs : ∀ p ∈ K, Sz s p.2 ∧ s + 38 * p.1.natAbs ≤ 3990) (hf : ∀ P S, K = P ++ S → Sz 3990 (evl P e)) :
    callN P0 (n + 4) 44 [.obj a, frD e] κ = .ok (frD (evl K e), κ) := by
  suffices h : ∃ d κ', callN P0 (n + 4) 44 [.obj a, frD e] κ = .ok (d, κ') ∧ (d = frD (evl K e) ∧ κ' = κ) by
    obtain ⟨d, κ', h, rfl, rfl⟩ := h
    exact h
  refine good_callQ (fn := ⟨2, 6, Pr.b__law_value⟩) rfl rfl fun Q hQ => ?_
  have hal := ha.lt
  have fz : frD 0 = .tup [.int 0, .int 1] := rfl
  simp -implicitDefEqProofs [sizeLine_eq, startS, wipeS, assignT, assign1, setAt_eq, isTy, Pr.b__law_value, ha.open_, lk_fold, lk_lockd hal, kd_keys]
  refine good_then (nx_reopen (J' := fun σ κ' => σ[2]? = some (some (.fz (frD (evl K e)))) ∧ κ' = κ) (nx_loop (J := fun σ κ' => σ[2]? = some (some (.fz (frD (evl K e)))) ∧ κ' = lk κ a K)
    (I := fun ys σ κ' => ∃ (P S : W) (u v w : Option D), K = P ++ S ∧ ys = S.map (fun p => .int p.1) ∧ σ = [some (.fz (.obj a)), some (.fz (frD e)), some (.fz (frD (evl P e))), Option.map O.fz u, Option.map O.fz v, Option.map O.fz w] ∧ κ' = lk κ a K) ?_ ?_ ?_) ?_) ?_
  · exact ⟨[], K, none, none, none, rfl, rfl, rfl, rfl⟩
  · rintro x ys σ κ' ⟨P, S, u, v, w, hK, hys, rfl, rfl⟩ J hJ
    cases S with
    | nil => simp at hys
    | cons p S =>
      simp only [List.map_cons, List.cons.injEq] at hys
      obtain ⟨rfl, rfl⟩ := hys
      have hp : p ∈ K := by rw [hK]; simp
      obtain ⟨s1, s2⟩ := hs p hp
      have el := look_mem dK hp
      have er := lk_rd (K := K) hal
      have eg := rng_abs (k := p.1) (by omega)
      simp -implicitDefEqProofs [sizeLine_eq, startS, wipeS, assignT, assign1, setAt_eq, isTy, er, el, eg]
      refine nx_then (nx_loop (J := fun σ κ' => κ' = lk κ a K ∧ ∃ w : Option D, σ = [some (.fz (.obj a)), some (.fz (frD e)), some (.fz (frD (evl P e))), some (.fz (.int p.1)), some (.fz (frD (p.2 * e ^ p.1))), Option.map O.fz w])
        (I := fun ys σ κ' => κ' = lk κ a K ∧ ∃ (j : Nat) (w : Option D), j ≤ p.1.natAbs ∧ ys.length = p.1.natAbs - j ∧ σ = [some (.fz (.obj a)), some (.fz (frD e)), some (.fz (frD (evl P e))), some (.fz (.int p.1)), some (.fz (frD (p.2 * e ^ stp p.1 j))), Option.map O.fz w]) ?_ ?_ ?_) ?_
      · refine ⟨rfl, 0, w, Nat.zero_le _, by simp, ?_⟩
        have : stp p.1 0 = 0 := by unfold stp; split <;> rfl
        rw [this, Rat.zpow_zero, Rat.mul_one]
      · rintro x ys σ κ' ⟨rfl, j, w, hj, hl, rfl⟩ J' hJ'
        simp only [List.length_cons] at hl
        by_cases hp : 0 < p.1
        · have e1 := step_by n h (k := p.1) (j := j) s1 (by omega) hp (lk κ a K)
          simp -implicitDefEqProofs [sizeLine_eq, startS, wipeS, assignT, assign1, setAt_eq, isTy, hp, e1]
          exact hJ' _ _ ⟨rfl, j + 1, some x, by omega, by omega, rfl⟩
        · have e1 := step_ov n h (k := p.1) (j := j) s1 (by omega) hp (lk κ a K)
          simp -implicitDefEqProofs [sizeLine_eq, startS, wipeS, assignT, assign1, setAt_eq, isTy, hp, e1]
          exact hJ' _ _ ⟨rfl, j + 1, some x, by omega, by omega, rfl⟩
      · rintro σ κ' ⟨rfl, j, w, hj, hl, rfl⟩
        simp only [List.length_nil] at hl
        have : j = p.1.natAbs := by omega
        subst this
        rw [stp_full]
        exact ⟨rfl, w, rfl⟩
      · rintro σ κ' ⟨rfl, w, rfl⟩
        have h1 := sz_zpow h s1 p.1
        have e2 := ladd_ok n (evl P e) (p.2 * e ^ p.1) (lk κ a K) ((hf P _ hK).up (by decide)) (h1.up (by omega))
        have e3 : evl P e + p.2 * e ^ p.1 = evl (P ++ [p]) e := by rw [evl_app, evl_cons, evl_nil]; grind
        rw [e3] at e2
        simp -implicitDefEqProofs [sizeLine_eq, startS, wipeS, assignT, assign1, setAt_eq, isTy, e2]
        exact hJ _ _ ⟨P ++ [p], S, some (.int p.1), some (frD (p.2 * e ^ p.1)), w, by rw [hK]; simp, rfl, rfl, rfl⟩
  · rintro σ κ' ⟨P, S, u, v, w, hK, hys, rfl, rfl⟩
    cases S with
    | nil =>
      rw [List.append_nil] at hK
      subst hK
      exact ⟨rfl, rfl⟩
    | cons p S => simp at hys
  · rintro σ κ' ⟨h1, rfl⟩
    exact ⟨h1, lk_self ha⟩
  · rintro σ κ' ⟨h1, rfl⟩
    simp -implicitDefEqProofs [sizeLine_eq, startS, wipeS, assignT, assign1, setAt_eq, isTy, h1]
    exact hQ _ _ ⟨rfl, rfl⟩
theorem lknown_ok (n : Nat) (T : W) (κ : Cells) (nd : (keysW T).Nodup) (hl : T.length ≤ 1000) : callN P0 (n + 1) 37 [wD T] κ = .ok (.obj κ.length, κ ++ [⟨false, .dk (kd T)⟩]) := by
  rw [call0 (fn := ⟨1, 4, Pr.b__law_known⟩) rfl rfl]
  have hw : wD T = .tup (T.map tD) := rfl
  have hl2 : T.length < 16777216 := by omega
  simp -implicitDefEqProofs [sizeLine_eq, startS, wipeS, assignT, assign1, setAt_eq, isTy, Pr.b__law_known, hw]
  rw [comp_mapA (f := tD) (g := fun p => .tup [.int p.1, frD p.2]) (fun p hp => ?_)]
  · simp -implicitDefEqProofs [sizeLine_eq, startS, wipeS, assignT, assign1, setAt_eq, isTy, hl2, dcp_pairs _ nd, -dcp_lst]
  · simp -implicitDefEqProofs [sizeLine_eq, startS, wipeS, assignT, assign1, setAt_eq, isTy, tD, frD]
end R

set_option exponentiation.threshold 5000
/-! C4: the bound, as the law reckons it. -/
namespace R
open PySem L2
open scoped Rat
@[simp] theorem sf_mapl (u : Option (List D)) : slotFree (some (Option.map (O.ol none) u)) = true := by cases u <;> simp only [slotFree, Option.map]
def szS : S := forB (sN 2 Pr.b__law_bound)
def szD (c : Rat) (t : W) : D := .lst [frD (absR c), frD (gmax t)]
theorem sort_nrm {K : W} (h : Dct K) : (sortI (keysW K)).map D.int = (nrm K).map fun p => .int p.1 := by
  rw [nrm_eq h, List.map_map]
  rfl
theorem szbody_ok (n a : Nat) {κ : Cells} {K t : W} {f : Int} {c : Rat} (ha : AtW κ a K) (dK : Dct K) (hl : K.length ≤ 60) (hn : nrm K = (f, c) :: t) (hs : ∀ p ∈ nrm K, Sz 5000 p.2) (ss : List D) (hss : ss.length ≤ 5)
    (s0 s1 s2 s3 s4 s10 s11 : Option O) (u7 : Option (List D)) (u8 u9 : Option D) (J : Sl → Cells → Prop)
    (hJ : ∀ u7 u8 u9, J [s0, s1, s2, s3, s4, some (.ol none (ss ++ [szD c t])), some (.fz (.obj a)), Option.map (O.ol none) u7, Option.map O.fz u8, Option.map O.fz u9, s10, s11] κ) :
    NxTo (exec (Gm (n + 3)) szS [s0, s1, s2, s3, s4, some (.ol none ss), some (.fz (.obj a)), Option.map (O.ol none) u7, Option.map O.fz u8, Option.map O.fz u9, s10, s11] κ) J := by
  have hk : (keysW K).length < 64 := by simp only [keysW, List.length_map]; omega
  have hlk : ∀ p ∈ nrm K, lookP (kd K) (.inl p.1) = some (frD p.2) := fun p hp => by
    obtain ⟨h1, h2⟩ := Drw.nrm_mem dK hp
    rw [ix_kd dK h1, h2]
  have so := sort_nrm dK
  rw [hn, List.map_cons] at so
  have ct : cutD (D.int f :: t.map fun p => D.int p.1) (some 1) none = t.map fun p => .int p.1 := cut_tl _ _
  have hl0 := hlk (f, c) (by rw [hn]; simp)
  have hss2 : ss.length < 16777216 := by omega
  have fz : frD 0 = .tup [.int 0, .int 1] := rfl
  simp -implicitDefEqProofs [sizeLine_eq, startS, wipeS, assignT, assign1, setAt_eq, isTy, szS, forB, sN, Pr.b__law_bound, exec.exec1, exec.evos, exec.assignO, ha.read, keys_kd, hk, so, slcD, ct]
  refine nx_then (nx_loop (J := fun σ κ' => κ' = κ ∧ ∃ u9 : Option D, σ = [s0, s1, s2, s3, s4, some (.ol none ss), some (.fz (.obj a)), some (.ol none (D.int f :: t.map fun p => D.int p.1)), some (.fz (frD (gmax t))), Option.map O.fz u9, s10, s11])
    (I := fun ys σ κ' => κ' = κ ∧ ∃ (P S : W) (u9 : Option D), t = P ++ S ∧ ys = S.map (fun p => .int p.1) ∧ σ = [s0, s1, s2, s3, s4, some (.ol none ss), some (.fz (.obj a)), some (.ol none (D.int f :: t.map fun p => D.int p.1)), some (.fz (frD (gmax P))), Option.map O.fz u9, s10, s11]) ?_ ?_ ?_) ?_
  · exact ⟨rfl, [], t, u9, rfl, rfl, rfl⟩
  · rintro x ys σ κ' ⟨rfl, P, S, u9, ht, hy, rfl⟩ J' hJ'
    cases S with
    | nil => simp at hy
    | cons p S =>
      simp only [List.map_cons, List.cons.injEq] at hy
      obtain ⟨rfl, rfl⟩ := hy
      have hp : p ∈ nrm K := by rw [hn, ht]; simp
      have hP : ∀ q ∈ P, Sz 5000 q.2 := fun q hq => hs q (by rw [hn, ht]; simp [hq])
      have el := hlk p hp
      have e2 := lisless_ok (n + 2) (gmax P) (absR p.2) κ' (gmax_sz (by decide) P hP) (sz_abs (hs p hp))
      have ea := frD_abs p.2
      rw [← ea] at e2
      have eq : frD p.2 = .tup [.int p.2.num, .int p.2.den] := rfl
      rw [eq] at el
      have hJ2 := hJ' _ _ ⟨rfl, P ++ [p], S, some (.int p.1), by rw [ht]; simp, rfl, rfl⟩
      rw [gmax_snoc] at hJ2
      by_cases hlt : gmax P < absR p.2
      · rw [decide_eq_true hlt] at e2
        rw [if_pos hlt, ← ea] at hJ2
        simp -implicitDefEqProofs [sizeLine_eq, startS, wipeS, assignT, assign1, setAt_eq, isTy, ha.read, el, e2]
        exact hJ2
      · rw [decide_eq_false hlt] at e2
        rw [if_neg hlt] at hJ2
        simp -implicitDefEqProofs [sizeLine_eq, startS, wipeS, assignT, assign1, setAt_eq, isTy, ha.read, el, e2]
        exact hJ2
  · rintro σ κ' ⟨rfl, P, S, u9, ht, hy, rfl⟩
    cases S with
    | nil =>
      rw [List.append_nil] at ht
      subst ht
      exact ⟨rfl, u9, rfl⟩
    | cons p S => simp at hy
  · rintro σ κ' ⟨rfl, u9, rfl⟩
    have ea := frD_abs c
    have eq : frD c = .tup [.int c.num, .int c.den] := rfl
    have hl1 : lookP (kd K) (.inl f) = some (.tup [.int c.num, .int c.den]) := by rw [← eq]; exact hl0
    have := hJ (some (D.int f :: t.map fun p => D.int p.1)) (some (frD (gmax t))) u9
    unfold szD at this
    rw [← ea] at this
    simp -implicitDefEqProofs [sizeLine_eq, startS, wipeS, assignT, assign1, setAt_eq, isTy, ha.read, hl1, hss2, show sizeLine = 16777216 from rfl]
    exact this
end R

set_option exponentiation.threshold 5000
/-! C5: the law's bound. -/
namespace R
open PySem L2
open scoped Rat
theorem nx_forcons {step : D → Sl → Cells → Res} {t : Tk step} {x : D} {xs : List D} {σ : Sl} {κ : Cells} {J J' : Sl → Cells → Prop} (h : NxTo (step x σ κ) J) (g : ∀ σ κ, J σ κ → NxTo (forD step t xs σ κ) J') : NxTo (forD step t (x :: xs) σ κ) J' := by
  obtain ⟨σ', κ', e, hj⟩ := h
  show NxTo (forLoop step (x :: xs) σ κ) J'
  rw [forLoop, e]
  exact g σ' κ' hj
theorem nx_fornil {step : D → Sl → Cells → Res} {t : Tk step} {σ : Sl} {κ : Cells} {J : Sl → Cells → Prop} (h : J σ κ) : NxTo (forD step t [] σ κ) J := ⟨σ, κ, rfl, h⟩
theorem mn_of {K R : W} {r : Int} {c : Rat} {rt : W} (h : Dct K) (e : nrm K = R) (eR : R = (r, c) :: rt) : Mn K r := by
  have h0 : K ≠ [] := fun z => by rw [z, nrm_nil] at e; rw [← e] at eR; simp at eR
  obtain ⟨m, hm⟩ := mn_ex h0
  obtain ⟨t, ht⟩ := nrm_hd h hm
  rw [← e, ht] at eR
  simp only [List.cons.injEq, Prod.mk.injEq] at eR
  rw [← eR.1.1]
  exact hm
section
variable {A B : W} {f fl lo : Int} {Δ0 M0 Δb Mb : Nat} {z0 most : Int} {T R : W} {b0 : Rat} {ft : W}
theorem Bnd.law (h : Qd A B f fl lo Δ0 M0 Δb Mb z0) (k : Bnd A B f lo Δ0 M0 Mb z0 most T R b0 ft) (hm : lo - f - 15 ≤ most ∧ most ≤ lo - f + 12) (n a b : Nat) {κ : Cells} (ha : AtW κ a A) (hb : AtW κ b B) :
    ∃ κ', callN P0 (n + 7) 43 [.obj a, .obj b, .int most] κ = .ok (bndD f most T R b0 ft, κ') ∧ Gr κ κ' := by
  suffices h : ∃ d κ', callN P0 (n + 7) 43 [.obj a, .obj b, .int most] κ = .ok (d, κ') ∧ (d = bndD f most T R b0 ft ∧ Gr κ κ') by
    obtain ⟨d, κ', h, rfl, h2⟩ := h
    exact ⟨κ', h, h2⟩
  refine good_callQ (fn := ⟨3, 12, Pr.b__law_bound⟩) rfl rfl fun Q hQ => ?_
  have t := k.s.tl hm.2
  have e1 := h.lexp k.s hm (n + 1) a b ha hb
  obtain ⟨d, hd⟩ : ∃ d, d = κ.length := ⟨_, rfl⟩
  have g1 : Gr κ (κ ++ [⟨false, .dk (kd T)⟩, ⟨false, .dk []⟩]) := ⟨_, rfl⟩
  have d1 : AtW (κ ++ [⟨false, .dk (kd T)⟩, ⟨false, .dk []⟩]) d T := by rw [hd]; exact new_at κ T _
  rw [← hd] at e1
  generalize (κ ++ [⟨false, .dk (kd T)⟩, ⟨false, .dk []⟩] : Cells) = κ1 at *
  obtain ⟨κ2, r, K, e2, g2, k2, f2, dK, eK, lK, lr⟩ := h.lleft t k.l n a b d (ha.gr g1) (hb.gr g1) d1
  obtain ⟨fc, hfc⟩ : ∃ fc, fc = κ1.length := ⟨_, rfl⟩
  rw [← hfc] at e2 f2
  have e3 := eq_new k2
  obtain ⟨κ3, h3⟩ : ∃ κ3, κ3 = κ2 ++ [⟨false, .dk []⟩] := ⟨_, rfl⟩
  have g3 : Gr κ2 κ3 := ⟨_, h3⟩
  rw [← h3] at e3
  have k3 := k2.gr g3
  have f3 := f2.gr g3
  have e4 := eq_new k3
  obtain ⟨κ4, h4⟩ : ∃ κ4, κ4 = κ3 ++ [⟨false, .dk []⟩] := ⟨_, rfl⟩
  have g4 : Gr κ3 κ4 := ⟨_, h4⟩
  rw [← h4] at e4
  obtain ⟨h0, h1, h2⟩ := k.b h
  obtain ⟨b1, b2, b3, b4⟩ := k.bel0 h
  have hB := k.sB
  have lB := h.b.t.len
  have dF := dct_sh h.b.t.d (byOf T)
  have nF : nrm (shW B (byOf T)) = (f + byOf T, b0) :: shW ft (byOf T) := by rw [nrm_sh h.b.t.d, k.eB]; rfl
  have sF : ∀ p ∈ nrm (shW B (byOf T)), Sz 5000 p.2 := fun p hp => by
    rw [nrm_sh h.b.t.d] at hp
    obtain ⟨q, hq, rfl⟩ := (List.mem_map.mp hp)
    exact (hB q hq).up (by decide)
  have sK : ∀ p ∈ nrm K, Sz 5000 p.2 := fun p hp => by
    rw [eK] at hp
    exact (k.s.rsz h k.l p hp).up (by decide)
  have bodyF := fun (κ : Cells) (ha : AtW κ fc (shW B (byOf T))) => szbody_ok (n + 3) fc ha dF (by simp [shW]; omega) nF sF [] (by simp)
  have bodyK := fun (c : Rat) (r' : Int) (rt : W) (hn : nrm K = (r', c) :: rt) (κ : Cells) (ha : AtW κ r K) => szbody_ok (n + 3) r ha dK lK hn sK [szD b0 (shW ft (byOf T))] (by simp)
  have e5 := lby_ok (n + 3) 2 (gmax ft) κ3 (sz_two.up (by decide)) (h2.up (by decide))
  rw [show frD 2 = .tup [.int 2, .int 1] from rfl] at e5
  have e6 := ladd_ok (n + 3) (absR b0) (2 * gmax ft) κ3 (h1.up (by decide)) (b3.up (by decide))
  have e7 := lover_ok (n + 3) (absR b0) (absR b0 + 2 * gmax ft) κ3 b4 (h1.up (by decide)) (b2.up (by decide))
  have e8 := lisless_ok (n + 5) (absR b0 / (absR b0 + 2 * gmax ft)) (1 / 2) κ3 (b1.up (by decide)) (sz_half.up (by decide))
  rw [half_eq] at e8
  have hv : ∃ v, frD (belR (absR b0) (gmax ft)) = v ∧ v = if decide (absR b0 / (absR b0 + 2 * gmax ft) < 1 / 2) = true then frD (absR b0 / (absR b0 + 2 * gmax ft)) else .tup [.int 1, .int 2] := by
    refine ⟨_, rfl, ?_⟩
    unfold belR
    by_cases hc : absR b0 / (absR b0 + 2 * gmax ft) < 1 / 2
    · rw [if_pos hc, if_pos (by simpa using hc)]
    · rw [if_neg hc, if_neg (by simpa using hc), half_eq]
  obtain ⟨v, hv1, hv2⟩ := hv
  have goal : bndD f most T R b0 ft = bndV f most T b0 v R := by
    unfold bndD
    rw [hv1]
  rw [goal] at hQ
  have e1' : callN P0 (n + 6) 41 [.obj a, .obj b, .int most] κ = .ok (.obj d, κ1) := e1
  have e2' : callN P0 (n + 6) 42 [.obj a, .obj b, .obj d] κ1 = .ok (.tup [.obj r, .obj fc], κ2) := e2
  have e5' : callN P0 (n + 6) 33 [.tup [.int 2, .int 1], frD (gmax ft)] κ3 = .ok (frD (2 * gmax ft), κ3) := e5
  have e6' : callN P0 (n + 6) 32 [frD (absR b0), frD (2 * gmax ft)] κ3 = .ok (frD (absR b0 + 2 * gmax ft), κ3) := e6
  have e7' : callN P0 (n + 6) 34 [frD (absR b0), frD (absR b0 + 2 * gmax ft)] κ3 = .ok (frD (absR b0 / (absR b0 + 2 * gmax ft)), κ3) := e7
  have e8' : callN P0 (n + 6) 35 [frD (absR b0 / (absR b0 + 2 * gmax ft)), .tup [.int 1, .int 2]] κ3 = .ok (.bl (decide (absR b0 / (absR b0 + 2 * gmax ft) < 1 / 2)), κ3) := e8
  have gAll := g1.trans (g2.trans (g3.trans g4))
  rw [show (⟨3, 12, Pr.b__law_bound⟩ : Fn).body = .cons (sN 0 Pr.b__law_bound) (.cons (sN 1 Pr.b__law_bound) (.cons (.for_ (.v 6) (.walk (.bin .add (.lst (.cons (.var 4) .nil)) (.ite (.cmp .ne (.var 3) .dnew) (.lst (.cons (.var 3) .nil)) (.lst .nil)))) szS) (sR 3 Pr.b__law_bound))) from rfl]
  generalize szS = E at *
  clear goal hv1 e1 e2 e5 e6 e7 e8
  have szF : szD b0 (shW ft (byOf T)) = .lst [frD (absR b0), frD (gmax ft)] := by unfold szD; rw [gmax_sh]
  generalize decide (absR b0 / (absR b0 + 2 * gmax ft) < 1 / 2) = cB at *
  generalize frD (absR b0 / (absR b0 + 2 * gmax ft)) = bel at *
  have hbL : ∀ x : D, [x].length + ([] : List D).length ≤ sizeLine := fun x => le_line' (by simp)
  have hbL2 : ∀ x y : D, [x].length + [y].length ≤ sizeLine := fun x y => le_line' (by simp)
  cases hR : R with
  | nil =>
    have hK : K.isEmpty = true := by rw [nrm_emp dK eK, hR]; rfl
    rw [hK] at e3 e4
    simp -implicitDefEqProofs [sizeLine_eq, startS, wipeS, assignT, assign1, setAt_eq, isTy, sN, Pr.b__law_bound, exec.exec1, exec.evos, exec.assignO, e1', e2', ← h3, e3, b_addL (hbL _)]
    refine good_then (nx_forcons (J := fun σ κ' => κ' = κ3 ∧ ∃ (u7 : Option (List D)) (u8 u9 : Option D), σ = [some (.fz (.obj a)), some (.fz (.obj b)), some (.fz (.int most)), some (.fz (.obj r)), some (.fz (.obj fc)), some (.ol none [szD b0 (shW ft (byOf T))]), some (.fz (.obj fc)), Option.map (O.ol none) u7, Option.map O.fz u8, Option.map O.fz u9, none, none]) ?_ fun σ κ hj => nx_fornil (J := fun σ κ' => κ' = κ3 ∧ ∃ (u7 : Option (List D)) (u8 u9 : Option D), σ = [some (.fz (.obj a)), some (.fz (.obj b)), some (.fz (.int most)), some (.fz (.obj r)), some (.fz (.obj fc)), some (.ol none [szD b0 (shW ft (byOf T))]), some (.fz (.obj fc)), Option.map (O.ol none) u7, Option.map O.fz u8, Option.map O.fz u9, none, none]) hj) ?_
    · simp -implicitDefEqProofs [sizeLine_eq, startS, wipeS, assignT, assign1, setAt_eq, isTy, ]
      exact bodyF κ3 f3 (some (.fz (.obj a))) (some (.fz (.obj b))) (some (.fz (.int most))) (some (.fz (.obj r))) (some (.fz (.obj fc))) none none none none none _ fun u7 u8 u9 => ⟨rfl, u7, u8, u9, rfl⟩
    · rintro σ κ' ⟨rfl, u7, u8, u9, rfl⟩
      rw [szF]
      have hq := hQ _ κ4 ⟨rfl, gAll⟩
      rw [hR] at hq
      unfold bndV at hq
      cases cB <;> subst hv2 <;> (simp -implicitDefEqProofs [sizeLine_eq, startS, wipeS, assignT, assign1, setAt_eq, isTy, sR, Pr.b__law_bound, e5', e6', e7', e8', ← h4, e4]; exact hq)
  | cons p rt =>
    obtain ⟨r', c⟩ := p
    have hK : K.isEmpty = false := by rw [nrm_emp dK eK, hR]; rfl
    rw [hK] at e3 e4
    have nK : nrm K = (r', c) :: rt := by rw [eK, hR]
    have mK := kv_min (k3.gr g4).open_ (mn_of dK eK hR)
    have mF := kv_min (f3.gr g4).open_ (mn_sh h.mn (byOf T))
    obtain ⟨z1, z2, z3, z4, z5⟩ := k.siz h hR
    have m3 := ladd_ok (n + 3) _ _ κ4 (z4.up (by decide)) (z5.up (by decide))
    have m4 := lby_ok (n + 3) 2 (absR c + gmax rt) κ4 (sz_two.up (by decide)) (z3.up (by decide))
    rw [show frD 2 = .tup [.int 2, .int 1] from rfl] at m4
    have m5 := lover_ok (n + 3) _ _ κ4 (Rat.ne_of_gt h0) (z2.up (by decide)) (h1.up (by decide))
    have m3' : callN P0 (n + 6) 32 [frD (absR c), frD (gmax rt)] κ4 = .ok (frD (absR c + gmax rt), κ4) := m3
    have m4' : callN P0 (n + 6) 33 [.tup [.int 2, .int 1], frD (absR c + gmax rt)] κ4 = .ok (frD (2 * (absR c + gmax rt)), κ4) := m4
    have m5' : callN P0 (n + 6) 34 [frD (2 * (absR c + gmax rt)), frD (absR b0)] κ4 = .ok (frD (sizR b0 c rt), κ4) := m5
    simp -implicitDefEqProofs [sizeLine_eq, startS, wipeS, assignT, assign1, setAt_eq, isTy, sN, Pr.b__law_bound, exec.exec1, exec.evos, exec.assignO, e1', e2', ← h3, e3, b_addL (hbL2 _ _)]
    refine good_then (nx_forcons (J := fun σ κ' => κ' = κ3 ∧ ∃ (u7 : Option (List D)) (u8 u9 : Option D), σ = [some (.fz (.obj a)), some (.fz (.obj b)), some (.fz (.int most)), some (.fz (.obj r)), some (.fz (.obj fc)), some (.ol none [szD b0 (shW ft (byOf T))]), some (.fz (.obj fc)), Option.map (O.ol none) u7, Option.map O.fz u8, Option.map O.fz u9, none, none]) ?_ fun σ κ hj =>
      nx_forcons (J := fun σ κ' => κ' = κ3 ∧ ∃ (u7 : Option (List D)) (u8 u9 : Option D), σ = [some (.fz (.obj a)), some (.fz (.obj b)), some (.fz (.int most)), some (.fz (.obj r)), some (.fz (.obj fc)), some (.ol none [szD b0 (shW ft (byOf T)), szD c rt]), some (.fz (.obj r)), Option.map (O.ol none) u7, Option.map O.fz u8, Option.map O.fz u9, none, none]) ?_ fun σ κ hj =>
      nx_fornil (J := fun σ κ' => κ' = κ3 ∧ ∃ (u7 : Option (List D)) (u8 u9 : Option D), σ = [some (.fz (.obj a)), some (.fz (.obj b)), some (.fz (.int most)), some (.fz (.obj r)), some (.fz (.obj fc)), some (.ol none [szD b0 (shW ft (byOf T)), szD c rt]), some (.fz (.obj r)), Option.map (O.ol none) u7, Option.map O.fz u8, Option.map O.fz u9, none, none]) hj) ?_
    · simp -implicitDefEqProofs [sizeLine_eq, startS, wipeS, assignT, assign1, setAt_eq, isTy, ]
      exact bodyF κ3 f3 (some (.fz (.obj a))) (some (.fz (.obj b))) (some (.fz (.int most))) (some (.fz (.obj r))) (some (.fz (.obj fc))) none none none none none _ fun u7 u8 u9 => ⟨rfl, u7, u8, u9, rfl⟩
    · obtain ⟨hκ, u7, u8, u9, rfl⟩ := hj
      rw [hκ]
      simp -implicitDefEqProofs [sizeLine_eq, startS, wipeS, assignT, assign1, setAt_eq, isTy, ]
      exact bodyK c r' rt nK κ3 k3 (some (.fz (.obj a))) (some (.fz (.obj b))) (some (.fz (.int most))) (some (.fz (.obj r))) (some (.fz (.obj fc))) none none u7 u8 u9 _ fun u7 u8 u9 => ⟨rfl, u7, u8, u9, rfl⟩
    · rintro σ κ' ⟨rfl, u7, u8, u9, rfl⟩
      rw [szF]
      have szK : szD c rt = .lst [frD (absR c), frD (gmax rt)] := rfl
      rw [szK]
      have hq := hQ _ κ4 ⟨rfl, gAll⟩
      rw [hR] at hq
      unfold bndV at hq
      cases cB <;> subst hv2 <;> (simp -implicitDefEqProofs [sizeLine_eq, startS, wipeS, assignT, assign1, setAt_eq, isTy, sR, Pr.b__law_bound, e5', e6', e7', e8', ← h4, e4, m3', m4', m5', mK, mF]; exact hq)
end
end R

set_option exponentiation.threshold 5000
/-! C6: the law asks at a number. -/
namespace R
open PySem L2
open scoped Rat
def ordV (f most : Int) (T : W) : W → Int
  | [] => most + 1
  | (r, _) :: _ => r - (f + byOf T)
def sizV (b0 : Rat) : W → Rat
  | [] => 0
  | (_, c) :: rt => sizR b0 c rt
section
variable {A B : W} {f fl lo : Int} {Δ0 M0 Δb Mb : Nat} {z0 most : Int} {T R : W} {b0 : Rat} {ft : W}
theorem bndD_eq : bndD f most T R b0 ft = .tup [.int (ordV f most T R), frD (sizV b0 R), frD (belR (absR b0) (gmax ft))] := by
  cases R with
  | nil => rfl
  | cons p rt => rfl
theorem Bnd.sizs (h : Qd A B f fl lo Δ0 M0 Δb Mb z0) (k : Bnd A B f lo Δ0 M0 Mb z0 most T R b0 ft) : Sz 1757 (sizV b0 R) := by
  cases hR : R with
  | nil => exact sz_zero _ (by decide)
  | cons p rt => exact (k.siz h (r := p.1) (c := p.2) (rt := rt) hR).1
theorem Bnd.ord (h : Qd A B f fl lo Δ0 M0 Δb Mb z0) (k : Bnd A B f lo Δ0 M0 Mb z0 most T R b0 ft) (hm : lo - f - 15 ≤ most ∧ most ≤ lo - f + 12) : most < ordV f most T R ∧ (ordV f most T R).natAbs ≤ 60 := by
  have hf := h.f0
  have l0 := h.lo0
  have he := k.l.eq
  have hr := k.l.rng2
  have cR := k.l.can
  cases hR : R with
  | nil => show most < most + 1 ∧ (most + 1).natAbs ≤ 60; omega
  | cons p rt =>
    rw [hR] at he hr cR
    have h1 : cf (p :: rt) p.1 ≠ 0 := by rw [cf_mem cR.nd (by simp)]; exact cR.nz p (by simp)
    have h2 : ¬ p.1 - byOf T ≤ most + f := fun z => h1 (by
      rw [he, k.s.exp.eq _ z, nrm_cf h.a.d.nd]
      grind)
    have h3 := hr p (by simp)
    show most < p.1 - (f + byOf T) ∧ (p.1 - (f + byOf T)).natAbs ≤ 60
    omega
theorem Bnd.le (h : Qd A B f fl lo Δ0 M0 Δb Mb z0) (k : Bnd A B f lo Δ0 M0 Mb z0 most T R b0 ft) {e : Rat} (e0 : 0 < e) (he : e ≤ belR (absR b0) (gmax ft)) : evl B e ≠ 0 ∧ ¬ sizV b0 R * e ^ ordV f most T R < absR (evl A e / evl B e + -evl T e) := by
  have hB := foot_ne h.b.t.d k.eB e0 he
  have hl : ∀ j, cf R j = cf A (j - byOf T) - conv (cf T) B (j - byOf T) := fun j => by rw [k.l.eq, conv_dict (fun i => nrm_cf h.b.t.d.nd i)]
  refine ⟨hB, ?_⟩
  rw [← Rat.sub_eq_add_neg]
  cases hR : R with
  | nil =>
    rw [hR] at hl
    have := bound_nil h.a.d h.b.t.d k.s.exp.can hl e0 hB
    rw [this, absR_of Rat.le_refl]
    show ¬ 0 * _ < 0
    rw [Rat.zero_mul]
    exact Rat.lt_irrefl
  | cons p rt =>
    have := bound_le (r := p.1) (c := p.2) (rt := rt) h.a.d h.b.t.d k.s.exp.can k.l.can hl k.eB hR e0 he
    exact Rat.not_lt.mpr this
/-- the law's own numbers are small enough -/
theorem top_evl {K : W} {Δ M : Nat} (t : TopOk K Δ M) {e : Rat} (h : Em e) : (∀ p ∈ K, Sz 64 p.2 ∧ 64 + 38 * p.1.natAbs ≤ 3990) ∧ (∀ P S, K = P ++ S → Sz 530 (evl P e)) := by
  have hd : ∀ p ∈ K, Dv Δ M p.2 := fun p hp => by have := t.dv p.1; rwa [cf_mem t.d.nd hp] at this
  refine ⟨fun p hp => ⟨(hd p hp).sz t.d0 t.m0 t.D0, by have := t.key p hp; omega⟩, fun P S e1 => ?_⟩
  have hl := t.len
  have hP : ∀ p ∈ P, p ∈ K := fun p hp => by rw [e1]; simp [hp]
  have := evl_dv h 0 12 t.d0 P (fun p hp => hd p (hP p hp)) fun p hp => by have := t.key p (hP p hp); omega
  have hp2 : P.length ≤ 2 ^ 4 := by
    have : P.length ≤ K.length := by rw [e1]; simp
    omega
  obtain ⟨q0, q1⟩ := h.d0 0 12
  have m1 : P.length * (M * 2 ^ (38 * (0 + 12))) ≤ 2 ^ (4 + (64 + 38 * (0 + 12))) := mul_le2 hp2 (mul_le2 (Nat.le_of_lt t.m0) (Nat.le_refl _))
  have m2 : Δ * dE e 0 12 ≤ 2 ^ (64 + (38 * 0 + 38 * 12)) := mul_le2 (Nat.le_of_lt t.D0) q1
  exact this.sz (Nat.mul_pos t.d0 q0) (Nat.lt_of_le_of_lt m1 (Nat.pow_lt_pow_right (by decide) (by decide))) (Nat.lt_of_le_of_lt m2 (Nat.pow_lt_pow_right (by decide) (by decide)))
theorem ser_evl (h : Qd A B f fl lo Δ0 M0 Δb Mb z0) (s : Ser A B f lo Δ0 M0 Mb z0 most T) (hm : most ≤ lo - f + 7) {e : Rat} (he : Em e) : (∀ p ∈ T, Sz 1700 p.2 ∧ 1700 + 38 * p.1.natAbs ≤ 3990) ∧ (∀ P S, T = P ++ S → Sz 2860 (evl P e)) := by
  have hf := h.f0
  have l0 := h.lo0
  have hk : ∀ p ∈ T, -12 ≤ p.1 ∧ p.1 ≤ 19 := fun p hp => by have := s.low p hp; have := s.exp.le p hp; omega
  refine ⟨fun p hp => ⟨(s.dv p hp).sz h.dT0 (Nat.lt_of_le_of_lt h.mTl (Nat.pow_lt_pow_right (by decide) (by decide))) (Nat.lt_of_le_of_lt h.dTl (Nat.pow_lt_pow_right (by decide) (by decide))), by have := hk p hp; omega⟩, fun P S e1 => ?_⟩
  have hl := s.len
  have hP : ∀ p ∈ P, p ∈ T := fun p hp => by rw [e1]; simp [hp]
  have := evl_dv he 12 19 h.dT0 P (fun p hp => s.dv p (hP p hp)) fun p hp => by have := hk p (hP p hp); omega
  have hp2 : P.length ≤ 2 ^ 4 := by
    have : P.length ≤ T.length := by rw [e1]; simp
    omega
  obtain ⟨q0, q1⟩ := he.d0 12 19
  have m1 : P.length * (mT M0 Mb z0 * 2 ^ (38 * (12 + 19))) ≤ 2 ^ (4 + (1676 + 38 * (12 + 19))) := mul_le2 hp2 (mul_le2 h.mTl (Nat.le_refl _))
  have m2 : dT Δ0 z0 * dE e 12 19 ≤ 2 ^ (896 + (38 * 12 + 38 * 19)) := mul_le2 h.dTl q1
  exact this.sz (Nat.mul_pos h.dT0 q0) (Nat.lt_of_le_of_lt m1 (Nat.pow_lt_pow_right (by decide) (by decide))) (Nat.lt_of_le_of_lt m2 (Nat.pow_lt_pow_right (by decide) (by decide)))
end
def lapS : S := forB (sN 1 Pr.b_law)
def turnS : S := forB (sN 4 lapS)
def askS : S := forB (sN 5 turnS)
section
variable {A B : W} {f fl lo : Int} {Δ0 M0 Δb Mb : Nat} {z0 most : Int} {T R : W} {b0 : Rat} {ft : W}
/-- a part of the number that the bound tells -/
structure PartOk (q : Rat) : Prop where
  pos : 0 < q
  le : q ≤ 1
  sz : Sz 14 q
theorem ask_ok (h : Qd A B f fl lo Δ0 M0 Δb Mb z0) (k : Bnd A B f lo Δ0 M0 Mb z0 most T R b0 ft) (hm : lo - f - 15 ≤ most ∧ most ≤ lo - f + 7) (n a b d : Nat) {κ : Cells} (ha : AtW κ a A) (hb : AtW κ b B) (hd : AtW κ d T) {q : Rat} (hq : PartOk q)
    (s0 s1 s2 s5 s6 s7 s8 s9 : Option O) (x15 x16 x17 x18 x19 : Option D) (J : Sl → Cells → Prop)
    (hJ : ∀ v15 v16 v17 v18 v19 : D, J [s0, s1, s2, some (.fz (.obj b)), some (.fz (.obj a)), s5, s6, s7, s8, s9, some (.fz (.obj d)), some (.fz (.int (ordV f most T R))), some (.fz (frD (sizV b0 R))), some (.fz (frD (belR (absR b0) (gmax ft)))), some (.fz (frD q)), some (.fz v15), some (.fz v16), some (.fz v17), some (.fz v18), some (.fz v19)] κ) :
    NxTo (exec (Gm (n + 5)) askS [s0, s1, s2, some (.fz (.obj b)), some (.fz (.obj a)), s5, s6, s7, s8, s9, some (.fz (.obj d)), some (.fz (.int (ordV f most T R))), some (.fz (frD (sizV b0 R))), some (.fz (frD (belR (absR b0) (gmax ft)))), some (.fz (frD q)), Option.map O.fz x15, Option.map O.fz x16, Option.map O.fz x17, Option.map O.fz x18, Option.map O.fz x19] κ) J := by
  obtain ⟨h0, h1, h2⟩ := k.b h
  have bp := belR_pos h0 (gmax_nonneg ft)
  have bs := k.bel h
  obtain ⟨e, he⟩ : ∃ e, e = belR (absR b0) (gmax ft) * q := ⟨_, rfl⟩
  have em : Em e := by
    rw [he]
    exact ⟨Rat.mul_pos bp.1 hq.pos, (bs.mul hq.sz).up (by decide)⟩
  have hle : e ≤ belR (absR b0) (gmax ft) := by
    have := Rat.mul_le_mul_of_nonneg_left hq.le (Rat.le_of_lt bp.1)
    rw [he]
    grind
  obtain ⟨hB, hL⟩ := k.le h em.pos hle
  obtain ⟨o1, o2⟩ := k.ord h (by omega)
  obtain ⟨sA1, sA2⟩ := top_evl h.a em
  obtain ⟨sB1, sB2⟩ := top_evl h.b.t em
  obtain ⟨sT1, sT2⟩ := ser_evl h k.s hm.2 em
  have e1 := lby_ok (n + 2) (belR (absR b0) (gmax ft)) q κ (bs.up (by decide)) (hq.sz.up (by decide))
  rw [← he] at e1
  have e2 := lvalue_ok (n + 1) a ha h.a.d em sA1 fun P S e => (sA2 P S e).up (by decide)
  have e3 := lvalue_ok (n + 1) b hb h.b.t.d em sB1 fun P S e => (sB2 P S e).up (by decide)
  have zA := sA2 A [] (by simp)
  have zB := sB2 B [] (by simp)
  have zT := sT2 T [] (by simp)
  have e4 := lover_ok (n + 2) (evl A e) (evl B e) κ hB (zA.up (by decide)) (zB.up (by decide))
  have e5 := lvalue_ok (n + 1) d hd k.s.exp.can.dct em sT1 fun P S e => (sT2 P S e).up (by decide)
  have zV := zA.div hB zB
  have e6 := ladd_ok (n + 2) (evl A e / evl B e) (-evl T e) κ (zV.up (by decide)) ((sz_neg zT).up (by decide))
  have zL := zV.add (sz_neg zT)
  have e7 := lpower_ok (n + 1) em (ordV f most T R) o2 κ
  have zP : Sz (1 + 38 * 60) (e ^ ordV f most T R) := by
    have s1 : Sz 1 1 := ⟨by show (1 : Nat) < _; decide, by show (1 : Nat) < _; decide⟩
    have := sz_zpow em s1 (ordV f most T R)
    rw [Rat.one_mul] at this
    exact this.up (by omega)
  have zS := k.sizs h
  have e8 := lby_ok (n + 2) (sizV b0 R) (e ^ ordV f most T R) κ (zS.up (by decide)) (zP.up (by decide))
  have zM := zS.mul zP
  have e9 := lisless_ok (n + 4) (sizV b0 R * e ^ ordV f most T R) (absR (evl A e / evl B e + -evl T e)) κ (zM.up (by decide)) (sz_abs (zL.up (by decide)))
  rw [decide_eq_false hL, ← frD_abs] at e9
  have e1' : callN P0 (n + 5) 33 [frD (belR (absR b0) (gmax ft)), frD q] κ = .ok (frD e, κ) := e1
  have e4' : callN P0 (n + 5) 34 [frD (evl A e), frD (evl B e)] κ = .ok (frD (evl A e / evl B e), κ) := e4
  have eT : frD (evl T e) = .tup [.int (evl T e).num, .int (evl T e).den] := rfl
  rw [eT] at e5
  rw [← neg_fr] at e6
  have eL : frD (evl A e / evl B e + -evl T e) = .tup [.int (evl A e / evl B e + -evl T e).num, .int (evl A e / evl B e + -evl T e).den] := rfl
  rw [eL] at e6
  have j := hJ (frD e) (frD (evl A e / evl B e)) (.tup [.int (evl T e).num, .int (evl T e).den]) (.tup [.int (evl A e / evl B e + -evl T e).num, .int (evl A e / evl B e + -evl T e).den]) (frD (sizV b0 R * e ^ ordV f most T R))
  generalize evl A e / evl B e + -evl T e = x at *
  generalize evl T e = y at *
  generalize ordV f most T R = o at *
  generalize sizV b0 R * e ^ o = z at *
  simp -implicitDefEqProofs [sizeLine_eq, startS, wipeS, assignT, assign1, setAt_eq, isTy, askS, turnS, lapS, forB, sN, Pr.b_law, e1', show callN P0 (n + 5) 44 [.obj a, frD e] κ = _ from e2, show callN P0 (n + 5) 44 [.obj b, frD e] κ = _ from e3, e4', show callN P0 (n + 5) 44 [.obj d, frD e] κ = _ from e5,
    show callN P0 (n + 5) 32 [frD (evl A e / evl B e), .tup [.int (-y.num), .int y.den]] κ = _ from e6, show callN P0 (n + 5) 47 [frD e, .int o] κ = _ from e7, show callN P0 (n + 5) 33 [frD (sizV b0 R), frD (e ^ o)] κ = _ from e8, e9]
  exact j
end
end R

set_option exponentiation.threshold 5000
/-! C7: the law. -/
namespace R
open PySem L2
open scoped Rat
theorem Drw.sz7 {B many most : Nat} {K : W} (h : Drw B many most K) (hB : B < 128) : ∀ p ∈ nrm K, Sz 7 p.2 := fun p hp => by
  obtain ⟨h1, h2⟩ := Drw.nrm_mem h.d hp
  obtain ⟨q, hq, e⟩ := (List.mem_map.mp h1)
  have e : q.1 = p.1 := e
  have : p.2 = q.2 := by rw [h2, ← e, cf_mem h.d.nd hq]
  rw [this]
  have a := h.num q hq
  have b := h.den q hq
  exact ⟨by show q.2.num.natAbs < 2 ^ 7; omega, by show ((q.2.den : Int)).natAbs < 2 ^ 7; omega⟩
/-- the product of what is tiny -/
theorem prod_top {A B : W} {m1 m2 k1 k2 : Nat} (ha : Drw 4 m1 k1 A) (hb : Drw 4 m2 k2 B) (h1 : m1 ≤ 3) (h2 : m2 ≤ 3) (hk : k1 + k2 ≤ 12) : ∃ Δ M, (Fit (prodW A B) Δ M 0) ∧ TopOk (addAll [] (prodW A B)) Δ ((prodW A B).length * M) := by
  obtain ⟨D1, d1, l1, v1⟩ := dv_list (B := 4) (by decide) A ha.num ha.den
  obtain ⟨D2, d2, l2, v2⟩ := dv_list (B := 4) (by decide) B hb.num hb.den
  have p1 : (4 : Nat) ^ A.length ≤ 4 ^ 3 := Nat.pow_le_pow_right (by decide) (Nat.le_trans ha.len h1)
  have p2 : (4 : Nat) ^ B.length ≤ 4 ^ 3 := Nat.pow_le_pow_right (by decide) (Nat.le_trans hb.len h2)
  have hl : (prodW A B).length ≤ 9 := by
    rw [prod_len2]
    exact Nat.mul_le_mul (Nat.le_trans ha.len h1) (Nat.le_trans hb.len h2)
  have hdv : ∀ p ∈ prodW A B, Dv (D1 * D2) (256 * 256) p.2 := fun p hp => by
    obtain ⟨x, hx, y, hy, rfl⟩ := prod_rng hp
    exact ((v1 x hx).mul (v2 y hy)).up (Nat.mul_le_mul (Nat.le_trans (Nat.mul_le_mul_left _ p1) (by decide)) (Nat.le_trans (Nat.mul_le_mul_left _ p2) (by decide)))
  have hrng : ∀ p ∈ prodW A B, 0 ≤ p.1 ∧ p.1 ≤ 12 := fun p hp => by
    obtain ⟨x, hx, y, hy, rfl⟩ := prod_rng hp
    have := ha.key x hx
    have := hb.key y hy
    show 0 ≤ x.1 + y.1 ∧ x.1 + y.1 ≤ 12
    omega
  have d0 : 0 < D1 * D2 := Nat.mul_pos d1 d2
  have hD : D1 * D2 ≤ 4096 := by
    calc D1 * D2 ≤ 4 ^ 3 * 4 ^ 3 := Nat.mul_le_mul (by omega) (by omega)
      _ = 4096 := by decide
  have hM : (prodW A B).length * (256 * 256) ≤ 589824 := Nat.le_trans (Nat.mul_le_mul_right _ hl) (by decide)
  have b1 : (4096 : Nat) < 2 ^ 3999 := Nat.lt_of_lt_of_le (show 4096 < 2 ^ 20 by decide) (Nat.pow_le_pow_right (by decide) (by decide))
  have b2 : (589824 : Nat) < 2 ^ 3999 := Nat.lt_of_lt_of_le (show 589824 < 2 ^ 20 by decide) (Nat.pow_le_pow_right (by decide) (by decide))
  refine ⟨D1 * D2, 256 * 256, ⟨d0, hdv, fun p hp => by have := hrng p hp; omega, by omega, by omega⟩, addAll_dct Dct.nil _, fun p hp => ?_, d0, Nat.lt_of_le_of_lt hD (by decide), Nat.lt_of_le_of_lt hM (by decide), fun k => ?_⟩
  · have := addAll_keys (F := []) (L := prodW A B) (j := p.1) (List.mem_map_of_mem hp)
    rcases this with z | z
    · simp [keysW] at z
    · obtain ⟨q, hq, e⟩ := List.mem_map.mp z
      have e : q.1 = p.1 := e
      have := hrng q hq
      omega
  · rw [addAll_cf Dct.nil]
    have e : cf ([] : W) k + cf (prodW A B) k = cf (prodW A B) k := by simp [cf]; grind
    rw [e]
    exact dv_cf d0 hdv k
theorem prod_ne {A B : W} (dA : Dct A) (dB : Dct B) (hA : A ≠ []) (hB : B ≠ []) : addAll [] (prodW A B) ≠ [] := fun z => by
  obtain ⟨l, ml⟩ := mn_ex hA
  obtain ⟨f, mf⟩ := mn_ex hB
  have h1 := addAll_cf Dct.nil (prodW A B) (l + f)
  rw [z, cf_prod, conv_dict (fun k => (nrm_cf dB.nd k).symm)] at h1
  have hf : Foot (nrm B) f (cf B f) := ⟨nrm_can dB.nd, nrm_hd dB mf⟩
  rw [conv_head hf (cf A) l fun k hk => Classical.not_not.mp fun z => by have := ml.2 k (cf_ne z); omega] at h1
  have h2 : cf B f * cf A l = 0 := by
    have : cf ([] : W) (l + f) = 0 := rfl
    rw [this] at h1
    grind
  rcases Rat.mul_eq_zero.mp h2 with z | z
  · exact dB.ne mf.1 z
  · exact dA.ne ml.1 z
theorem rp_fr {q : Rat} (h : Sz 1900 q) : Rp 1 4000 (frD q) := (rp_tup (k := 0) (b := 1902) (xs := [.int q.num, .int q.den]) fun x hx => by
  simp only [List.not_mem_nil, or_false, List.mem_cons] at hx
  rcases hx with rfl | rfl
  · exact rp_int h.1
  · exact rp_int h.2).up (by decide) (by simp)
section
variable {A B : W} {f fl lo : Int} {Δ0 M0 Δb Mb : Nat} {z0 most : Int} {T R : W} {b0 : Rat} {ft : W}
theorem Bnd.rp (h : Qd A B f fl lo Δ0 M0 Δb Mb z0) (k : Bnd A B f lo Δ0 M0 Mb z0 most T R b0 ft) (hm : lo - f - 15 ≤ most ∧ most ≤ lo - f + 12) : Rp 2 20000 (bndD f most T R b0 ft) := by
  rw [bndD_eq]
  refine (rp_tup (k := 1) (b := 4000) (xs := [_, _, _]) fun x hx => ?_).up (by decide) (by simp)
  have := (k.ord h hm).2
  simp only [List.not_mem_nil, or_false, List.mem_cons] at hx
  rcases hx with rfl | rfl | rfl
  · exact (rp_i (by omega)).up (by decide) (by decide)
  · exact rp_fr ((k.sizs h).up (by decide))
  · exact rp_fr ((k.bel h).up (by decide))
theorem lturn_ok (h : Qd A B f fl lo Δ0 M0 Δb Mb z0) (hB7 : ∀ p ∈ nrm B, Sz 7 p.2) (n : Nat) {κ : Cells} {N a b : Nat} (hk : PenK N κ) (hN : N ≤ 800000) (ha : AtW κ a A) (hb : AtW κ b B) (ha0 : 1 ≤ a) (hb0 : 1 ≤ b)
    (s0 s2 s7 : Option O) (x8 x9 x10 x11 x12 x13 x14 x15 x16 x17 x18 x19 : Option D) (J : Sl → Cells → Prop)
    (hJ : ∀ (y8 y9 y10 y11 y12 y13 y14 y15 y16 y17 y18 y19 : Option D) κ', PenK (N + 2) κ' → Up κ κ' → J [s0, some (.fz (.obj 0)), s2, some (.fz (.obj b)), some (.fz (.obj a)), some (.fz (oneD A B)), some (.fz (.int (lo - f))), s7, Option.map O.fz y8, Option.map O.fz y9, Option.map O.fz y10, Option.map O.fz y11, Option.map O.fz y12, Option.map O.fz y13, Option.map O.fz y14, Option.map O.fz y15, Option.map O.fz y16, Option.map O.fz y17, Option.map O.fz y18, Option.map O.fz y19] κ') :
    NxTo (exec (Gm (n + 8)) turnS [s0, some (.fz (.obj 0)), s2, some (.fz (.obj b)), some (.fz (.obj a)), some (.fz (oneD A B)), some (.fz (.int (lo - f))), s7, Option.map O.fz x8, Option.map O.fz x9, Option.map O.fz x10, Option.map O.fz x11, Option.map O.fz x12, Option.map O.fz x13, Option.map O.fz x14, Option.map O.fz x15, Option.map O.fz x16, Option.map O.fz x17, Option.map O.fz x18, Option.map O.fz x19] κ) J := by
  have hf := h.f0
  have l0 := h.lo0
  obtain ⟨i, κ1, e1, g1, g2, k1, u1⟩ := draw' (n + 7) hk (by omega) 9 (by omega) (by omega)
  have hm : lo - f - 15 ≤ lo - f - 1 + i ∧ lo - f - 1 + i ≤ lo - f + 7 := by omega
  have hm2 : lo - f - 15 ≤ lo - f - 1 + i ∧ lo - f - 1 + i ≤ lo - f + 12 := by omega
  obtain ⟨most, hmost⟩ : ∃ most, most = lo - f - 1 + i := ⟨_, rfl⟩
  rw [← hmost] at hm hm2
  obtain ⟨T, s⟩ := h.ser hm2.2
  obtain ⟨R, l⟩ := h.lft (s.tl hm2.2)
  obtain ⟨ft, eB⟩ := nrm_hd h.b.t.d h.mn
  obtain ⟨b0, hb0'⟩ : ∃ b0, b0 = cf B f := ⟨_, rfl⟩
  rw [← hb0'] at eB
  have k : Bnd A B f lo Δ0 M0 Mb z0 most T R b0 ft := ⟨s, l, eB, hB7⟩
  have a1 := ha.up ha0 u1
  have b1 := hb.up hb0 u1
  have p1 := k1.pos
  obtain ⟨κ2, e2, g2'⟩ := k.bound h (n + 1) κ1
  obtain ⟨κ3, e3, g3⟩ := h.expd s (n + 1) κ2
  have e4 := lknown_ok (n + 7) T κ3 s.exp.can.nd (by have := s.len; omega)
  obtain ⟨d, hd⟩ : ∃ d, d = κ3.length := ⟨_, rfl⟩
  obtain ⟨κ4, h4⟩ : ∃ κ4, κ4 = κ3 ++ [⟨false, .dk (kd T)⟩] := ⟨_, rfl⟩
  have g4 : Gr κ3 κ4 := ⟨_, h4⟩
  have d4 : AtW κ4 d T := by rw [hd, h4]; exact AtW.last κ3 T
  rw [← hd, ← h4] at e4
  have gA := (g2'.trans g3).trans g4
  have k4 := k1.gr gA
  have d0 : 1 ≤ d := by rw [hd]; exact ((k1.gr (g2'.trans g3))).pos
  obtain ⟨κ5, e5, g5⟩ := k.law h hm2 (n + 1) a b (a1.gr gA) (b1.gr gA)
  have k5 := k4.gr g5
  obtain ⟨t1, r1, q1⟩ := rep_self (k.rp h hm2) (by decide) (by decide)
  obtain ⟨o1, o2⟩ := k.ord h hm2
  obtain ⟨c0, c1, c2⟩ := k.b h
  have bp := belR_pos c0 (gmax_nonneg ft)
  have bs := k.bel h
  have hnum : ¬ (belR (absR b0) (gmax ft)).num ≤ 0 := by
    have h1 := Rat.num_nonneg.mpr (Rat.le_of_lt bp.1)
    have h2 := num0 (Rat.ne_of_gt bp.1)
    omega
  have e6 := lisless_ok (n + 7) (1 / 2) (belR (absR b0) (gmax ft)) κ5 (sz_half.up (by decide)) (bs.up (by decide))
  rw [decide_eq_false (Rat.not_lt.mpr bp.2), half_eq] at e6
  obtain ⟨j, κ6, e7, j1, j2, k6, u6⟩ := draw' (n + 7) k5 (by omega) 40 (by omega) (by omega)
  have e8 := lpart_ok (n + 6) (1 + j) 41 κ6 (by decide) (Nat.lt_of_lt_of_le (show (1 + j).natAbs < 2 ^ 6 by omega) (Nat.pow_le_pow_right (by decide) (by decide))) (Nat.lt_of_lt_of_le (show (41 : Int).natAbs < 2 ^ 6 by decide) (Nat.pow_le_pow_right (by decide) (by decide)))
  have ug : Up κ1 κ6 := (gA.trans g5).up.trans u6
  have u7 : Up κ κ6 := u1.trans ug
  have a6 := ha.up ha0 u7
  have b6 := hb.up hb0 u7
  have d6 := (d4.gr g5).up d0 u6
  have ak := fun (q : Rat) (hq : PartOk q) => ask_ok h k hm (n + 3) a b d a6 b6 d6 hq
  have P1 : PartOk 1 := ⟨by decide +kernel, Rat.le_refl, ⟨by show (1 : Nat) < _; decide, by show (1 : Nat) < _; decide⟩⟩
  have P2 : PartOk ((1 + j) /. 41) := by
    refine ⟨?_, ?_, sz_frac (by decide) (by show (1 + j).natAbs < 2 ^ 14; omega) (by show (41 : Nat) < _; decide)⟩
    · rw [Rat.divInt_eq_div, Rat.div_def]
      have h1 : (0 : Rat) < ((1 + j : Int) : Rat) := by
        rw [show (0 : Rat) = ((0 : Int) : Rat) from rfl, Rat.intCast_lt_intCast]; omega
      exact Rat.mul_pos h1 (Rat.inv_pos.mpr (by decide +kernel))
    · have h1 : ((1 + j : Int) : Rat) ≤ ((41 : Int) : Rat) := by rw [Rat.intCast_le_intCast]; omega
      have h2 : (0 : Rat) < ((41 : Int) : Rat)⁻¹ := Rat.inv_pos.mpr (by decide +kernel)
      have h3 := Rat.mul_le_mul_of_nonneg_right h1 (Rat.le_of_lt h2)
      rw [Rat.mul_inv_cancel _ (by decide +kernel)] at h3
      rw [Rat.divInt_eq_div, Rat.div_def]
      exact h3
  have P3 : PartOk (1 /. 10000) := by
    refine ⟨by decide +kernel, by decide +kernel, sz_frac (by decide) (by show (1 : Nat) < _; decide) (by show (10000 : Nat) < _; decide)⟩
  have f1 : frD 1 = .tup [.int 1, .int 1] := rfl
  have f3 : frD (1 /. 10000) = .tup [.int 1, .int 10000] := by
    unfold frD
    rw [show (1 /. 10000 : Rat).num = 1 by decide +kernel, show (1 /. 10000 : Rat).den = 10000 by decide +kernel]
    rfl
  have ep : binD .pow (.int 10) (.int 4) = some (.fz (.int 10000)) := b_pow (i := 10) (j := 4) (by decide) (by decide)
  rw [bndD_eq] at e2 e5 r1
  have e1' : callN P0 (n + 8) 28 [.obj 0, .int 9] κ = .ok (.int i, κ1) := e1
  have e2' : callN P0 (n + 8) 26 [oneD A B, .int most] κ1 = .ok (.tup [.int (ordV f most T R), frD (sizV b0 R), frD (belR (absR b0) (gmax ft))], κ2) := e2
  have e3' : callN P0 (n + 8) 21 [oneD A B, .int most] κ2 = .ok (wD T, κ3) := e3
  have e4' : callN P0 (n + 8) 37 [wD T] κ3 = .ok (.obj d, κ4) := e4
  have e5' : callN P0 (n + 8) 43 [.obj a, .obj b, .int most] κ4 = .ok (.tup [.int (ordV f most T R), frD (sizV b0 R), frD (belR (absR b0) (gmax ft))], κ5) := e5
  have e6' : callN P0 (n + 8) 35 [.tup [.int 1, .int 2], frD (belR (absR b0) (gmax ft))] κ5 = .ok (.bl false, κ5) := e6
  have e7' : callN P0 (n + 8) 28 [.obj 0, .int 40] κ5 = .ok (.int j, κ6) := e7
  have e8' : callN P0 (n + 8) 31 [.int (1 + j), .int 41] κ6 = .ok (frD ((1 + j) /. 41), κ6) := e8
  have rr : ∀ κ, blt1C κ .repr (.fz (.tup [.int (ordV f most T R), frD (sizV b0 R), frD (belR (absR b0) (gmax ft))])) = some (.fz (.str t1)) := fun _ => by
    show (repD (.tup [.int (ordV f most T R), frD (sizV b0 R), frD (belR (absR b0) (gmax ft))])).map (fun t => O.fz (.str t)) = _
    rw [r1]; rfl
  have ix : ∀ κ, idxC κ (frD (belR (absR b0) (gmax ft))) (.int 0) = some (.int (belR (absR b0) (gmax ft)).num) := fun _ => rfl
  have f5 : sN 5 turnS = .for_ (.v 14) (.walk (.lst (.cons (.tup (.cons (.cst (.int 1)) (.cons (.cst (.int 1)) .nil))) (.cons (.call 31 (.cons (.bin .add (.cst (.int 1)) (.call 28 (.cons (.var 1) (.cons (.cst (.int 40)) .nil)))) (.cons (.cst (.int 41)) .nil))) (.cons (.tup (.cons (.cst (.int 1)) (.cons (.bin .pow (.cst (.int 10)) (.cst (.int 4))) .nil))) .nil))))) askS := rfl
  rw [show turnS = .cons (sN 0 turnS) (.cons (sN 1 turnS) (.cons (sN 2 turnS) (.cons (sN 3 turnS) (.cons (sN 4 turnS) (.cons (sN 5 turnS) .nil))))) from rfl, f5]
  generalize askS = E at ak
  have fin : NxTo (forD (fun x σ κ => exOd (fun σ => exec (Gm (n + 8)) E σ κ) ⟨⟩ (setAt σ 14 (some (.fz x)))) ⟨⟩ [.tup [.int 1, .int 1], frD ((1 + j) /. 41), .tup [.int 1, .int 10000]]
      [s0, some (.fz (.obj 0)), s2, some (.fz (.obj b)), some (.fz (.obj a)), some (.fz (oneD A B)), some (.fz (.int (lo - f))), s7, some (.fz (.int most)), some (.fz (.tup [.int (ordV f most T R), frD (sizV b0 R), frD (belR (absR b0) (gmax ft))])), some (.fz (.obj d)), some (.fz (.int (ordV f most T R))), some (.fz (frD (sizV b0 R))), some (.fz (frD (belR (absR b0) (gmax ft)))), Option.map O.fz x14, Option.map O.fz x15, Option.map O.fz x16, Option.map O.fz x17, Option.map O.fz x18, Option.map O.fz x19] κ6) J := by
    refine nx_loop (I := fun ys σ κ' => κ' = κ6 ∧ (∀ y ∈ ys, ∃ q, y = frD q ∧ PartOk q) ∧ ∃ y14 y15 y16 y17 y18 y19 : Option D, σ = [s0, some (.fz (.obj 0)), s2, some (.fz (.obj b)), some (.fz (.obj a)), some (.fz (oneD A B)), some (.fz (.int (lo - f))), s7, some (.fz (.int most)), some (.fz (.tup [.int (ordV f most T R), frD (sizV b0 R), frD (belR (absR b0) (gmax ft))])), some (.fz (.obj d)), some (.fz (.int (ordV f most T R))), some (.fz (frD (sizV b0 R))), some (.fz (frD (belR (absR b0) (gmax ft)))), Option.map O.fz y14, Option.map O.fz y15, Option.map O.fz y16, Option.map O.fz y17, Option.map O.fz y18, Option.map O.fz y19]) ⟨rfl, fun y hy => ?_, x14, x15, x16, x17, x18, x19, rfl⟩ ?_ ?_
    · simp only [List.mem_cons, List.not_mem_nil, or_false] at hy
      rcases hy with rfl | rfl | rfl
      · exact ⟨1, f1.symm, P1⟩
      · exact ⟨_, rfl, P2⟩
      · exact ⟨_, f3.symm, P3⟩
    · rintro x ys σ κ' ⟨rfl, hy, y14, y15, y16, y17, y18, y19, rfl⟩ J' hJ'
      obtain ⟨q, rfl, hq⟩ := hy x (by simp)
      have := ak q hq s0 (some (.fz (.obj 0))) s2 (some (.fz (oneD A B))) (some (.fz (.int (lo - f)))) s7 (some (.fz (.int most))) (some (.fz (.tup [.int (ordV f most T R), frD (sizV b0 R), frD (belR (absR b0) (gmax ft))]))) y15 y16 y17 y18 y19 J' fun v15 v16 v17 v18 v19 =>
        hJ' _ _ ⟨rfl, fun y hy' => hy y (by simp [hy']), some (frD q), some v15, some v16, some v17, some v18, some v19, rfl⟩
      simp -implicitDefEqProofs [sizeLine_eq, startS, wipeS, assignT, assign1, setAt_eq, isTy, ]
      exact this
    · rintro σ κ' ⟨rfl, _, y14, y15, y16, y17, y18, y19, rfl⟩
      exact hJ (some (.int most)) (some _) (some (.obj d)) (some _) (some _) (some _) y14 y15 y16 y17 y18 y19 κ' k6 u7
  have o3 : ¬ ordV f most T R ≤ most := by omega
  generalize ordV f most T R = ov at *
  generalize sizV b0 R = sv at *
  generalize frD sv = svD at *
  generalize (belR (absR b0) (gmax ft)).num = bn at *
  generalize frD (belR (absR b0) (gmax ft)) = bD at *
  simp -implicitDefEqProofs [sizeLine_eq, startS, wipeS, assignT, assign1, setAt_eq, isTy, turnS, lapS, forB, sN, Pr.b_law, exec.exec1, exec.evos, exec.assignO, e1', ← hmost, e2', e3', e4', rr, q1, e5', o3, ix, hnum, e6', e7', e8', ep]
  exact nx_then fin fun σ κ hj => by simp -implicitDefEqProofs [sizeLine_eq, startS, wipeS, assignT, assign1, setAt_eq, isTy, ]; exact hj
end
end R

set_option exponentiation.threshold 5000
/-! C8: the laps. -/
namespace R
open PySem L2
open scoped Rat
section
variable {A B : W} {Δ0 M0 Δb Mb : Nat}
theorem lmid_ok (ta : TopOk A Δ0 M0) (hA : A ≠ []) (tb : BotOk B Δb Mb) (hB7 : ∀ p ∈ nrm B, Sz 7 p.2) (n : Nat) {κ : Cells} {N a b : Nat} (hk : PenK N κ) (hN : N ≤ 700000) (ha : AtW κ a A) (hb : AtW κ b B) (ha0 : 1 ≤ a) (hb0 : 1 ≤ b)
    (s0 s2 : Option O) (x5 x6 x7 x8 x9 x10 x11 x12 x13 x14 x15 x16 x17 x18 x19 : Option D) (J : Sl → Cells → Prop)
    (hJ : ∀ (y5 y6 y7 y8 y9 y10 y11 y12 y13 y14 y15 y16 y17 y18 y19 : Option D) κ', PenK (N + 4) κ' → J [s0, some (.fz (.obj 0)), s2, some (.fz (.obj b)), some (.fz (.obj a)), Option.map O.fz y5, Option.map O.fz y6, Option.map O.fz y7, Option.map O.fz y8, Option.map O.fz y9, Option.map O.fz y10, Option.map O.fz y11, Option.map O.fz y12, Option.map O.fz y13, Option.map O.fz y14, Option.map O.fz y15, Option.map O.fz y16, Option.map O.fz y17, Option.map O.fz y18, Option.map O.fz y19] κ') :
    NxTo (exec (Gm (n + 8)) (sR 3 lapS) [s0, some (.fz (.obj 0)), s2, some (.fz (.obj b)), some (.fz (.obj a)), Option.map O.fz x5, Option.map O.fz x6, Option.map O.fz x7, Option.map O.fz x8, Option.map O.fz x9, Option.map O.fz x10, Option.map O.fz x11, Option.map O.fz x12, Option.map O.fz x13, Option.map O.fz x14, Option.map O.fz x15, Option.map O.fz x16, Option.map O.fz x17, Option.map O.fz x18, Option.map O.fz x19] κ) J := by
  obtain ⟨f, fl, lo, z0, h, -⟩ := qd_make ta tb
  have lA := ta.len
  have lB := tb.t.len
  have e1 := worthof_ok (n + 7) a ha ta.d (by omega)
  have e2 := worthof_ok (n + 7) b hb tb.t.d (by omega)
  have m1 := kv_min ha.open_ (h.lo.resolve_left hA)
  have m2 := kv_min hb.open_ h.mn
  have e4 : rangeD 0 2 = some ((List.range 2).map fun (k : Nat) => D.int (k : Int)) := range_nat (n := 2) (by decide)
  have lp := fun (κ : Cells) (N : Nat) (hk : PenK N κ) (hN : N ≤ 800000) (ha : AtW κ a A) (hb : AtW κ b B) => lturn_ok h hB7 n hk hN ha hb ha0 hb0
  have f3 : sN 3 lapS = .par [5, 6] (.cons (.tup (.cons (.call 36 (.cons (.var 4) .nil)) (.cons (.call 36 (.cons (.var 3) .nil)) .nil))) (.cons (.bin .sub (.blt1 .min (.var 4)) (.blt1 .min (.var 3))) .nil)) := rfl
  rw [show sR 3 lapS = .cons (sN 3 lapS) (.cons (.for_ (.v 7) (.rng1 (.cst (.int 2))) turnS) .nil) from rfl, f3]
  generalize turnS = E at *
  have e1' : callN P0 (n + 8) 36 [.obj a] κ = .ok (wD (nrm A), κ) := e1
  have e2' : callN P0 (n + 8) 36 [.obj b] κ = .ok (wD (nrm B), κ) := e2
  have eo : D.tup [wD (nrm A), wD (nrm B)] = oneD A B := rfl
  simp -implicitDefEqProofs [sizeLine_eq, startS, wipeS, assignT, assign1, setAt_eq, isTy, exec.exec1, exec.evos, exec.assignO, e1', e2', eo, m1, m2, e4]
  refine nx_then (nx_loop (J := J)
      (I := fun ys σ κ' => PenK (N + 4 - 2 * ys.length) κ' ∧ ys.length ≤ 2 ∧ AtW κ' a A ∧ AtW κ' b B ∧ ∃ y7 y8 y9 y10 y11 y12 y13 y14 y15 y16 y17 y18 y19 : Option D, σ = [s0, some (.fz (.obj 0)), s2, some (.fz (.obj b)), some (.fz (.obj a)), some (.fz (oneD A B)), some (.fz (.int (lo - f))), Option.map O.fz y7, Option.map O.fz y8, Option.map O.fz y9, Option.map O.fz y10, Option.map O.fz y11, Option.map O.fz y12, Option.map O.fz y13, Option.map O.fz y14, Option.map O.fz y15, Option.map O.fz y16, Option.map O.fz y17, Option.map O.fz y18, Option.map O.fz y19])
      ⟨by simpa using hk, by simp, ha, hb, x7, x8, x9, x10, x11, x12, x13, x14, x15, x16, x17, x18, x19, rfl⟩ ?_ ?_) ?_
  · rintro x ys σ κ' ⟨pk', hl, a', b', y7, y8, y9, y10, y11, y12, y13, y14, y15, y16, y17, y18, y19, rfl⟩ J' hJ'
    simp only [List.length_cons] at pk' hl
    have := lp κ' (N + 4 - 2 * (ys.length + 1)) pk' (by omega) a' b' s0 s2 (some (.fz x)) y8 y9 y10 y11 y12 y13 y14 y15 y16 y17 y18 y19 J' fun z8 z9 z10 z11 z12 z13 z14 z15 z16 z17 z18 z19 κ'' pk'' up'' => hJ' _ _ ⟨pk''.up (by omega), by omega, a'.up ha0 up'', b'.up hb0 up'', some x, z8, z9, z10, z11, z12, z13, z14, z15, z16, z17, z18, z19, rfl⟩
    simp -implicitDefEqProofs [sizeLine_eq, startS, wipeS, assignT, assign1, setAt_eq, isTy, ]
    exact this
  · rintro σ κ' ⟨pk', hl, a', b', y7, y8, y9, y10, y11, y12, y13, y14, y15, y16, y17, y18, y19, rfl⟩
    exact hJ (some _) (some _) y7 y8 y9 y10 y11 y12 y13 y14 y15 y16 y17 y18 y19 κ' (by simpa using pk')
  · intro σ κ hj
    simp -implicitDefEqProofs [sizeLine_eq, startS, wipeS, assignT, assign1, setAt_eq, isTy, ]
    exact hj
end
theorem lap_ok (n : Nat) {κ : Cells} {N : Nat} (hk : PenK N κ) (hN : N ≤ 600000) (s0 s2 : Option O) (x3 x4 x5 x6 x7 x8 x9 x10 x11 x12 x13 x14 x15 x16 x17 x18 x19 : Option D) (J : Sl → Cells → Prop)
    (hJ : ∀ (y3 y4 y5 y6 y7 y8 y9 y10 y11 y12 y13 y14 y15 y16 y17 y18 y19 : Option D) κ', PenK (N + 1000) κ' → J [s0, some (.fz (.obj 0)), s2, Option.map O.fz y3, Option.map O.fz y4, Option.map O.fz y5, Option.map O.fz y6, Option.map O.fz y7, Option.map O.fz y8, Option.map O.fz y9, Option.map O.fz y10, Option.map O.fz y11, Option.map O.fz y12, Option.map O.fz y13, Option.map O.fz y14, Option.map O.fz y15, Option.map O.fz y16, Option.map O.fz y17, Option.map O.fz y18, Option.map O.fz y19] κ') :
    NxTo (exec (Gm (n + 8)) lapS [s0, some (.fz (.obj 0)), s2, Option.map O.fz x3, Option.map O.fz x4, Option.map O.fz x5, Option.map O.fz x6, Option.map O.fz x7, Option.map O.fz x8, Option.map O.fz x9, Option.map O.fz x10, Option.map O.fz x11, Option.map O.fz x12, Option.map O.fz x13, Option.map O.fz x14, Option.map O.fz x15, Option.map O.fz x16, Option.map O.fz x17, Option.map O.fz x18, Option.map O.fz x19] κ) J := by
  obtain ⟨b, κ1, B, e1, b1, lb, wB, k1, u1, ab⟩ := smallw_ok (n + 4) hk (by omega) (many := 4) (most := 6) (by decide) (by decide) (by decide) true
  obtain ⟨a, κ2, A, e2, a2, la, wA, k2, u2, -⟩ := smallw_ok (n + 4) k1 (by omega) (many := 4) (most := 6) (by decide) (by decide) (by decide) false
  obtain ⟨c, κ3, e3, c0, c12, k3, u3⟩ := draw' (n + 7) k2 (by omega) 4 (by decide) (by decide)
  have p0 := hk.pos
  have p1 := k1.pos
  have hb0 : 1 ≤ b := by omega
  have ha0 : 1 ≤ a := by omega
  have fin := fun (κ : Cells) (M a b : Nat) (A B : W) (Δ0 M0 Δb Mb : Nat) (ta : TopOk A Δ0 M0) (hA : A ≠ []) (tb : BotOk B Δb Mb) (hB7 : ∀ p ∈ nrm B, Sz 7 p.2) (hk : PenK M κ) (hM : M ≤ N + 900) (ha : AtW κ a A) (hb : AtW κ b B) (ha0 : 1 ≤ a) (hb0 : 1 ≤ b) =>
    lmid_ok ta hA tb hB7 n hk (by omega) ha hb ha0 hb0 s0 s2 x5 x6 x7 x8 x9 x10 x11 x12 x13 x14 x15 x16 x17 x18 x19 J
      fun y5 y6 y7 y8 y9 y10 y11 y12 y13 y14 y15 y16 y17 y18 y19 κ' hk' => hJ (some (.obj b)) (some (.obj a)) y5 y6 y7 y8 y9 y10 y11 y12 y13 y14 y15 y16 y17 y18 y19 κ' (hk'.up (by omega))
  rw [show lapS = .cons (sN 0 lapS) (.cons (sN 1 lapS) (.cons (sN 2 lapS) (sR 3 lapS))) from rfl]
  have f0 : sN 0 lapS = .set 3 (.call 46 (.cons (.var 1) (.cons (.cst (.int 4)) (.cons (.cst (.int 6)) (.cons (.cst (.bl true)) .nil))))) := rfl
  have f1 : sN 1 lapS = .set 4 (.call 46 (.cons (.var 1) (.cons (.cst (.int 4)) (.cons (.cst (.int 6)) (.cons (.cst (.bl false)) .nil))))) := rfl
  have f2 : sN 2 lapS = .ite (.cmp .eq (.call 28 (.cons (.var 1) (.cons (.cst (.int 4)) .nil))) (.cst (.int 0))) (.cons (.set 3 (.call 45 (.cons (.var 1) (.cons (.cst (.int 3)) (.cons (.cst (.int 6)) (.cons (.cst (.bl true)) .nil)))))) (.cons (.set 4 (.call 40 (.cons (.call 45 (.cons (.var 1) (.cons (.cst (.int 2)) (.cons (.cst (.int 3)) (.cons (.cst (.bl false)) .nil))))) (.cons (.var 3) .nil)))) .nil)) .nil := rfl
  rw [f0, f1, f2]
  generalize sR 3 lapS = F at fin
  have e1' : callN P0 (n + 8) 46 [.obj 0, .int 4, .int 6, .bl true] κ = .ok (.obj b, κ1) := e1
  have e2' : callN P0 (n + 8) 46 [.obj 0, .int 4, .int 6, .bl false] κ1 = .ok (.obj a, κ2) := e2
  have e3' : callN P0 (n + 8) 28 [.obj 0, .int 4] κ2 = .ok (.int c, κ3) := e3
  by_cases hc : c = 0
  · obtain ⟨b', κ4, B', g1, b4, lb', wB', k4, u4, ab'⟩ := tiny_ok (n + 4) k3 (by omega) (many := 3) (most := 6) (by decide) (by decide) (by decide) true
    obtain ⟨a', κ5, A', g2, a5, la', wA', k5, u5, -⟩ := tiny_ok (n + 4) k4 (by omega) (many := 2) (most := 3) (by decide) (by decide) (by decide) false
    have p3 := k3.pos
    have p4 := k4.pos
    have lb4 := b4.lt
    have b5 := b4.up (by omega) u5
    obtain ⟨Δb', bB'⟩ := wB'.botOk (by decide) (by decide) (by decide) (ab' rfl)
    obtain ⟨Δ, M, ft, tt⟩ := prod_top wA' wB' (by decide) (by decide) (by decide)
    have s4 : ∀ {i : Int}, i.natAbs ≤ 4 → Lt2 3 i := fun h => by unfold Lt2; omega
    have g3 := sprod_ok (n + 3) a' b' (by omega) a5 b5 wA'.d wB'.d ft (fun p hp => ⟨(s4 (wA'.num p hp)).up (by decide), (s4 (by have := wA'.den p hp; omega)).up (by decide)⟩) (fun p hp => ⟨(s4 (wB'.num p hp)).up (by decide), (s4 (by have := wB'.den p hp; omega)).up (by decide)⟩)
    have g1' : callN P0 (n + 8) 45 [.obj 0, .int 3, .int 6, .bl true] κ3 = .ok (.obj b', κ4) := g1
    have g2' : callN P0 (n + 8) 45 [.obj 0, .int 2, .int 3, .bl false] κ4 = .ok (.obj a', κ5) := g2
    have g3' : callN P0 (n + 8) 40 [.obj a', .obj b'] κ5 = .ok (.obj κ5.length, κ5 ++ [⟨false, .dk (kd (addAll [] (prodW A' B')))⟩]) := g3
    have gg : Gr κ5 (κ5 ++ [⟨false, .dk (kd (addAll [] (prodW A' B')))⟩]) := ⟨_, rfl⟩
    have := fin _ (N + 700) κ5.length b' _ B' _ _ _ _ tt (prod_ne wA'.d wB'.d wA'.ne wB'.ne) bB' (wB'.sz7 (by decide)) ((k5.gr gg).up (by omega)) (by omega) (AtW.last κ5 _) (b5.gr gg) k5.pos (by omega)
    simp -implicitDefEqProofs [sizeLine_eq, startS, wipeS, assignT, assign1, setAt_eq, isTy, e1', e2', e3', hc, g1', g2', g3']
    exact this
  · obtain ⟨Δ, ta⟩ := wA.topOk (by decide) (by decide) (by decide)
    obtain ⟨Δb, bB⟩ := wB.botOk (by decide) (by decide) (by decide) (ab rfl)
    have := fin κ3 (N + 400) a b A B _ _ _ _ ta wA.ne bB (wB.sz7 (by decide)) (k3.up (by omega)) (by omega) (a2.up ha0 u3) (b1.up hb0 (u2.trans u3)) ha0 hb0
    simp -implicitDefEqProofs [sizeLine_eq, startS, wipeS, assignT, assign1, setAt_eq, isTy, e1', e2', e3', hc]
    exact this
theorem law_true (n : Nat) (xs : List Int) : ∃ κ, callN P0 (n + 9) 48 [.scr (xs.map .int)] [] = .ok (.bl true, κ) := by
  suffices h : ∃ d κ, callN P0 (n + 9) 48 [.scr (xs.map .int)] [] = .ok (d, κ) ∧ d = .bl true by
    obtain ⟨d, κ', h, rfl⟩ := h
    exact ⟨κ', h⟩
  refine good_callQ (fn := ⟨1, 20, Pr.b_law⟩) rfl rfl fun Q hQ => ?_
  obtain ⟨κ0, e0, k0⟩ := lpen_ok (n + 7) xs
  have e0' : callN P0 (n + 8) 27 [.scr (xs.map .int)] [] = .ok (.obj 0, κ0) := e0
  have e4 : rangeD 0 4 = some ((List.range 4).map fun (k : Nat) => D.int (k : Int)) := range_nat (n := 4) (by decide)
  rw [show (⟨1, 20, Pr.b_law⟩ : Fn).body = .cons (.set 1 (.call 27 (.cons (.var 0) .nil))) (.cons (.for_ (.v 2) (.rng1 (.cst (.int 4))) lapS) (.cons (.ret (.cst (.bl true))) .nil)) from rfl]
  have lp := fun (κ : Cells) (N : Nat) (hk : PenK N κ) (hN : N ≤ 600000) => lap_ok n hk hN
  generalize lapS = E at lp
  simp -implicitDefEqProofs [sizeLine_eq, startS, wipeS, assignT, assign1, setAt_eq, isTy, e0', e4]
  refine good_then (nx_loop (J := fun σ κ => True) (I := fun ys σ κ => PenK (4000 - 1000 * ys.length) κ ∧ ys.length ≤ 4 ∧ ∃ y2 y3 y4 y5 y6 y7 y8 y9 y10 y11 y12 y13 y14 y15 y16 y17 y18 y19 : Option D, σ = [some (.fz (.scr (xs.map .int))), some (.fz (.obj 0)), Option.map O.fz y2, Option.map O.fz y3, Option.map O.fz y4, Option.map O.fz y5, Option.map O.fz y6, Option.map O.fz y7, Option.map O.fz y8, Option.map O.fz y9, Option.map O.fz y10, Option.map O.fz y11, Option.map O.fz y12, Option.map O.fz y13, Option.map O.fz y14, Option.map O.fz y15, Option.map O.fz y16, Option.map O.fz y17, Option.map O.fz y18, Option.map O.fz y19])
    ⟨by simpa using k0, by simp, none, none, none, none, none, none, none, none, none, none, none, none, none, none, none, none, none, none, rfl⟩ ?_ fun _ _ _ => trivial) fun σ κ _ => ?_
  · rintro x ys σ κ' ⟨pk', hl, y2, y3, y4, y5, y6, y7, y8, y9, y10, y11, y12, y13, y14, y15, y16, y17, y18, y19, rfl⟩ J' hJ'
    simp only [List.length_cons] at pk' hl
    have := lp κ' _ pk' (by omega) (some (.fz (.scr (xs.map .int)))) (some (.fz x)) y3 y4 y5 y6 y7 y8 y9 y10 y11 y12 y13 y14 y15 y16 y17 y18 y19 J' fun z3 z4 z5 z6 z7 z8 z9 z10 z11 z12 z13 z14 z15 z16 z17 z18 z19 κ'' pk'' =>
      hJ' _ _ ⟨pk''.up (by omega), by omega, some x, z3, z4, z5, z6, z7, z8, z9, z10, z11, z12, z13, z14, z15, z16, z17, z18, z19, rfl⟩
    simp -implicitDefEqProofs [sizeLine_eq, startS, wipeS, assignT, assign1, setAt_eq, isTy, ]
    exact this
  · simp -implicitDefEqProofs [sizeLine_eq, startS, wipeS, assignT, assign1, setAt_eq, isTy, ]
    exact hQ _ _ rfl
end R

namespace My
open PySem PySem.Spec PyProof.Rows L2 R
theorem facts {Pm : Program} {w : World} {K : PySem.W.Frag} {h : Heap} {mg : Str → Option Value} {f : Addr} (X : K.In h) (G : h.Ns mainGlobals mg) (hfa : mg ("law" : Str) = some (.ref f)) (c : He.SaysD fa fn K) (cx : (fx.all fun f => f.ok K) = true) :
    ∃ fd : FuncData, (∀ (s : Shared) (v : Value), BindsTo s fd ⟨[v], []⟩ [("script", v)]) ∧ ∀ base : Heap, K.In base → base.Ns mainGlobals mg → FnG Pm w K mg base 11 f fd ["script"] (spD (tb K) (callN Pw 9) 48) := by
  obtain ⟨fd, F⟩ := c.def_ 50 (d := dF "law" 57) rfl
  have e := hfa.symm.trans (He.glo_ok X G (c.fact 48 (f := .glo "law") rfl))
  cases e
  have b := (FunD.bindsA (ps := ["script"]) F fun _ _ _ _ _ _ us hl => match us, hl with | [_], _ => rfl)
  have df : Def K sg Pw 48 (He.ga K "law") fd ["script"] := ⟨"law", "law", (top 57), _, _, rfl, F, fit_48, F.bindsN fun _ _ _ _ _ _ us hl => match us, hl with | [_], _ => rfl⟩
  exact ⟨fd, fun s v => b s [v] rfl, fun base _ _ => prog_ok (tx X G c cx) 9 48 _ fd _ df⟩
end My
open PyProof.Rows PySem.Calls PySem.W PySem
set_option maxHeartbeats 0 in
theorem PySem.Challenge.cw_seldomsteps_k74_whole_bounds_of_what_is_holds : PySem.Challenge.rw_seldomsteps_k74_whole_bounds_of_what_is.Holds := by
  w_on; o_law
  refine HandSHeadRun.head_imp (r := My.Ro) (q := view My.Ro.prog [0, 57]) (H := My.hk) (ob := My.ob) (M := 20000) (loose := My.loose) (d := HandSHeadRun.topDef My.Ro.prog 57) (kwd := []) My.ob_eq
    My.run (by kernel_rfl) (by kernel_rfl) (by kernel_rfl) (by rfl) (by first | assumption | decide +kernel) (by decide +kernel) ⟨rfl, rfl, rfl, rfl, rfl, by decide +kernel⟩ ?hw ?hc
  case hw => w_witness2
  case hc =>
    refine R.walk_G (l := PySem.Challenge.rw_seldomsteps_k74_whole_bounds_of_what_is) (n := 63) (k := 11) (x := "script") rfl (by decide) (by kernel_rfl) ⟨rfl, by decide, by decide⟩ ?F
    intro w mg at_ h Y G hmg0
    obtain ⟨K, KX, c, cx⟩ := Y
    have hmg : mg ("law" : PySem.Str) = some (.ref at_) := by
      have e : (HandSHeadRun.topDef My.Ro.prog 57).name = ("law" : PySem.Str) := by kernel_rfl
      rw [← e]
      exact hmg0
    obtain ⟨fd, hb, hF⟩ := My.facts (Pm := (PySem.Challenge.rw_seldomsteps_k74_whole_bounds_of_what_is).prog) (w := w) KX G hmg c cx
    exact ⟨K, fd, _, KX, hb, fun H a is hl _ hS => R.sp_start hS (R.law_true 0 is), hF⟩

