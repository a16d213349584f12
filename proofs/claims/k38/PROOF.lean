import PyProof.Rows.All
import Wide.All
import OpenK.AllK
import Wide.FinOn
import HandS.ForMost
import HandS.ForExc
import HandS.Wide
import HandS.Gcd
import HandS.IsInst
import HandS.TupAny
import HandS.TupMul
import HandS.Deep
import HandS.Zip
import HandS.OwnEq
import HandS.TryMany
import HandS.TryOnly
import HandS.Style
import HandS.Flow
import HandS.RaiseMore
import HandS.Defaults
import HandS.ExcInit
import HandS.SuiteRaise
import HandS.Conv
import HandS.SlotsOwn
import HandS.Words
import HandS.Ends
import HandS.HeadHook2
import HandS.HeadEnd
import KE.KStateDown
import Lean
import HandS.Base
import HandS.Call
import HandS.More
import HandS.WordsExc
import HandS.Head0
import HandS.Head1
import HandS.Head2
import HandS.Head3
import HandS.HeadHook1
import PySem.Challenge.RW_seldomsteps_k38_systems_judged
set_option Elab.async false
set_option linter.all false
set_option maxRecDepth 100000
set_option maxHeartbeats 8000000
/-! R1: a small language of pure values (D), its terms (E, S), and what they come to. -/
namespace R
open PySem L2

/-- a value, without places -/
inductive D where
  | non | bl (b : Bool) | int (i : Int) | str (x : Str)
  | tup (xs : List D) | lst (xs : List D)
  | dK (kvs : List (Key × D)) | dT (kvs : List (List Key × D))
  | ins (c : Nat) (fs : List D) | obj (n : Nat) | scr (xs : List D)
instance : Inhabited D := ⟨.non⟩
/-- what an expression gives, what stands in a slot: a value that nobody changes any more; a list, a dict of one's own (none: nothing else holds it; some i: the slot i holds it, here it is read) -/
inductive O where
  | fz (d : D) | ol (b : Option Nat) (xs : List D) | od (b : Option Nat) (kvs : List (Key × D)) | ot (b : Option Nat) (kvs : List (List Key × D))
instance : Inhabited O := ⟨.fz .non⟩
def O.d : O → D
  | .fz d => d
  | .ol _ xs => .lst xs
  | .od _ kvs => .dK kvs
  | .ot _ kvs => .dT kvs
/-- given away -/
def O.frz : O → Option D
  | .fz d => some d
  | .ol none xs => some (.lst xs)
  | .od none kvs => some (.dK kvs)
  | .ot none kvs => some (.dT kvs)
  | _ => none
/-- the slots from which it is borrowed -/
def O.bor : O → List Nat
  | .ol (some i) _ => [i]
  | .od (some i) _ => [i]
  | .ot (some i) _ => [i]
  | _ => []
/-- the slot i is read -/
def O.read (i : Nat) : O → O
  | .ol _ xs => .ol (some i) xs
  | .od _ kvs => .od (some i) kvs
  | .ot _ kvs => .ot (some i) kvs
  | o => o
/-- things that are reached by reference: dicts -/
abbrev Cells := List (List (Key × D))
abbrev Sl := List (Option O)
inductive Out (α : Type) where
  | ok (a : α) | exc (c : Nat) (fs : List D) (k : Cells) | bad
instance {α : Type} : Inhabited (Out α) := ⟨.bad⟩
@[inline] def Out.bind {α β : Type} (m : Out α) (f : α → Out β) : Out β := match m with
  | .ok a => f a
  | .exc c fs k => .exc c fs k
  | .bad => .bad
instance : Monad Out where
  pure := Out.ok
  bind := Out.bind
@[inline] def opt {α : Type} : Option α → Out α
  | some a => .ok a
  | none => .bad

inductive Bop where
  | add | sub | mul | fdiv | mod | pow
  deriving DecidableEq
inductive Cop where
  | eq | ne | lt | le | gt | ge | is | isnt | in_ | notin
  deriving DecidableEq
inductive Ty where
  | int | bool | str | tuple | list | cls (c : Nat)
  deriving DecidableEq
inductive Blt where
  | len | all | any | tuple | list | repr | abs | int | max | min | gcd | sum | sorted | dict | str
  deriving DecidableEq
inductive Tg where
  | v (i : Nat) | t (is : List Nat)
  deriving DecidableEq
/-- expressions, lists of them, walks -/
inductive E where
  | var (i : Nat) | cst (d : D) | gcn (g : Nat)
  | nil | cons (e es : E)
  | tup (es : E) | lst (es : E) | dic (ks vs : E)
  | bin (op : Bop) (a b : E) | neg (a : E) | not (a : E) | and (a b : E) | or (a b : E)
  | cmp (op : Cop) (a b : E) | chain (op op' : Cop) (a b c : E) | ite (c a b : E)
  | idx (a i : E) | slc (a lo hi : E) | rev (a : E)
  | fld (a : E) (m : List (Nat × Nat)) | exf (f : Nat)
  | isi (a : E) (tys : List Ty) (many : Bool)
  | call (f : Nat) (es : E) | blt1 (b : Blt) (a : E) | blt2 (b : Blt) (a a' : E) | get (d k x : E) | items (d : E) | join (s xs : E)
  | make (c : Nat) (es : E) | eqo (a b : E) | cell (ks : List Key) (es : E) | lrng (it : E)
  | comp (own : List Nat) (tg : Tg) (it ifs elt : E)
  | comp2 (own : List Nat) (tg : Tg) (it ifs : E) (tg2 : Tg) (it2 ifs2 elt : E)
  | walk (a : E) | rng1 (a : E) | rng2 (a b : E) | zip (a b : E) | enum (a : E)
/-- statements, blocks -/
inductive S where
  | nil | cons (s t : S)
  | set (i : Nat) (e : E) | sets (tg : Tg) (e : E) | par (is : List Nat) (es : E)
  | aug (i : Nat) (op : Bop) (e : E)
  | app (i : Nat) (e : E) | put (i : Nat) (k e : E) | popTo (i j : Nat) (k : E) | appPop (i j : Nat) (k : E) | ext (i : Nat) (e : E) | dpop (i : Nat) (k : E)
  | drop (e : E) | ret (e : E) | retN | ite (c : E) (a b : S) | for_ (tg : Tg) (it : E) (b : S) | whl (c : E) (b : S)
  | raise (c : Nat) (es : E) | try_ (b : S) (hs : S) | han (c : Nat) (o : Option Nat) (b rest : S)
  | brk | cnt | pass | frz (i : Nat) | ref (i : Nat) | deref (i : Nat) | stuck

/-! ### values -/
mutual
def D.py : D → Option PyData
  | .non => some .none
  | .bl b => some (.bool b)
  | .int i => some (.int i)
  | .str x => some (.str x)
  | .tup xs => (D.pys xs).map .tuple
  | .lst xs => (D.pys xs).map .list
  | _ => none
def D.pys : List D → Option (List PyData)
  | [] => some []
  | x :: xs => match D.py x, D.pys xs with
    | some a, some r => some (a :: r)
    | _, _ => none
end
def D.flat : D → Bool
  | .non | .bl _ | .int _ | .str _ => true
  | _ => false
/-- == -/
def eqD (x y : D) : Option Bool := match x.py, y.py with
  | some a, some b => if SeqAt.shaped a && SeqAt.shaped b then some (PyData.eqv a b) else none
  | _, _ => none
def truD : D → Option Bool
  | .non => some false
  | .bl b => some b
  | .int i => some (i != 0)
  | .str x => if x.length ≤ sizeLine then some ((x.length : Int) != 0) else none
  | .tup xs => some (!xs.isEmpty)
  | .lst xs => some (!xs.isEmpty)
  | .scr xs => some (!xs.isEmpty)
  | .dK kvs => some (!kvs.isEmpty)
  | _ => none
def keyOf : D → Option Key
  | .int i => some (.inl i)
  | .str x => some (.inr x)
  | _ => none
def keysOf : List D → Option (List Key)
  | [] => some []
  | x :: xs => match keyOf x, keysOf xs with
    | some a, some r => some (a :: r)
    | _, _ => none
def kD : Key → D
  | .inl i => .int i
  | .inr x => .str x
/-- dicts as lists of pairs -/
def lookP {κ : Type} [DecidableEq κ] (kvs : List (κ × D)) (k : κ) : Option D := (kvs.find? fun p => decide (p.1 = k)).map (·.2)
def putP {κ : Type} [DecidableEq κ] (kvs : List (κ × D)) (k : κ) (v : D) : List (κ × D) :=
  if (kvs.any fun p => decide (p.1 = k)) = true then kvs.map (fun p => if p.1 = k then (p.1, v) else p) else kvs ++ [(k, v)]
def dropP {κ : Type} [DecidableEq κ] (kvs : List (κ × D)) (k : κ) : List (κ × D) := kvs.filter fun p => decide (p.1 ≠ k)
def mulOk (i j : Int) : Bool := decide (i.natAbs.log2 + j.natAbs.log2 < 1000000)
def divOk (j : Int) : Bool := decide (j ≠ 0) && decide (j.natAbs.log2 < 9000)
def binD : Bop → D → D → Option O
  | .add, .int i, .int j => some (.fz (.int (i + j)))
  | .add, .str x, .str y => if x.length + y.length ≤ sizeLine then some (.fz (.str (x ++ y))) else none
  | .add, .lst xs, .lst ys => if xs.length + ys.length ≤ sizeLine then some (.ol none (xs ++ ys)) else none
  | .add, .tup xs, .tup ys => if xs.length + ys.length ≤ sizeLine then some (.fz (.tup (xs ++ ys))) else none
  | .sub, .int i, .int j => some (.fz (.int (i - j)))
  | .mul, .int i, .int j => if mulOk i j then some (.fz (.int (i * j))) else none
  | .mul, .lst xs, .int k => if decide (-(2 ^ 63) ≤ k) && decide (k < 2 ^ 63) && decide (xs.length * k.toNat ≤ sizeLine) then some (.ol none (List.replicate k.toNat xs).flatten) else none
  | .mul, .tup xs, .int k => if !xs.isEmpty && decide (1 ≤ k) && decide (k ≤ 1000) && decide (xs.length ≤ 1000) then some (.fz (.tup (List.replicate k.toNat xs).flatten)) else none
  | .fdiv, .int i, .int j => if divOk j then some (.fz (.int (i.fdiv j))) else none
  | .mod, .int i, .int j => if j = 0 then none else some (.fz (.int (i.fmod j)))
  | .pow, .int i, .int j => if decide (0 ≤ j) && decide (j ≤ 1000000) && decide (i.natAbs < 2 ^ 64) then some (.fz (.int (i ^ j.toNat))) else none
  | _, _, _ => none
def negD : D → Option D
  | .int i => some (.int (-i))
  | _ => none
def flatEq : D → D → Bool
  | .non, .non => true
  | .bl a, .bl b => a == b
  | .bl a, .int b => ((if a then 1 else 0) == b)
  | .int a, .bl b => (a == (if b then 1 else 0))
  | .int a, .int b => a == b
  | .str a, .str b => a == b
  | _, _ => false
def inD (x : D) : D → Option Bool
  | .lst xs => if x.flat && xs.all D.flat then some (xs.any fun y => flatEq y x) else match x.py, D.pys xs with
    | some a, some bs => if SeqAt.shaped a && SeqAt.shaped (.list bs) then some (bs.any fun z => PyData.eqv z a) else none
    | _, _ => none
  | .tup xs => if x.flat && xs.all D.flat then some (xs.any fun y => flatEq y x) else none
  | .str z => match x with
    | .str i => some (!(Builtin.Str.occurrences z i 0 z.length 1).isEmpty)
    | _ => none
  | .dK kvs => (keyOf x).map fun k => (lookP kvs k).isSome
  | _ => none
def isN : D → Bool
  | .non => true
  | _ => false
def ltD : D → D → Option Bool
  | .int i, .int j => some (decide (i < j))
  | .str x, .str y => some (decide (x.cps.toList < y.cps.toList))
  | _, _ => none
def cmpD : Cop → D → D → Option Bool
  | .eq, x, y => eqD x y
  | .ne, x, y => (eqD x y).map (!·)
  | .lt, x, y => ltD x y
  | .gt, .int i, .int j => some (decide (j < i))
  | .le, .int i, .int j => some (decide (i ≤ j))
  | .ge, .int i, .int j => some (decide (j ≤ i))
  | .is, x, .non => some (isN x)
  | .isnt, x, .non => some (!isN x)
  | .is, .bl a, .bl b => some (decide (a = b))
  | .isnt, .bl a, .bl b => some (!decide (a = b))
  | .in_, x, y => inD x y
  | .notin, x, y => (inD x y).map (!·)
  | _, _, _ => none
def idxD : D → D → Option D
  | .tup xs, .int i => atI xs i
  | .lst xs, .int i => atI xs i
  | .scr xs, .int i => atI xs i
  | .str x, .int i => if x.length ≤ sizeLine then (atI x.cps.toList i).map fun c => .str ⟨#[c]⟩ else none
  | .dK kvs, k => (keyOf k).bind (lookP kvs)
  | _, _ => none
/-- a place, of a cell too -/
def idxC (κ : Cells) : D → D → Option D
  | .obj n, y => κ[n]?.bind fun kvs => idxD (.dK kvs) y
  | x, y => idxD x y
def cutD {α : Type} (xs : List α) (lo hi : Option Int) : List α := (xs.drop (HT.sIx xs.length 0 lo)).take (HT.sIx xs.length xs.length hi - HT.sIx xs.length 0 lo)
def boundD : O → Option (Option Int)
  | .fz .non => some none
  | .fz (.int i) => some (some i)
  | _ => none
def slcD (lo hi : Option Int) : D → Option O
  | .tup xs => some (.fz (.tup (cutD xs lo hi)))
  | .lst xs => some (.ol none (cutD xs lo hi))
  | .scr xs => some (.ol none (cutD xs lo hi))
  | .str z => if z.length ≤ sizeLine then some (.fz (.str (cutS z lo hi))) else none
  | _ => none
def revD : D → Option O
  | .tup xs => some (.fz (.tup xs.reverse))
  | .lst xs => some (.ol none xs.reverse)
  | _ => none
def isTy : D → Ty → Bool
  | .bl _, .int => true
  | .bl _, .bool => true
  | .int _, .int => true
  | .str _, .str => true
  | .tup _, .tuple => true
  | .lst _, .list => true
  | .ins c _, .cls c' => decide (c = c')
  | _, _ => false
def hasTy : D → Bool
  | .non | .bl _ | .int _ | .str _ | .tup _ | .lst _ | .ins _ _ => true
  | _ => false
/-- what is walked -/
def itemsD : D → Option (List D)
  | .tup xs => some xs
  | .lst xs => some xs
  | .scr xs => some xs
  | .str z => some (z.cps.toList.map fun c => .str ⟨#[c]⟩)
  | .dK kvs => some (kvs.map fun p => kD p.1)
  | .dT kvs => some (kvs.map fun p => .tup (p.1.map kD))
  | _ => none
/-- a list, a tuple -/
def seqD : D → Option (List D)
  | .tup xs => some xs
  | .lst xs => some xs
  | .scr xs => some xs
  | _ => none
def asInts : List D → Option (List Int)
  | [] => some []
  | .int i :: r => (asInts r).map (i :: ·)
  | _ :: _ => none
def asBools : List D → Option (List Bool)
  | [] => some []
  | .bl i :: r => (asBools r).map (i :: ·)
  | _ :: _ => none
def asStrs : List D → Option (List Str)
  | [] => some []
  | .str i :: r => (asStrs r).map (i :: ·)
  | _ :: _ => none

/-! ### repr -/
def repD (d : D) : Option Str := match d.py with
  | some p => if p.showable && !p.hasDict && decide (p.depth ≤ 60) && decide (p.shown.length ≤ sizeLine) then some p.shown else none
  | none => none
/-- the built-ins of one argument -/
def blt1D : Blt → O → Option O
  | .len, o => match o.d with
    | .tup xs => some (.fz (.int xs.length))
    | .lst xs => some (.fz (.int xs.length))
    | .scr xs => some (.fz (.int xs.length))
    | .str x => if x.length ≤ sizeLine then some (.fz (.int x.length)) else none
    | .dK xs => some (.fz (.int xs.length))
    | _ => none
  | .all, o => match o.d with
    | .lst xs => (asBools xs).map fun bs => .fz (.bl (bs.all id))
    | _ => none
  | .any, o => match o.d with
    | .lst xs => (asBools xs).map fun bs => .fz (.bl (bs.any id))
    | _ => none
  | .tuple, o => match o.d with
    | .tup xs => some (.fz (.tup xs))
    | .lst xs => some (.fz (.tup xs))
    | _ => none
  | .list, o => match o.d with
    | .tup xs => some (.ol none xs)
    | .lst xs => some (.ol none xs)
    | .scr xs => some (.ol none xs)
    | _ => none
  | .repr, o => (repD o.d).map fun t => .fz (.str t)
  | .abs, o => match o.d with
    | .int i => some (.fz (.int (if i < 0 then -i else i)))
    | _ => none
  | .int, o => match o.d with
    | .int i => some (.fz (.int i))
    | .bl b => some (.fz (.int (if b then 1 else 0)))
    | _ => none
  | .str, o => match o.d with
    | .int i => if i.natAbs.log2 < 1920 then some (.fz (.str (toString i))) else none
    | _ => none
  | .sum, o => match o.d with
    | .lst xs => (asInts xs).map fun is => .fz (.int is.sum)
    | _ => none
  | _, _ => none
def blt2D : Blt → D → D → Option D
  | .max, .int i, .int j => some (.int (if j > i then j else i))
  | .min, .int i, .int j => some (.int (if j < i then j else i))
  | .gcd, .int i, .int j => some (.int ((Nat.gcd i.natAbs j.natAbs : Nat) : Int))
  | _, _, _ => none
def rangeD (lo hi : Int) : Option (List D) :=
  if decide (-(2 ^ 62) ≤ lo) && decide (lo < 2 ^ 62) && decide (-(2 ^ 62) ≤ hi) && decide (hi < 2 ^ 62) then
    some ((List.range (hi - lo).toNat).map fun (k : Nat) => D.int (lo + (k : Int))) else none
def zipD : List D → List D → List D
  | x :: xs, y :: ys => .tup [x, y] :: zipD xs ys
  | _, _ => []
def enumD (k : Nat) : List D → List D
  | [] => []
  | x :: xs => .tup [.int k, x] :: enumD (k + 1) xs
/-- nothing walks what the slot holds -/
def unlocked (σ : Sl) (i : Nat) : Bool := match σ[i]? with
  | some (some (.ol (some _) _)) => false
  | some (some (.od (some _) _)) => false
  | some (some (.ot (some _) _)) => false
  | some _ => true
  | none => false
def setAt (σ : Sl) (i : Nat) (o : Option O) : Option Sl := if unlocked σ i then some (σ.set i o) else none
def assign1 (is : List Nat) (ds : List D) (σ : Sl) : Option Sl := match is, ds with
  | [], [] => some σ
  | i :: is, d :: ds => (setAt σ i (some (.fz d))).bind (assign1 is ds)
  | _, _ => none
def assignT (t : Tg) (d : D) (σ : Sl) : Option Sl := match t with
  | .v i => setAt σ i (some (.fz d))
  | .t is => match d with
    | .tup ds => assign1 is ds σ
    | _ => none
def wipeS (σ : Sl) : List Nat → Sl
  | [] => σ
  | v :: vs => (wipeS σ vs).set v none
def noexc {α : Type} : Out α → Out α
  | .exc _ _ _ => .bad
  | o => o
/-- what may stand behind an own == -/
def eqoOk (c : Nat) : D → Bool
  | .ins c' _ => decide (c = c')
  | .tup _ => true
  | _ => false
/-- what is known ahead: the module's constants, the fields of the exception at hand, calls, the turns that a while may take -/
structure Cxt where
  gl : List D
  hx : List D
  calls : Nat → List D → Cells → Out (D × Cells)
  fuel : Nat
  sub : Nat → Nat → Bool
  eqf : Nat → Option Nat
/-- a list's loop that makes a list -/
def compLoop (step : D → Cells → Out (List D × Cells)) : List D → Cells → Out (List D × Cells)
  | [], κ => .ok ([], κ)
  | x :: xs, κ => (step x κ).bind fun y => (compLoop step xs y.2).bind fun z => .ok (y.1 ++ z.1, z.2)

mutual
def ev (Γ : Cxt) : E → Sl → Cells → Out (O × Cells)
  | .var i, σ, κ => match σ[i]? with
    | some (some o) => .ok (o.read i, κ)
    | _ => .bad
  | .cst d, _, κ => .ok (.fz d, κ)
  | .gcn g, _, κ => (opt Γ.gl[g]?).bind fun d => .ok (.fz d, κ)
  | .tup es, σ, κ => (evs Γ es σ κ).bind fun r => .ok (.fz (.tup r.1), r.2)
  | .lst es, σ, κ => (evs Γ es σ κ).bind fun r => .ok (.ol none r.1, r.2)
  | .bin op a b, σ, κ => (ev Γ a σ κ).bind fun x => (ev Γ b σ x.2).bind fun y => (opt (binD op x.1.d y.1.d)).bind fun o => .ok (o, y.2)
  | .neg a, σ, κ => (ev Γ a σ κ).bind fun x => (opt (negD x.1.d)).bind fun d => .ok (.fz d, x.2)
  | .not a, σ, κ => (ev Γ a σ κ).bind fun x => (opt (truD x.1.d)).bind fun b => .ok (.fz (.bl (!b)), x.2)
  | .and a b, σ, κ => (ev Γ a σ κ).bind fun x => (opt (truD x.1.d)).bind fun c => if c then ev Γ b σ x.2 else .ok x
  | .or a b, σ, κ => (ev Γ a σ κ).bind fun x => (opt (truD x.1.d)).bind fun c => if c then .ok x else ev Γ b σ x.2
  | .cmp op a b, σ, κ => (ev Γ a σ κ).bind fun x => (ev Γ b σ x.2).bind fun y => (opt (cmpD op x.1.d y.1.d)).bind fun c => .ok (.fz (.bl c), y.2)
  | .chain op op' a b c, σ, κ => (ev Γ a σ κ).bind fun x => (ev Γ b σ x.2).bind fun y => (opt (cmpD op x.1.d y.1.d)).bind fun t =>
      if t then (ev Γ c σ y.2).bind fun z => (opt (cmpD op' y.1.d z.1.d)).bind fun t' => .ok (.fz (.bl t'), z.2) else .ok (.fz (.bl false), y.2)
  | .ite c a b, σ, κ => (ev Γ c σ κ).bind fun x => (opt (truD x.1.d)).bind fun t => if t then ev Γ a σ x.2 else ev Γ b σ x.2
  | .idx a i, σ, κ => (ev Γ a σ κ).bind fun x => (ev Γ i σ x.2).bind fun y => (opt (idxC y.2 x.1.d y.1.d)).bind fun d => .ok (.fz d, y.2)
  | .slc a lo hi, σ, κ => (ev Γ a σ κ).bind fun x => (ev Γ lo σ x.2).bind fun l => (opt (boundD l.1)).bind fun lo' => (ev Γ hi σ l.2).bind fun h =>
      (opt (boundD h.1)).bind fun hi' => (opt (slcD lo' hi' x.1.d)).bind fun o => .ok (o, h.2)
  | .rev a, σ, κ => (ev Γ a σ κ).bind fun x => (opt (revD x.1.d)).bind fun o => .ok (o, x.2)
  | .fld a m, σ, κ => (ev Γ a σ κ).bind fun x => match x.1.d with
      | .ins c fs => (opt ((m.lookup c).bind fun j => fs[j]?)).bind fun d => .ok (.fz d, x.2)
      | _ => .bad
  | .exf f, _, κ => (opt Γ.hx[f]?).bind fun d => .ok (.fz d, κ)
  | .isi a tys _, σ, κ => (ev Γ a σ κ).bind fun x => if hasTy x.1.d then .ok (.fz (.bl (tys.any (isTy x.1.d))), x.2) else .bad
  | .call f es, σ, κ => (evs Γ es σ κ).bind fun r => (Γ.calls f r.1 r.2).bind fun x => .ok (.fz x.1, x.2)
  | .blt1 b a, σ, κ => (ev Γ a σ κ).bind fun x => (opt (blt1D b x.1)).bind fun o => .ok (o, x.2)
  | .blt2 b a a', σ, κ => (ev Γ a σ κ).bind fun x => (ev Γ a' σ x.2).bind fun y => (opt (blt2D b x.1.d y.1.d)).bind fun d => .ok (.fz d, y.2)
  | .make c es, σ, κ => (evs Γ es σ κ).bind fun r => .ok (.fz (.ins c r.1), r.2)
  | .eqo a b, σ, κ => (ev Γ a σ κ).bind fun x => (ev Γ b σ x.2).bind fun y => (opt x.1.frz).bind fun xd => (opt y.1.frz).bind fun yd => match xd with
      | .ins c _ => (opt (Γ.eqf c)).bind fun f => if eqoOk c yd then (noexc (Γ.calls f [xd, yd] y.2)).bind fun r => (match r.1 with
        | .bl t => .ok (.fz (.bl t), r.2)
        | _ => .bad) else .bad
      | _ => .bad
  | .cell ks es, σ, κ => (evs Γ es σ κ).bind fun r => if decide (ks.Nodup) && decide (ks.length = r.1.length) && decide (ks.length ≤ 15) then .ok (.fz (.obj r.2.length), r.2 ++ [(ks.zip r.1).foldl (fun acc kv => putP acc kv.1 kv.2) []]) else .bad
  | .lrng it, σ, κ => (evIt Γ it σ κ).bind fun r => if r.1.1.length ≤ sizeLine then .ok (.ol none r.1.1, r.2) else .bad
  | .comp own tg it ifs elt, σ, κ => (evIt Γ it σ κ).bind fun r =>
      (noexc (compLoop (fun x κ => (opt (assignT tg x (wipeS σ own))).bind fun σ' => (noexc (evIf Γ ifs σ' κ)).bind fun t =>
        if t.1 then (noexc (ev Γ elt σ' t.2)).bind fun y => (opt y.1.frz).bind fun d => .ok ([d], y.2) else .ok ([], t.2)) r.1.1 r.2)).bind fun r =>
      if r.1.length < sizeLine then .ok (.ol none r.1, r.2) else .bad
  | _, _, _ => .bad
/-- a list of expressions, each given away -/
def evs (Γ : Cxt) : E → Sl → Cells → Out (List D × Cells)
  | .nil, _, κ => .ok ([], κ)
  | .cons e es, σ, κ => (ev Γ e σ κ).bind fun x => (opt x.1.frz).bind fun d => (evs Γ es σ x.2).bind fun r => if r.1.length < sizeLine then .ok (d :: r.1, r.2) else .bad
  | _, _, _ => .bad
/-- a comprehension's tests -/
def evIf (Γ : Cxt) : E → Sl → Cells → Out (Bool × Cells)
  | .nil, _, κ => .ok (true, κ)
  | .cons e .nil, σ, κ => (ev Γ e σ κ).bind fun x => (opt (truD x.1.d)).bind fun b => .ok (b, x.2)
  | _, _, _ => .bad
/-- what is walked; what is borrowed for it -/
def evIt (Γ : Cxt) : E → Sl → Cells → Out ((List D × List Nat) × Cells)
  | .rng1 a, σ, κ => (ev Γ a σ κ).bind fun x => match x.1.d with
      | .int j => (opt (rangeD 0 j)).bind fun xs => .ok ((xs, []), x.2)
      | _ => .bad
  | .rng2 a b, σ, κ => (ev Γ a σ κ).bind fun x => (ev Γ b σ x.2).bind fun y => match x.1.d, y.1.d with
      | .int i, .int j => (opt (rangeD i j)).bind fun xs => .ok ((xs, []), y.2)
      | _, _ => .bad
  | .zip a b, σ, κ => (ev Γ a σ κ).bind fun x => (ev Γ b σ x.2).bind fun y => (opt (seqD x.1.d)).bind fun xs => (opt (seqD y.1.d)).bind fun ys => .ok ((zipD xs ys, x.1.bor ++ y.1.bor), y.2)
  | .walk a, σ, κ => (ev Γ a σ κ).bind fun x => (opt (seqD x.1.d)).bind fun xs => .ok ((xs, x.1.bor), x.2)
  | _, _, _ => .bad
end

/-! ### statements -/
inductive Res where
  | nx (σ : Sl) (κ : Cells) | rt (d : D) (κ : Cells) | bk (σ : Sl) (κ : Cells) | ct (σ : Sl) (κ : Cells) | xc (c : Nat) (fs : List D) (σ : Sl) (κ : Cells) | bad
instance : Inhabited Res := ⟨.bad⟩
def exE {α : Type} (o : Out α) (σ : Sl) (f : α → Res) : Res := match o with
  | .ok a => f a
  | .exc c fs κ => .xc c fs σ κ
  | .bad => .bad
def exO {α : Type} (o : Option α) (f : α → Res) : Res := match o with
  | some a => f a
  | none => .bad
def forLoop (step : D → Sl → Cells → Res) : List D → Sl → Cells → Res
  | [], σ, κ => .nx σ κ
  | x :: xs, σ, κ => match step x σ κ with
    | .nx σ κ => forLoop step xs σ κ
    | .ct σ κ => forLoop step xs σ κ
    | .bk σ κ => .nx σ κ
    | r => r
def whileLoop (test : Sl → Cells → Out (Bool × Cells)) (body : Sl → Cells → Res) : Nat → Sl → Cells → Res
  | 0, _, _ => .bad
  | n + 1, σ, κ => exE (test σ κ) σ fun t => if t.1 then (match body σ t.2 with
    | .nx σ κ => whileLoop test body n σ κ
    | .ct σ κ => whileLoop test body n σ κ
    | .bk σ κ => .nx σ κ
    | r => r) else .nx σ t.2
/-- while a loop walks what slots hold, these are read alone -/
def lockAll (σ : Sl) : List Nat → Sl
  | [] => σ
  | i :: r => match σ[i]? with
    | some (some (.ol none xs)) => lockAll (σ.set i (some (.ol (some i) xs))) r
    | some (some (.od none xs)) => lockAll (σ.set i (some (.od (some i) xs))) r
    | some (some (.ot none xs)) => lockAll (σ.set i (some (.ot (some i) xs))) r
    | _ => lockAll σ r
def unlockAll (was σ : Sl) : List Nat → Sl
  | [] => σ
  | i :: r => match was[i]?, σ[i]? with
    | some (some (.ol none _)), some (some (.ol (some _) xs)) => unlockAll was (σ.set i (some (.ol none xs))) r
    | some (some (.od none _)), some (some (.od (some _) xs)) => unlockAll was (σ.set i (some (.od none xs))) r
    | some (some (.ot none _)), some (some (.ot (some _) xs)) => unlockAll was (σ.set i (some (.ot none xs))) r
    | _, _ => unlockAll was σ r
def unlockR (was : Sl) (is : List Nat) : Res → Res
  | .nx σ κ => .nx (unlockAll was σ is) κ
  | r => r
def storeO (σ : Sl) (i : Nat) (o : O) (f : Sl → Res) : Res := match o with
  | .fz d => exO (setAt σ i (some (.fz d))) f
  | .ol none xs => exO (setAt σ i (some (.ol none xs))) f
  | .od none xs => exO (setAt σ i (some (.od none xs))) f
  | .ot none xs => exO (setAt σ i (some (.ot none xs))) f
  | _ => .bad
def putO : O → D → D → Option O
  | .ol none xs, .int i, d => if decide (-(2 ^ 63) ≤ i) && decide (i < 2 ^ 63) then (ixN xs.length i).map fun j => .ol none (xs.set j d) else none
  | .od none kvs, k, d => (keyOf k).bind fun k => if kvs.length < sizeLine then some (.od none (putP kvs k d)) else none
  | _, _, _ => none
def exec (Γ : Cxt) : S → Sl → Cells → Res
  | .nil, σ, κ => .nx σ κ
  | .cons s t, σ, κ => match exec Γ s σ κ with
    | .nx σ κ => exec Γ t σ κ
    | r => r
  | .set i e, σ, κ => exE (ev Γ e σ κ) σ fun x => storeO σ i x.1 fun σ => .nx σ x.2
  | .sets tg e, σ, κ => exE (ev Γ e σ κ) σ fun x => exO x.1.frz fun d => exO (assignT tg d σ) fun σ => .nx σ x.2
  | .par is es, σ, κ => exec1 Γ is es σ κ
  | .aug i op e, σ, κ => match σ[i]? with
    | some (some (.fz (.int a))) => exE (ev Γ e σ κ) σ fun x => (match op, x.1.d with
      | .add, .int b => exO (setAt σ i (some (.fz (.int (a + b))))) fun σ => .nx σ x.2
      | .sub, .int b => exO (setAt σ i (some (.fz (.int (a - b))))) fun σ => .nx σ x.2
      | _, _ => .bad)
    | _ => .bad
  | .app i e, σ, κ => match σ[i]? with
    | some (some (.ol none xs)) => exE (ev Γ e σ κ) σ fun x => exO x.1.frz fun d => if xs.length < sizeLine then .nx (σ.set i (some (.ol none (xs ++ [d])))) x.2 else .bad
    | _ => .bad
  | .ext i e, σ, κ => exE (ev Γ e σ κ) σ fun x => match x.1.d with
    | .lst ys => (match σ[i]? with
      | some (some (.ol none xs)) => if xs.length + ys.length ≤ sizeLine then .nx (σ.set i (some (.ol none (xs ++ ys)))) x.2 else .bad
      | _ => .bad)
    | _ => .bad
  | .put i k e, σ, κ => exE (ev Γ e σ κ) σ fun x => exO x.1.frz fun d => match σ[i]? with
    | some (some o) => exE (ev Γ k σ x.2) σ fun y => (match o with
      | .fz (.obj n) => exO (keyOf y.1.d) fun kk => exO y.2[n]? fun kvs => if kvs.length < sizeLine then .nx σ (y.2.set n (putP kvs kk d)) else .bad
      | o => exO (putO o y.1.d d) fun o => .nx (σ.set i (some o)) y.2)
    | _ => .bad
  | .popTo i j e, σ, κ => match e with
    | .nil => (match σ[j]? with
      | some (some (.ol none xs)) => exO xs.getLast? fun d => exO (setAt (σ.set j (some (.ol none xs.dropLast))) i (some (.fz d))) fun σ => if i = j then .bad else .nx σ κ
      | _ => .bad)
    | e => exE (ev Γ e σ κ) σ fun x => match σ[j]?, x.1.d with
      | some (some (.ol none xs)), .int k => if decide (-(2 ^ 63) ≤ k) && decide (k < 2 ^ 63) && decide (i ≠ j) then exO (ixN xs.length k) fun p => exO xs[p]? fun d => exO (setAt (σ.set j (some (.ol none (xs.eraseIdx p)))) i (some (.fz d))) fun σ => .nx σ x.2 else .bad
      | _, _ => .bad
  | .appPop i j e, σ, κ => exE (ev Γ e σ κ) σ fun x => match σ[j]?, x.1.d, σ[i]? with
      | some (some (.ol none xs)), .int k, some (some (.ol none ys)) => if decide (-(2 ^ 63) ≤ k) && decide (k < 2 ^ 63) && decide (i ≠ j) && decide (ys.length < sizeLine) then exO (ixN xs.length k) fun p => exO xs[p]? fun d =>
          .nx ((σ.set j (some (.ol none (xs.eraseIdx p)))).set i (some (.ol none (ys ++ [d])))) x.2 else .bad
      | _, _, _ => .bad
  | .drop e, σ, κ => exE (ev Γ e σ κ) σ fun x => .nx σ x.2
  | .ret e, σ, κ => exE (ev Γ e σ κ) σ fun x => exO x.1.frz fun d => .rt d x.2
  | .retN, _, κ => .rt .non κ
  | .ite c a b, σ, κ => exE (ev Γ c σ κ) σ fun x => exO (truD x.1.d) fun t => if t then exec Γ a σ x.2 else exec Γ b σ x.2
  | .for_ tg it b, σ, κ => exE (evIt Γ it σ κ) σ fun r =>
      unlockR σ r.1.2 (forLoop (fun x σ κ => exO (assignT tg x σ) fun σ => exec Γ b σ κ) r.1.1 (lockAll σ r.1.2) r.2)
  | .whl c b, σ, κ => whileLoop (fun σ κ => (ev Γ c σ κ).bind fun x => (opt (truD x.1.d)).bind fun t => .ok (t, x.2)) (fun σ κ => exec Γ b σ κ) Γ.fuel σ κ
  | .raise c es, σ, κ => exE (evs Γ es σ κ) σ fun r => .xc c r.1 σ r.2
  | .try_ b hs, σ, κ => match exec Γ b σ κ with
    | .xc c fs σ κ => execH Γ hs c fs σ κ
    | r => r
  | .brk, σ, κ => .bk σ κ
  | .cnt, σ, κ => .ct σ κ
  | .pass, σ, κ => .nx σ κ
  | .frz i, σ, κ => match σ[i]? with
    | some (some (.fz _)) => .nx σ κ
    | some (some o) => exO o.frz fun d => .nx (σ.set i (some (.fz d))) κ
    | _ => .nx σ κ
  | _, _, _ => .bad
where
  exec1 (Γ : Cxt) (is : List Nat) (es : E) (σ : Sl) (κ : Cells) : Res := exE (evos Γ es σ κ) σ fun r => exO (assignO is r.1 σ) fun σ => .nx σ r.2
  evos (Γ : Cxt) : E → Sl → Cells → Out (List O × Cells)
  | .nil, _, κ => .ok ([], κ)
  | .cons e es, σ, κ => (ev Γ e σ κ).bind fun x => match x.1 with
      | .fz _ | .ol none _ | .od none _ | .ot none _ => (evos Γ es σ x.2).bind fun r => .ok (x.1 :: r.1, r.2)
      | _ => .bad
  | _, _, _ => .bad
  assignO (is : List Nat) (os : List O) (σ : Sl) : Option Sl := match is, os with
  | [], [] => some σ
  | i :: is, o :: os => (setAt σ i (some o)).bind (assignO is os)
  | _, _ => none
  execH (Γ : Cxt) (h : S) (c : Nat) (fs : List D) (σ : Sl) (κ : Cells) : Res := match h with
  | .han c' o b rest => if Γ.sub c c' then exO (gone o σ) fun σ => endAs o (exec { Γ with hx := fs } b σ κ) else execH Γ rest c fs σ κ
  | _ => .xc c fs σ κ
  /-- the name of the clause is no slot of ours -/
  gone (o : Option Nat) (σ : Sl) : Option Sl := match o with
  | some i => setAt σ i none
  | none => some σ
  endAs (o : Option Nat) (r : Res) : Res := match r with
  | .nx σ κ => exO (gone o σ) fun σ => .nx σ κ
  | .bk σ κ => exO (gone o σ) fun σ => .bk σ κ
  | .ct σ κ => exO (gone o σ) fun σ => .ct σ κ
  | .rt d κ => .rt d κ
  | _ => .bad
/-- a def: how many parameters, how many slots, its body -/
structure Fn where
  ps : Nat
  n : Nat
  body : S
instance : Inhabited Fn := ⟨⟨0, 0, .nil⟩⟩
structure Prog where
  fns : List Fn
  gl : List D
  sub : Nat → Nat → Bool
  eqf : Nat → Option Nat
  fuel : Nat
def startS (f : Fn) (ds : List D) : Sl := ds.map (fun d => some (.fz d)) ++ List.replicate (f.n - ds.length) none
def Res.out : Res → Out (D × Cells)
  | .nx _ κ => .ok (.non, κ)
  | .rt d κ => .ok (d, κ)
  | .xc c fs _ κ => .exc c fs κ
  | _ => .bad
def callN (P : Prog) : Nat → Nat → List D → Cells → Out (D × Cells)
  | 0, _, _, _ => .bad
  | n + 1, f, ds, κ => match P.fns[f]? with
    | none => .bad
    | some fn => if ds.length = fn.ps then (exec ⟨P.gl, [], callN P n, P.fuel, P.sub, P.eqf⟩ fn.body (startS fn ds) κ).out else .bad
end R

/-! R2: how the values of R1 lie in a heap. -/
namespace R
open PySem L2

/-- the classes: an address, the names of the fields -/
structure Tb where
  K : PySem.W.Frag
  ins : Nat → Option (Addr × List Str)
  exc : Nat → Option (Addr × List Str)
/-- what nobody changes any more; where the cells stand -/
structure Wd where
  F : Hp
  θ : List Addr

mutual
inductive RV (T : Tb) (w : Wd) : V → D → Prop
  | non : RV T w .non .non
  | bl (b : Bool) : RV T w (.bl b) (.bl b)
  | int (i : Int) : RV T w (.int i) (.int i)
  | str (x : Str) : RV T w (.str x) (.str x)
  | tup {a : Addr} {vs : List V} {ds : List D} : SqT T.K w.F a vs → RVs T w vs ds → RV T w (.ref a) (.tup ds)
  | lst {a : Addr} {vs : List V} {ds : List D} : w.F a = some (.lst vs) → RVs T w vs ds → RV T w (.ref a) (.lst ds)
  | scr {a : Addr} {vs : List V} {ds : List D} : SqL T.K w.F a vs → RVs T w vs ds → RV T w (.ref a) (.scr ds)
  | dK {a : Addr} {ks : List Key} {vs : List V} {ds : List D} : w.F a = some (.dK (ks.zip vs)) → ks.length = vs.length → RVs T w vs ds → RV T w (.ref a) (.dK (ks.zip ds))
  | dT {a : Addr} {ks : List (List Key)} {vs : List V} {ds : List D} : w.F a = some (.dT (ks.zip vs)) → ks.length = vs.length → RVs T w vs ds → RV T w (.ref a) (.dT (ks.zip ds))
  | ins {a : Addr} {c : Nat} {C dx : Addr} {nms : List Str} {vs : List V} {ds : List D} : T.ins c = some (C, nms) → w.F a = some (.ins C dx (nms.zip vs)) → nms.length = vs.length → RVs T w vs ds → RV T w (.ref a) (.ins c ds)
  | obj {a : Addr} {n : Nat} : w.θ[n]? = some a → RV T w (.ref a) (.obj n)
inductive RVs (T : Tb) (w : Wd) : List V → List D → Prop
  | nil : RVs T w [] []
  | cons {v : V} {vs : List V} {d : D} {ds : List D} : RV T w v d → RVs T w vs ds → RVs T w (v :: vs) (d :: ds)
end

/-- pairs of a dict -/
inductive PR (T : Tb) (w : Wd) {κ : Type} : List (κ × V) → List (κ × D) → Prop
  | nil : PR T w [] []
  | cons {k : κ} {v : V} {d : D} {vs : List (κ × V)} {ds : List (κ × D)} : RV T w v d → PR T w vs ds → PR T w ((k, v) :: vs) ((k, d) :: ds)
/-- what is known stays known -/
structure Le (w w' : Wd) : Prop where
  F : Same w.F w'.F
  θ : ∃ l, w'.θ = w.θ ++ l
theorem Le.rfl' (w : Wd) : Le w w := ⟨Same.refl _, [], by simp⟩
theorem Le.trans {a b c : Wd} (h : Le a b) (k : Le b c) : Le a c := by
  obtain ⟨l, e⟩ := h.θ
  obtain ⟨m, f⟩ := k.θ
  exact ⟨h.F.trans k.F, l ++ m, by rw [f, e, List.append_assoc]⟩
theorem Le.at {w w' : Wd} (h : Le w w') {n : Nat} {a : Addr} (e : w.θ[n]? = some a) : w'.θ[n]? = some a := by
  obtain ⟨l, q⟩ := h.θ
  rw [q, List.getElem?_append_left (List.getElem?_eq_some_iff.mp e).1]
  exact e
theorem sqT_mono {K : PySem.W.Frag} {F F' : Hp} {a : Addr} {vs : List V} (h : Same F F') (q : SqT K F a vs) : SqT K F' a vs := by
  rcases q with (q | ⟨o, q⟩) | q
  · exact .inl (.inl (h _ _ q))
  · exact .inl (.inr ⟨o, h _ _ q⟩)
  · exact .inr q
section
variable {T : Tb} {w w' : Wd}
mutual
theorem RV.mono (h : Le w w') : ∀ {v : V} {d : D}, RV T w v d → RV T w' v d
  | _, _, .non => .non
  | _, _, .bl b => .bl b
  | _, _, .int i => .int i
  | _, _, .str x => .str x
  | _, _, .tup q r => .tup (sqT_mono h.F q) (RVs.mono h r)
  | _, _, .lst q r => .lst (h.F _ _ q) (RVs.mono h r)
  | _, _, .scr q r => .scr (h.F.seq q) (RVs.mono h r)
  | _, _, .dK q e r => .dK (h.F _ _ q) e (RVs.mono h r)
  | _, _, .dT q e r => .dT (h.F _ _ q) e (RVs.mono h r)
  | _, _, .ins c q e r => .ins c (h.F _ _ q) e (RVs.mono h r)
  | _, _, .obj e => .obj (h.at e)
theorem RVs.mono (h : Le w w') : ∀ {vs : List V} {ds : List D}, RVs T w vs ds → RVs T w' vs ds
  | _, _, .nil => .nil
  | _, _, .cons a r => .cons (RV.mono h a) (RVs.mono h r)
end
theorem RVs.length : ∀ {vs : List V} {ds : List D}, RVs T w vs ds → vs.length = ds.length
  | _, _, .nil => rfl
  | _, _, .cons _ r => by simp [RVs.length r]
theorem RVs.get : ∀ {vs : List V} {ds : List D} {i : Nat} {d : D}, RVs T w vs ds → ds[i]? = some d → ∃ v, vs[i]? = some v ∧ RV T w v d
  | _, _, _, _, .nil, e => by (simp at e)
  | _, _, 0, _, .cons a r, e => by simp at e; subst e; exact ⟨_, rfl, a⟩
  | _, _, i + 1, d, .cons _ r, e => by
    obtain ⟨u, h1, h2⟩ := RVs.get (i := i) (d := d) r (by simpa using e)
    exact (⟨u, by simpa using h1, h2⟩)
theorem RVs.get' : ∀ {vs : List V} {ds : List D} {i : Nat} {v : V}, RVs T w vs ds → vs[i]? = some v → ∃ d, ds[i]? = some d ∧ RV T w v d
  | _, _, _, _, .nil, e => by (simp at e)
  | _, _, 0, _, .cons a r, e => by simp at e; subst e; exact ⟨_, rfl, a⟩
  | _, _, i + 1, d, .cons _ r, e => by
    obtain ⟨u, h1, h2⟩ := RVs.get' (i := i) (v := d) r (by simpa using e)
    exact (⟨u, by simpa using h1, h2⟩)
theorem RVs.append : ∀ {vs us : List V} {ds es : List D}, RVs T w vs ds → RVs T w us es → RVs T w (vs ++ us) (ds ++ es)
  | _, _, _, _, .nil, q => q
  | _, _, _, _, .cons a r, q => .cons a (r.append q)
theorem RVs.one {v : V} {d : D} (h : RV T w v d) : RVs T w [v] [d] := .cons h .nil
theorem RVs.take : ∀ {vs : List V} {ds : List D} (n : Nat), RVs T w vs ds → RVs T w (vs.take n) (ds.take n)
  | _, _, 0, _ => by simp; exact .nil
  | _, _, _ + 1, .nil => .nil
  | _, _, n + 1, .cons a r => by simp only [List.take_succ_cons]; exact .cons a (r.take n)
theorem RVs.drop : ∀ {vs : List V} {ds : List D} (n : Nat), RVs T w vs ds → RVs T w (vs.drop n) (ds.drop n)
  | _, _, 0, r => r
  | _, _, _ + 1, .nil => .nil
  | _, _, n + 1, .cons a r => by simp only [List.drop_succ_cons]; exact r.drop n
theorem RVs.reverse : ∀ {vs : List V} {ds : List D}, RVs T w vs ds → RVs T w vs.reverse ds.reverse
  | _, _, .nil => .nil
  | _, _, .cons a r => by simp only [List.reverse_cons]; exact r.reverse.append (.one a)
theorem RVs.set {v : V} {d : D} (h : RV T w v d) : ∀ {vs : List V} {ds : List D} (i : Nat), RVs T w vs ds → RVs T w (vs.set i v) (ds.set i d)
  | _, _, _, .nil => by simp; exact .nil
  | _, _, 0, .cons _ r => .cons h r
  | _, _, i + 1, .cons a r => .cons a (r.set h i)
theorem RVs.eraseIdx : ∀ {vs : List V} {ds : List D} (i : Nat), RVs T w vs ds → RVs T w (vs.eraseIdx i) (ds.eraseIdx i)
  | _, _, _, .nil => .nil
  | _, _, 0, .cons _ r => r
  | _, _, i + 1, .cons a r => .cons a (r.eraseIdx i)
theorem RVs.rep {vs : List V} {ds : List D} (r : RVs T w vs ds) : ∀ n : Nat, RVs T w (List.replicate n vs).flatten (List.replicate n ds).flatten
  | 0 => by simp; exact .nil
  | n + 1 => by simp only [List.replicate_succ, List.flatten_cons]; exact r.append (r.rep n)
theorem RVs.ints : ∀ (l : List Int), RVs T w (l.map V.int) (l.map D.int)
  | [] => .nil
  | i :: l => .cons (.int i) (RVs.ints l)
theorem RVs.mem : ∀ {vs : List V} {ds : List D} {v : V}, RVs T w vs ds → v ∈ vs → ∃ d ∈ ds, RV T w v d
  | _, _, _, .nil, h => by simp at h
  | _, _, v, .cons (d := d) a r, h => by
    rcases (List.mem_cons.mp h) with e | e
    · subst e; exact ⟨d, by simp, a⟩
    · obtain ⟨d, hd, q⟩ := r.mem e
      exact ⟨d, by simp [hd], q⟩
end

section
variable {T : Tb} {w w' : Wd} {κ : Type}
theorem PR.mono (h : Le w w') : ∀ {vs : List (κ × V)} {ds : List (κ × D)}, PR T w vs ds → PR T w' vs ds
  | _, _, .nil => .nil
  | _, _, .cons a r => .cons (a.mono h) (PR.mono h r)
theorem PR.length : ∀ {vs : List (κ × V)} {ds : List (κ × D)}, PR T w vs ds → vs.length = ds.length
  | _, _, .nil => rfl
  | _, _, .cons _ r => by simp [PR.length r]
theorem PR.zip : ∀ {ks : List κ} {vs : List V} {ds : List D}, ks.length = vs.length → RVs T w vs ds → PR T w (ks.zip vs) (ks.zip ds)
  | [], _, _, _, _ => .nil
  | _ :: _, _, _, e, .nil => by simp at e
  | k :: ks, _, _, e, .cons a r => .cons a (PR.zip (by simpa using e) r)
theorem PR.unzip : ∀ {vs : List (κ × V)} {ds : List (κ × D)}, PR T w vs ds → ∃ (ks : List κ) (us : List V) (es : List D), vs = ks.zip us ∧ ds = ks.zip es ∧ ks.length = us.length ∧ RVs T w us es
  | _, _, .nil => ⟨[], [], [], rfl, rfl, rfl, .nil⟩
  | _, _, .cons (k := k) a r => by
    obtain ⟨ks, us, es, rfl, rfl, e, q⟩ := r.unzip
    exact ⟨k :: ks, _ :: us, _ :: es, rfl, rfl, by simp [e], .cons a q⟩
theorem PR.append : ∀ {vs us : List (κ × V)} {ds es : List (κ × D)}, PR T w vs ds → PR T w us es → PR T w (vs ++ us) (ds ++ es)
  | _, _, _, _, .nil, q => q
  | _, _, _, _, .cons a r, q => .cons a (r.append q)
variable [DecidableEq κ]
theorem PR.look (k : κ) : ∀ {vs : List (κ × V)} {ds : List (κ × D)}, PR T w vs ds → (valV vs k = none ∧ lookP ds k = none) ∨ ∃ v d, valV vs k = some v ∧ lookP ds k = some d ∧ RV T w v d
  | _, _, .nil => (.inl ⟨rfl, rfl⟩)
  | _, _, .cons (k := j) (v := v) (d := d) a r => by
    unfold valV lookP
    by_cases h : j = k
    · exact .inr ⟨v, d, by simp [h], by simp [h], a⟩
    · have := r.look k
      unfold valV lookP at this
      simpa [List.find?_cons, h] using this
theorem PR.any (k : κ) : ∀ {vs : List (κ × V)} {ds : List (κ × D)}, PR T w vs ds → (vs.any fun p => decide (p.1 = k)) = ds.any fun p => decide (p.1 = k)
  | _, _, .nil => rfl
  | _, _, .cons a r => by simp only [List.any_cons, r.any k]
theorem PR.mapP {v : V} {d : D} (h : RV T w v d) (k : κ) : ∀ {vs : List (κ × V)} {ds : List (κ × D)}, PR T w vs ds → PR T w (vs.map fun p => if p.1 = k then (p.1, v) else p) (ds.map fun p => if p.1 = k then (p.1, d) else p)
  | _, _, .nil => .nil
  | _, _, .cons (k := j) a r => by
    simp only [List.map_cons]
    by_cases e : j = k
    · simp only [e, if_true]; exact .cons h (r.mapP h k)
    · simp only [e, if_false]; exact .cons a (r.mapP h k)
theorem PR.put {v : V} {d : D} (h : RV T w v d) (k : κ) {vs : List (κ × V)} {ds : List (κ × D)} (r : PR T w vs ds) : PR T w (putK vs k v) (putP ds k d) := by
  unfold putK putP
  rw [r.any k]
  split
  · exact r.mapP h k
  · exact r.append (.cons h .nil)
theorem PR.drop (k : κ) : ∀ {vs : List (κ × V)} {ds : List (κ × D)}, PR T w vs ds → PR T w (dropK vs k) (dropP ds k)
  | _, _, .nil => .nil
  | _, _, .cons (k := j) a r => by
    have q := r.drop k
    unfold dropK dropP at q ⊢
    by_cases e : j = k
    · simpa [List.filter_cons, e] using q
    · simp only [List.filter_cons, e, ne_eq, not_false_eq_true, decide_true, if_true]
      exact .cons a (by simpa using q)
end

/-! ### the state -/
/-- the world fits the heap -/
structure Wok (T : Tb) (w : Wd) (H : Hp) (κ : Cells) : Prop where
  le : Same w.F H
  nd : w.θ.Nodup
  off : ∀ a ∈ w.θ, w.F a = none
  len : w.θ.length = κ.length
  cell : ∀ (n : Nat) (a : Addr), w.θ[n]? = some a → ∃ (vs : List (Key × V)) (ds : List (Key × D)), κ[n]? = some ds ∧ H a = some (.dK vs) ∧ PR T w vs ds
/-- from one state to a later one: nothing but the cells has changed -/
structure Ext (w : Wd) (H : Hp) (w' : Wd) (H' : Hp) : Prop where
  keep : ∀ a o, H a = some o → a ∉ w.θ → H' a = some o
  dom : ∀ a, H' a = none → H a = none
  F : Same w.F w'.F
  new : ∀ a, w.F a = none → w'.F a ≠ none → H a = none
  θ : ∃ l, w'.θ = w.θ ++ l ∧ ∀ a ∈ l, H a = none
theorem Ext.le {w w' : Wd} {H H' : Hp} (e : Ext w H w' H') : Le w w' := ⟨e.F, e.θ.imp fun _ h => h.1⟩
theorem Ext.rfl' (w : Wd) (H : Hp) : Ext w H w H := ⟨fun _ _ h _ => h, fun _ h => h, Same.refl _, fun a h k => absurd h k, [], by simp, by simp⟩
theorem Ext.trans {w w1 w2 : Wd} {H H1 H2 : Hp} (a : Ext w H w1 H1) (b : Ext w1 H1 w2 H2) : Ext w H w2 H2 := by
  obtain ⟨l, e, hl⟩ := a.θ
  obtain ⟨m, f, hm⟩ := b.θ
  refine ⟨fun c o h n => ?_, fun c h => a.dom c (b.dom c h), a.F.trans b.F, fun c h k => ?_, l ++ m, by rw [f, e, List.append_assoc], fun c hc => ?_⟩
  · refine b.keep c o (a.keep c o h n) ?_
    rw [e]
    intro hm'
    rcases List.mem_append.mp hm' with q | q
    · exact n q
    · rw [hl c q] at h; cases h
  · cases q : w1.F c with
    | none => exact a.dom c (b.new c q k)
    | some o => exact a.new c h (by rw [q]; simp)
  · rcases List.mem_append.mp hc with q | q
    · exact hl c q
    · exact a.dom c (hm c q)
/-- an address that is neither known nor a cell's stays so -/
theorem Ext.offF {w w' : Wd} {H H' : Hp} (e : Ext w H w' H') {a : Addr} {o : HO} (h : H a = some o) (n : w.F a = none) : w'.F a = none := by
  cases q : w'.F a with
  | none => rfl
  | some u => rw [e.new a n (by rw [q]; simp)] at h; cases h
theorem Ext.offθ {w w' : Wd} {H H' : Hp} (e : Ext w H w' H') {a : Addr} {o : HO} (h : H a = some o) (n : a ∉ w.θ) : a ∉ w'.θ := by
  obtain ⟨l, q, hl⟩ := e.θ
  rw [q]
  intro z
  rcases List.mem_append.mp z with z | z
  · exact n z
  · rw [hl a z] at h; cases h

/-- a list, a dict of one's own at a -/
def RO (T : Tb) (w : Wd) (H : Hp) (v : V) : O → Prop
  | .fz d => RV T w v d
  | .ol _ xs => ∃ a vs, v = .ref a ∧ H a = some (.lst vs) ∧ RVs T w vs xs ∧ a ∉ w.θ ∧ w.F a = none
  | .od _ kvs => ∃ a vs, v = .ref a ∧ H a = some (.dK vs) ∧ PR T w vs kvs ∧ a ∉ w.θ ∧ w.F a = none
  | .ot _ kvs => ∃ a vs, v = .ref a ∧ H a = some (.dT vs) ∧ PR T w vs kvs ∧ a ∉ w.θ ∧ w.F a = none
def O.place : O → Bool
  | .fz _ => false
  | _ => true
def O.tag : O → Option Nat
  | .fz _ => none
  | .ol b _ => b
  | .od b _ => b
  | .ot b _ => b
theorem RO.addr {T : Tb} {w : Wd} {H : Hp} {v : V} {o : O} (h : RO T w H v o) (p : o.place = true) : ∃ a u, v = .ref a ∧ H a = some u ∧ a ∉ w.θ ∧ w.F a = none := by
  cases o with
  | fz d => cases p
  | ol b xs => obtain ⟨a, vs, e, h1, _, h2, h3⟩ := h; exact ⟨a, _, e, h1, h2, h3⟩
  | od b xs => obtain ⟨a, vs, e, h1, _, h2, h3⟩ := h; exact ⟨a, _, e, h1, h2, h3⟩
  | ot b xs => obtain ⟨a, vs, e, h1, _, h2, h3⟩ := h; exact ⟨a, _, e, h1, h2, h3⟩
/-- what stands at a place of one's own that is kept -/
theorem RO.move {T : Tb} {w w' : Wd} {H H' : Hp} {v : V} {o : O} (h : RO T w H v o) (l : Le w w') (k : ∀ a u, v = .ref a → o.place = true → H a = some u → H' a = some u ∧ a ∉ w'.θ ∧ w'.F a = none) : RO T w' H' v o := by
  cases o with
  | fz d => exact RV.mono l h
  | ol b xs =>
    obtain ⟨a, vs, e, h1, r, _, _⟩ := h
    obtain ⟨q1, q2, q3⟩ := k a _ e rfl h1
    exact ⟨a, vs, e, q1, r.mono l, q2, q3⟩
  | od b xs =>
    obtain ⟨a, vs, e, h1, r, _, _⟩ := h
    obtain ⟨q1, q2, q3⟩ := k a _ e rfl h1
    exact ⟨a, vs, e, q1, r.mono l, q2, q3⟩
  | ot b xs =>
    obtain ⟨a, vs, e, h1, r, _, _⟩ := h
    obtain ⟨q1, q2, q3⟩ := k a _ e rfl h1
    exact ⟨a, vs, e, q1, r.mono l, q2, q3⟩
theorem RO.ext {T : Tb} {w w' : Wd} {H H' : Hp} {v : V} {o : O} (h : RO T w H v o) (e : Ext w H w' H') : RO T w' H' v o :=
  h.move e.le fun a u hv hp hu => by
    obtain ⟨a', u', e1, e2, n1, n2⟩ := h.addr hp
    rw [hv] at e1; cases e1
    exact ⟨e.keep a u hu n1, e.offθ hu n1, e.offF hu n2⟩
theorem RO.retag {T : Tb} {w : Wd} {H : Hp} {v : V} {o : O} (h : RO T w H v o) (i : Nat) : RO T w H v (o.read i) := by
  cases o <;> exact h

/-- the slots -/
structure RS (T : Tb) (w : Wd) (H : Hp) (σV : St) (σ : Sl) : Prop where
  len : σV.length = σ.length
  at_ : ∀ (i : Nat) (o : O), σ[i]? = some (some o) → ∃ v, σV[i]? = some (some v) ∧ RO T w H v o
  apart : ∀ (i j : Nat) (o o' : O) (v : V), i ≠ j → σ[i]? = some (some o) → σ[j]? = some (some o') → σV[i]? = some (some v) → σV[j]? = some (some v) → o.place = false ∨ o'.place = false
  tag : ∀ (i j : Nat) (o : O), σ[i]? = some (some o) → o.tag = some j → j = i
theorem RS.ext {T : Tb} {w w' : Wd} {H H' : Hp} {σV : St} {σ : Sl} (h : RS T w H σV σ) (e : Ext w H w' H') : RS T w' H' σV σ :=
  ⟨h.len, fun i o q => let ⟨v, h1, h2⟩ := h.at_ i o q; ⟨v, h1, h2.ext e⟩, h.apart, h.tag⟩
/-- places are no older than H₀ -/
def Young (H₀ : Hp) (v : V) (o : O) : Prop := o.place = true → ∀ a, v = .ref a → H₀ a = none
/-- a borrowed value stands in its slot -/
def Bor (σV : St) (v : V) (o : O) : Prop := ∀ i, o.tag = some i → σV[i]? = some (some v)
end R

/-! R3: what is wanted behind a term; steps of the world. -/
namespace R
open PySem L2

theorem peI {X : Cx} {e : Expr} {t t' : TE} (h : PE X e t) (k : ∀ σ H Q, t' σ H Q → t σ H Q) : PE X e t' := ⟨fun pins s σ H Q I q => h.run pins s σ H Q I (k _ _ _ q)⟩
theorem ptI {X : Cx} {e : Expr} {t t' : TT} (h : PT X e t) (k : ∀ σ H Q, t' σ H Q → t σ H Q) : PT X e t' := ⟨fun pins s σ H Q I q => h.run pins s σ H Q I (k _ _ _ q)⟩
theorem paI {X : Cx} {e : List Expr} {t t' : TA} (h : PA X e t) (k : ∀ σ H Q, t' σ H Q → t σ H Q) : PA X e t' := ⟨fun pos pins s σ H Q I q => h.run pos pins s σ H Q I (k _ _ _ q)⟩
theorem piI {X : Cx} {tg e : Expr} {t t' : TI} (h : PI X tg e t) (k : ∀ σ H Q, t' σ H Q → t σ H Q) : PI X tg e t' := ⟨fun pins s σ H Q I q => h.run pins s σ H Q I (k _ _ _ q)⟩
theorem psI {X : Cx} {e : Stmt} {t t' : TS} (h : PS X e t) (k : ∀ D σ H, t' D σ H → t D σ H) : PS X e t' := ⟨fun pins s σ H D I q => h.run pins s σ H D I (k _ _ _ q)⟩
theorem pssI {X : Cx} {e : List Stmt} {t t' : TS} (h : PSs X e t) (k : ∀ D σ H, t' D σ H → t D σ H) : PSs X e t' := ⟨fun pins s σ H D I q => h.run pins s σ H D I (k _ _ _ q)⟩

/-- an exception with its fields -/
def RX (T : Tb) (w : Wd) (cls : Value) (d : Option Addr) (c : Nat) (fs : List D) : Prop :=
  ∃ (C dd : Addr) (nms : List Str) (vs : List V), T.exc c = some (C, nms) ∧ cls = .ref C ∧ d = some dd ∧ w.F dd = some (.xd (nms.zip vs)) ∧ nms.length = vs.length ∧ RVs T w vs fs
abbrev XW := Value → Option Addr → Hp → Prop
/-- what is wanted of an end -/
def Post {α : Type} (T : Tb) (w : Wd) (H : Hp) (out : Out (α × Cells)) (X : XW) (G : α × Cells → Wd → Hp → Prop) : Prop := match out with
  | .ok r => ∀ w' H', Ext w H w' H' → Wok T w' H' r.2 → G r w' H'
  | .exc c fs κ => ∀ w' H' cls d, Ext w H w' H' → Wok T w' H' κ → RX T w' cls d c fs → X cls d H'
  | .bad => False
section
variable {α β : Type} {T : Tb} {w w' : Wd} {H H' : Hp} {X : XW}
theorem Post.step {out : Out (α × Cells)} {G : α × Cells → Wd → Hp → Prop} (p : Post T w H out X G) (e : Ext w H w' H') : Post T w' H' out X G := by
  cases out with
  | ok r => exact fun w2 H2 e2 k => p w2 H2 (e.trans e2) k
  | exc c fs κ => exact fun w2 H2 cls d e2 k r => p w2 H2 cls d (e.trans e2) k r
  | bad => exact p
theorem Post.bind {m : Out (α × Cells)} {f : α × Cells → Out (β × Cells)} {G : β × Cells → Wd → Hp → Prop} (p : Post T w H (m.bind f) X G) : Post T w H m X (fun r w' H' => Post T w' H' (f r) X G) := by
  cases m with
  | ok r => exact fun w2 H2 e k => Post.step (show Post T w H (f r) X G from p) e
  | exc c fs κ => exact p
  | bad => exact p
theorem Post.imp {m : Out (α × Cells)} {G G' : α × Cells → Wd → Hp → Prop} (p : Post T w H m X G) (h : ∀ r w' H', m = .ok r → Ext w H w' H' → Wok T w' H' r.2 → G r w' H' → G' r w' H') : Post T w H m X G' := by
  cases m with
  | ok r => exact fun w2 H2 e k => h r w2 H2 rfl e k (p w2 H2 e k)
  | exc c fs κ => exact p
  | bad => exact p
theorem Post.ok {r : α × Cells} {G : α × Cells → Wd → Hp → Prop} (p : Post T w H (.ok r) X G) (k : Wok T w H r.2) : G r w H := p w H (Ext.rfl' w H) k
/-- a step that may have no outcome -/
theorem Post.opt {o : Option β} {f : β → Out (α × Cells)} {G : α × Cells → Wd → Hp → Prop} (p : Post T w H ((opt o).bind f) X G) : ∃ b, o = some b ∧ Post T w H (f b) X G := by
  cases o with
  | none => exact False.elim p
  | some b => exact ⟨b, rfl, p⟩
end

/-- of an expression: the value, at its place -/
def GE (T : Tb) (H₀ : Hp) (σV : St) (Q : V → Hp → Prop) : O × Cells → Wd → Hp → Prop := fun r w H => ∀ v, RO T w H v r.1 → Bor σV v r.1 → (r.1.tag = none → Young H₀ v r.1) → Q v H
def GA (T : Tb) (Q : List V → Hp → Prop) : List D × Cells → Wd → Hp → Prop := fun r w H => ∀ vs, RVs T w vs r.1 → Q vs H
def tE (T : Tb) (Γ : Cxt) (e : E) (W : WX) : TE := fun σV H Q => ∃ w σ κ, Wok T w H κ ∧ RS T w H σV σ ∧ Post T w H (ev Γ e σ κ) (fun c d H' => W c d σV H') (GE T H σV Q)
def tA (T : Tb) (Γ : Cxt) (e : E) (W : WX) : TA := fun σV H Q => ∃ w σ κ, Wok T w H κ ∧ RS T w H σV σ ∧ Post T w H (evs Γ e σ κ) (fun c d H' => W c d σV H') (GA T Q)

/-! ### steps of the world -/
section
variable {T : Tb} {w : Wd} {H : Hp} {κ : Cells}
def Wd.put (w : Wd) (p : Addr) (o : HO) : Wd := ⟨upd w.F p o, w.θ⟩
theorem Wok.noF (k : Wok T w H κ) {p : Addr} (h : H p = none) : w.F p = none := by
  cases q : w.F p with
  | none => rfl
  | some o => rw [k.le p o q] at h; cases h
theorem same_upd {H : Hp} {p : Addr} (o : HO) (h : H p = none) : Same H (upd H p o) := fun b u e => by rw [upd_ne (ne_of_none e h)]; exact e
theorem Wok.cellAt (k : Wok T w H κ) {a : Addr} (h : a ∈ w.θ) : ∃ o, H a = some o := by
  obtain ⟨n, hn, e⟩ := List.mem_iff_getElem.mp h
  obtain ⟨vs, ds, _, q, _⟩ := k.cell n a (by rw [List.getElem?_eq_getElem hn, e])
  exact ⟨_, q⟩
theorem le_put {p : Addr} (o : HO) (h : w.F p = none) : Le w (w.put p o) := ⟨same_upd o h, [], by simp [Wd.put]⟩
/-- a new object, never changed -/
theorem Wok.laid (k : Wok T w H κ) {p : Addr} (o : HO) (h : H p = none) : Wok T (w.put p o) (upd H p o) κ ∧ Ext w H (w.put p o) (upd H p o) := by
  have hF := k.noF h
  have np : ∀ a ∈ w.θ, a ≠ p := fun a ha e => by
    obtain ⟨u, q⟩ := k.cellAt ha
    rw [e, h] at q; cases q
  refine ⟨⟨fun a u e => ?_, k.nd, fun a ha => ?_, k.len, fun n a e => ?_⟩, ⟨fun a u e _ => same_upd o h a u e, fun a e => ?_, same_upd o hF, fun a e q => ?_, [], by simp [Wd.put], by simp⟩⟩
  · have e' : upd w.F p o a = some u := e
    unfold upd at e' ⊢
    split
    · rw [if_pos (by assumption)] at e'; exact e'
    · rw [if_neg (by assumption)] at e'; exact k.le a u e'
  · show upd w.F p o a = none
    rw [upd_ne (np a ha)]
    exact k.off a ha
  · obtain ⟨vs, ds, e1, e3, r⟩ := k.cell n a e
    exact ⟨vs, ds, e1, by rw [upd_ne (np a (List.mem_of_getElem? e))]; exact e3, r.mono (le_put o hF)⟩
  · unfold upd at e
    split at e
    · cases e
    · exact e
  · have q' : upd w.F p o a ≠ none := q
    unfold upd at q'
    split at q'
    · rename_i z; rw [z]; exact h
    · exact absurd e q'
/-- a new object of one's own -/
theorem Wok.own (k : Wok T w H κ) {p : Addr} (o : HO) (h : H p = none) : Wok T w (upd H p o) κ ∧ Ext w H w (upd H p o) := by
  have np : ∀ a ∈ w.θ, a ≠ p := fun a ha e => by
    obtain ⟨u, q⟩ := k.cellAt ha
    rw [e, h] at q; cases q
  refine ⟨⟨k.le.trans (same_upd o h), k.nd, k.off, k.len, fun n a e => ?_⟩, ⟨fun a u e _ => same_upd o h a u e, fun a e => ?_, Same.refl _, fun a e q => absurd e q, [], by simp, by simp⟩⟩
  · obtain ⟨vs, ds, e1, e3, r⟩ := k.cell n a e
    exact ⟨vs, ds, e1, by rw [upd_ne (np a (List.mem_of_getElem? e))]; exact e3, r⟩
  · unfold upd at e
    split at e
    · cases e
    · exact e
theorem Wok.offθ (k : Wok T w H κ) {p : Addr} (h : H p = none) : p ∉ w.θ := fun hp => by
  obtain ⟨u, q⟩ := k.cellAt hp
  rw [h] at q; cases q
/-- one's own is given away -/
theorem Wok.give (k : Wok T w H κ) {p : Addr} {o : HO} (h : H p = some o) (n : p ∉ w.θ) (f : w.F p = none) : Wok T (w.put p o) H κ := by
  refine ⟨fun a u e => ?_, k.nd, fun a ha => ?_, k.len, fun m a e => ?_⟩
  · have e' : upd w.F p o a = some u := e
    unfold upd at e'
    split at e'
    · rename_i z; rw [z, h]; exact e'
    · exact k.le a u e'
  · show upd w.F p o a = none
    rw [upd_ne (fun z => n (by rw [← z]; exact ha))]
    exact k.off a ha
  · obtain ⟨vs, ds, e1, e3, r⟩ := k.cell m a e
    exact ⟨vs, ds, e1, e3, r.mono (le_put o f)⟩
theorem Ext.give {w₀ : Wd} {H₀ : Hp} (e : Ext w₀ H₀ w H) {p : Addr} {o : HO} (n : H₀ p = none) (f : w.F p = none) : Ext w₀ H₀ (w.put p o) H := by
  refine ⟨e.keep, e.dom, e.F.trans (same_upd o f), fun a h q => ?_, e.θ⟩
  have q' : upd w.F p o a ≠ none := q
  unfold upd at q'
  split at q'
  · rename_i z; rw [z]; exact n
  · exact e.new a h q'
/-- a value that is given away -/
theorem RO.give {v : V} {o : O} {d : D} (h : RO T w H v o) (k : Wok T w H κ) (e : o.frz = some d) {w₀ : Wd} {H₀ : Hp} (x : Ext w₀ H₀ w H) (y : Young H₀ v o) : ∃ w', Wok T w' H κ ∧ Ext w₀ H₀ w' H ∧ Le w w' ∧ RV T w' v d := by
  cases o with
  | fz d' => cases e; exact ⟨w, k, x, Le.rfl' w, h⟩
  | ol b xs =>
    cases b with
    | some i => cases e
    | none =>
      cases e
      obtain ⟨a, vs, rfl, h1, r, n, f⟩ := h
      exact ⟨w.put a (.lst vs), k.give h1 n f, x.give (y rfl a rfl) f, le_put _ f, .lst (by show upd _ _ _ _ = _; exact upd_same) (r.mono (le_put _ f))⟩
  | od b xs =>
    cases b with
    | some i => cases e
    | none =>
      cases e
      obtain ⟨a, vs, rfl, h1, r, n, f⟩ := h
      obtain ⟨ks, us, es, rfl, rfl, el, r⟩ := r.unzip
      exact ⟨w.put a _, k.give h1 n f, x.give (y rfl a rfl) f, le_put _ f, .dK (by show upd _ _ _ _ = _; exact upd_same) el (r.mono (le_put _ f))⟩
  | ot b xs =>
    cases b with
    | some i => cases e
    | none =>
      cases e
      obtain ⟨a, vs, rfl, h1, r, n, f⟩ := h
      obtain ⟨ks, us, es, rfl, rfl, el, r⟩ := r.unzip
      exact ⟨w.put a _, k.give h1 n f, x.give (y rfl a rfl) f, le_put _ f, .dT (by show upd _ _ _ _ = _; exact upd_same) el (r.mono (le_put _ f))⟩
/-- what an end with a value of no place wants -/
theorem GE.fz {σV : St} {H₀ : Hp} {Q : V → Hp → Prop} {d : D} {κ : Cells} {v : V} (g : GE T H₀ σV Q (.fz d, κ) w H) (r : RV T w v d) : Q v H :=
  g v r (fun i e => by cases e) (fun _ p => by cases p)
theorem GE.own {σV : St} {H₀ : Hp} {Q : V → Hp → Prop} {xs : List D} {κ : Cells} {a : Addr} {vs : List V} (g : GE T H₀ σV Q (.ol none xs, κ) w H) (h : H a = some (.lst vs)) (r : RVs T w vs xs) (n : a ∉ w.θ) (f : w.F a = none) (y : H₀ a = none) : Q (.ref a) H :=
  g (.ref a) ⟨a, vs, rfl, h, r, n, f⟩ (fun i e => by cases e) (fun _ _ b e => by cases e; exact y)
end
/-- what is read of a value now, whoever holds it -/
theorem rd_tup {T : Tb} {w : Wd} {H : Hp} {κ : Cells} {v : V} {xs : List D} {o : O} (h : RO T w H v o) (k : Wok T w H κ) (e : o.d = .tup xs) : ∃ a vs, v = .ref a ∧ SqT T.K H a vs ∧ RVs T w vs xs := by
  cases o with
  | fz d =>
    have e' : d = .tup xs := e
    subst e'
    cases h with
    | tup q r => exact ⟨_, _, rfl, sqT_mono k.le q, r⟩
  | ol b ys => cases e
  | od b ys => cases e
  | ot b ys => cases e
theorem rd_lst {T : Tb} {w : Wd} {H : Hp} {κ : Cells} {v : V} {xs : List D} {o : O} (h : RO T w H v o) (k : Wok T w H κ) (e : o.d = .lst xs) : ∃ a vs, v = .ref a ∧ H a = some (.lst vs) ∧ RVs T w vs xs := by
  cases o with
  | fz d =>
    have e' : d = .lst xs := e
    subst e'
    cases h with
    | lst q r => exact ⟨_, _, rfl, k.le _ _ q, r⟩
  | ol b ys =>
    have e' : D.lst ys = .lst xs := e
    cases e'
    obtain ⟨a, vs, rfl, h1, r, _, _⟩ := h
    exact ⟨a, vs, rfl, h1, r⟩
  | od b ys => cases e
  | ot b ys => cases e
/-- other kinds stand in no place -/
theorem rd_fz {T : Tb} {w : Wd} {H : Hp} {v : V} {o : O} (h : RO T w H v o) {d : D} (e : o.d = d) (p : o.place = false) : RV T w v d := by
  cases o with
  | fz d' =>
    have e' : d' = d := e
    subst e'; exact h
  | _ => cases p
end R

/-! R4: operators by what they do to values. -/
namespace R
open L2 PyProof.Rows PySem.Spec PySem

section
variable {X : Cx}
theorem tuple_one (l : Addr) (items : Array Value) (n : Nat) (dd : Option Addr) (sl : Array (Option Value)) (u : Tok) :
    Meets (Builtin.«tuple.__mul__» ⟨[.ref l, .int 1 u], []⟩) (fun _ R s => s.heap.get? l = some { cls := .type "tuple", dict := dd, data := .seq items n, slots := sl } ∧ R (.ok (.ret (Value.ref l))) s) :=
  .of_wp fun pg w A R s h => by
    obtain ⟨hp, g, d, tk, os⟩ := (s)
    obtain ⟨hl, h⟩ := h
    have f1 := AutoSeq1.idx_int
    (wp_walk using wpAny_loadPart' hl)
    repeat (first
      | (refine wpAny_ite_false (by decide) ?_; wp_walk using wpAny_loadPart' hl)
      | (refine wpAny_ite_true (by simp) ?_; wp_walk using wpAny_loadPart' hl))
    exact ⟨_, rfl, h⟩
/-- t * 1 is t -/
theorem op_mulT1 : OpR X (binaryOp .Mult) (fun x y H Q => ∃ l xs, x = .ref l ∧ y = .int 1 ∧ SqT X.K H l xs ∧ Q (.ref l) H) := by
  intro pins; intro s σ H x y v u Q I rx ry h
  obtain ⟨l, xs, rfl, rfl, hT, q⟩ := h
  cases rx
  obtain ⟨t, rfl⟩ := ry
  obtain ⟨its, r, ⟨⟨cls, dd, data, sl⟩, ho, hc, n, hd⟩, hs⟩ := (I.tuple hT)
  simp only at hc hd
  subst hc hd
  exact wpAny_binaryOp_repeat_ref (T := "tuple") (U := "int") (by decide) ⟨_, ho, rfl⟩ (fun s' => typeIs_int s' 1 t) noFill_tuple_mul F.fills_int_mul F.slot_int_rmul repeat_tuple F.slot_int_index.lookup
    (call_meets F.slot_int_rmul (typeIs_int s 1 t) F.entry_int_rmul (F.args_int_rmul_2 _ _) (int_rmul_tuple 1 t l its.toArray n dd sl)
      ⟨ho, rfl, ⟨_, ho, rfl⟩, call_meets F.slot_tuple_mul ⟨_, ho, rfl⟩ F.entry_tuple_mul (F.args_tuple_mul_2 _ _) (tuple_one l its.toArray n dd sl t) ⟨ho, .ref l, H, I, rfl, q⟩⟩)
def CDv (_ j : Int) : Prop := j ≠ 0 ∧ j.natAbs.log2 < 9000
theorem op_fdv : OpR X (binaryOp .FloorDiv) (rI CDv fun i j => .int (i.fdiv j)) := opI fun _ _ _ _ _ _ _ hc q => floordiv_int hc.1 q (.inl (PyProof.noPylong_of_log2 hc.2))
end
def Bop.op : Bop → Operator
  | .add => .Add | .sub => .Sub | .mul => .Mult | .fdiv => .FloorDiv | .mod => .Mod | .pow => .Pow
/-- what goes on behind a new value -/
def Go (T : Tb) (w : Wd) (H : Hp) (κ : Cells) (o : O) (Q : VK) : Prop := ∀ w' H', Ext w H w' H' → Wok T w' H' κ → ∀ v, RO T w' H' v o → Young H v o → Q v H'
theorem Go.fz {T : Tb} {w : Wd} {H : Hp} {κ : Cells} {d : D} {Q : VK} {v : V} (g : Go T w H κ (.fz d) Q) (k : Wok T w H κ) (r : RV T w v d) : Q v H :=
  g w H (Ext.rfl' w H) k v r (fun p => by cases p)
theorem Go.lst {T : Tb} {w : Wd} {H : Hp} {κ : Cells} {xs : List D} {Q : VK} {vs : List V} {p : Addr} (g : Go T w H κ (.ol none xs) Q) (k : Wok T w H κ) (r : RVs T w vs xs) (hp : H p = none) : Q (.ref p) (upd H p (.lst vs)) :=
  let z := k.own (.lst vs) hp
  g w _ z.2 z.1 (.ref p) ⟨p, vs, rfl, upd_same, r, k.offθ hp, k.noF hp⟩ (fun _ b e => by cases e; exact hp)
theorem Go.tup {T : Tb} {w : Wd} {H : Hp} {κ : Cells} {xs : List D} {Q : VK} {vs : List V} {p : Addr} (g : Go T w H κ (.fz (.tup xs)) Q) (k : Wok T w H κ) (r : RVs T w vs xs) (hp : H p = none) : Q (.ref p) (upd H p (.tup vs)) :=
  let z := k.laid (.tup vs) hp
  g _ _ z.2 z.1 (.ref p) (.tup (.inl (.inl (by show upd _ _ _ _ = _; exact upd_same))) (r.mono (le_put _ (k.noF hp)))) (fun p => by cases p)
def rBin (T : Tb) (op : Bop) : R2 := fun x y H Q => ∃ w κ ox oy o, Wok T w H κ ∧ RO T w H x ox ∧ RO T w H y oy ∧ binD op ox.d oy.d = some o ∧ Go T w H κ o Q
section
variable {T : Tb} {w : Wd} {H : Hp} {κ : Cells}
theorem rd_int {v : V} {o : O} {i : Int} (h : RO T w H v o) (e : o.d = .int i) : v = .int i := by
  cases o with
  | fz d =>
    have e' : d = .int i := e
    subst e'; cases h; rfl
  | _ => cases e
theorem rd_bl {v : V} {o : O} {i : Bool} (h : RO T w H v o) (e : o.d = .bl i) : v = .bl i := by
  cases o with
  | fz d =>
    have e' : d = .bl i := e
    subst e'; cases h; rfl
  | _ => cases e
theorem rd_str {v : V} {o : O} {i : Str} (h : RO T w H v o) (e : o.d = .str i) : v = .str i := by
  cases o with
  | fz d =>
    have e' : d = .str i := e
    subst e'; cases h; rfl
  | _ => cases e
theorem rd_non {v : V} {o : O} (h : RO T w H v o) (e : o.d = .non) : v = .non := by
  cases o with
  | fz d =>
    have e' : d = .non := e
    subst e'; cases h; rfl
  | _ => cases e
end
theorem rd_tupV {T : Tb} {w : Wd} {H : Hp} {v : V} {o : O} {xs : List D} (h : RO T w H v o) (e : o.d = .tup xs) : RV T w v (.tup xs) := by
  cases o with
  | fz d =>
    have e' : d = .tup xs := e
    subst e'; exact h
  | _ => cases e
theorem rd_dK {T : Tb} {w : Wd} {H : Hp} {κ : Cells} {v : V} {o : O} {xs : List (Key × D)} (h : RO T w H v o) (k : Wok T w H κ) (e : o.d = .dK xs) : ∃ a vs, v = .ref a ∧ H a = some (.dK vs) ∧ PR T w vs xs := by
  cases o with
  | fz d =>
    have e' : d = .dK xs := e
    subst e'
    cases h with
    | dK q el r => exact ⟨_, _, rfl, k.le _ _ q, PR.zip el r⟩
  | od b ys =>
    have e' : D.dK ys = .dK xs := e
    cases e'
    obtain ⟨a, vs, rfl, h1, r, _, _⟩ := h
    exact ⟨a, vs, rfl, h1, r⟩
  | ol b ys => cases e
  | ot b ys => cases e
theorem rd_key {T : Tb} {w : Wd} {H : Hp} {v : V} {o : O} {k : Key} (h : RO T w H v o) (e : keyOf o.d = some k) : v = kV k := by
  generalize ed : o.d = d at e
  unfold keyOf at e
  split at e
  · cases e; rw [rd_int h ed]; rfl
  · cases e; rw [rd_str h ed]; rfl
  · cases e
theorem op_bin {T : Tb} {X : Cx} (hK : X.K = T.K) (op : Bop) : OpR X (binaryOp op.op) (rBin T op) := by
  intro pins; intro s σ H x y v u Q I rx ry h
  obtain ⟨w, κ, ox, oy, o, k, hx, hy, hb, g⟩ := h
  revert hb
  generalize ex : ox.d = dx
  generalize ey : oy.d = dy
  intro hb
  unfold binD at hb
  split at hb
  · cases hb; cases rd_int hx ex; cases rd_int hy ey
    exact op_add pins s σ H _ _ v u Q I rx ry ⟨_, _, rfl, rfl, g.fz k (.int _)⟩
  · split at hb
    · cases hb; cases rd_str hx ex; cases rd_str hy ey
      exact op_add_str pins s σ H _ _ v u Q I rx ry ⟨_, _, rfl, rfl, by assumption, g.fz k (.str _)⟩
    · cases hb
  · split at hb
    · cases hb
      obtain ⟨a, vs, rfl, h1, r1⟩ := rd_lst hx k ex
      obtain ⟨b, us, rfl, h2, r2⟩ := rd_lst hy k ey
      exact op_cat pins s σ H _ _ v u Q I rx ry ⟨a, b, vs, us, rfl, rfl, h1, h2, by rw [r1.length, r2.length]; assumption, fun p hp => g.lst k (r1.append r2) hp⟩
    · cases hb
  · split at hb
    · cases hb
      obtain ⟨a, vs, rfl, h1, r1⟩ := rd_tup hx k ex
      obtain ⟨b, us, rfl, h2, r2⟩ := rd_tup hy k ey
      rename_i ds es hl
      refine op_catA pins s σ H _ _ v u Q I rx ry ⟨a, b, vs, us, rfl, rfl, by rw [hK]; exact h1, by rw [hK]; exact h2, by rw [r1.length, r2.length]; exact hl, fun e => ?_, fun e e' => ?_, fun _ _ p hp => g.tup k (r1.append r2) hp⟩
      · subst e
        cases r1
        exact g.fz k (rd_tupV hy ey)
      · subst e'
        cases r2
        rw [List.append_nil] at g
        exact g.fz k (rd_tupV hx ex)
    · cases hb
  · cases hb; cases rd_int hx ex; cases rd_int hy ey
    exact op_sub pins s σ H _ _ v u Q I rx ry ⟨_, _, rfl, rfl, g.fz k (.int _)⟩
  · split at hb
    · cases hb; cases rd_int hx ex; cases rd_int hy ey
      rename_i hm
      exact op_mulW pins s σ H _ _ v u Q I rx ry ⟨_, _, rfl, rfl, by unfold mulOk at hm; have z := of_decide_eq_true hm; exact z, g.fz k (.int _)⟩
    · cases hb
  · split at hb
    · cases hb
      rename_i hm
      simp only [Bool.and_eq_true, decide_eq_true_eq] at hm
      obtain ⟨a, vs, rfl, h1, r1⟩ := rd_lst hx k ex
      cases rd_int hy ey
      exact op_rep pins s σ H _ _ v u Q I rx ry ⟨a, _, vs, rfl, rfl, h1, hm.1.1, hm.1.2, by rw [r1.length]; exact hm.2, fun p hp => g.lst k (r1.rep _) hp⟩
    · cases hb
  · split at hb
    · cases hb
      rename_i ds j hm
      simp only [Bool.and_eq_true, decide_eq_true_eq, Bool.not_eq_true', List.isEmpty_eq_false_iff] at hm
      obtain ⟨a, vs, rfl, h1, r1⟩ := rd_tup hx k ex
      cases rd_int hy ey
      by_cases h2 : j = 1
      · subst h2
        refine op_mulT1 pins s σ H _ _ v u Q I rx ry ⟨a, vs, rfl, rfl, by rw [hK]; exact h1, ?_⟩
        have e : (List.replicate (1 : Int).toNat ds).flatten = ds := by simp
        rw [e] at g
        exact g.fz k (rd_tupV hx ex)
      · exact op_repT pins s σ H _ _ v u Q I rx ry ⟨a, _, vs, rfl, rfl, by rw [hK]; exact h1, fun e => by subst e; cases r1; exact hm.1.1.1 rfl, by omega, hm.1.2, by rw [r1.length]; exact hm.2, fun p hp => g.tup k (r1.rep _) hp⟩
    · cases hb
  · split at hb
    · cases hb; cases rd_int hx ex; cases rd_int hy ey
      rename_i hm
      unfold divOk at hm
      simp only [Bool.and_eq_true, decide_eq_true_eq] at hm
      exact op_fdv pins s σ H _ _ v u Q I rx ry ⟨_, _, rfl, rfl, hm, g.fz k (.int _)⟩
    · cases hb
  · split at hb
    · cases hb
    · cases hb; cases rd_int hx ex; cases rd_int hy ey
      exact op_modN pins s σ H _ _ v u Q I rx ry ⟨_, _, rfl, rfl, by assumption, g.fz k (.int _)⟩
  · split at hb
    · cases hb; cases rd_int hx ex; cases rd_int hy ey
      rename_i hm
      simp only [Bool.and_eq_true, decide_eq_true_eq] at hm
      exact op_pow pins s σ H _ _ v u Q I rx ry ⟨_, _, rfl, rfl, ⟨hm.1.1, hm.1.2, hm.2⟩, g.fz k (.int _)⟩
    · cases hb
  · cases hb
/-! ### comparisons -/
def Cop.op : Cop → CmpOp
  | .eq => .Eq | .ne => .NotEq | .lt => .Lt | .le => .LtE | .gt => .Gt | .ge => .GtE | .is => .Is | .isnt => .IsNot | .in_ => .In | .notin => .NotIn
mutual
theorem RV.dp {T : Tb} {w : Wd} {H : Hp} (le : Same w.F H) : ∀ {v : V} {d : D} {p : PyData}, RV T w v d → d.py = some p → Dp T.K H v p
  | _, _, _, .non, e => by simp [D.py] at e; subst e; exact .non
  | _, _, _, .bl b, e => by simp [D.py] at e; subst e; exact .bl b
  | _, _, _, .int i, e => by simp [D.py] at e; subst e; exact .int i
  | _, _, _, .str x, e => by simp [D.py] at e; subst e; exact .str x
  | _, _, _, .tup q r, e => by
    simp only [D.py, Option.map_eq_some_iff] at e
    obtain ⟨ps, e1, rfl⟩ := e
    exact .tup (sqT_mono le q) (RVs.dp le r e1)
  | _, _, _, .lst q r, e => by
    simp only [D.py, Option.map_eq_some_iff] at e
    obtain ⟨ps, e1, rfl⟩ := e
    exact .lst (SqL.of (le _ _ q)) (RVs.dp le r e1)
  | _, _, _, .scr q r, e => by simp [D.py] at e
  | _, _, _, .dK q _ r, e => by simp [D.py] at e
  | _, _, _, .dT q _ r, e => by simp [D.py] at e
  | _, _, _, .ins _ q _ r, e => by simp [D.py] at e
  | _, _, _, .obj _, e => by simp [D.py] at e
theorem RVs.dp {T : Tb} {w : Wd} {H : Hp} (le : Same w.F H) : ∀ {vs : List V} {ds : List D} {ps : List PyData}, RVs T w vs ds → D.pys ds = some ps → DpAll T.K H vs ps
  | _, _, _, .nil, e => by simp [D.pys] at e; subst e; exact .nil
  | _, _, _, .cons (d := d) (ds := ds) a r, e => by
    unfold D.pys at e
    cases e1 : d.py with
    | none => rw [e1] at e; simp at e
    | some p =>
      cases e2 : D.pys ds with
      | none => rw [e1, e2] at e; simp at e
      | some ps =>
        rw [e1, e2] at e
        simp only [Option.some.injEq] at e
        subst e
        exact .cons (RV.dp le a e1) (RVs.dp le r e2)
end
theorem RO.dp {T : Tb} {w : Wd} {H : Hp} {κ : Cells} {v : V} {o : O} {p : PyData} (h : RO T w H v o) (k : Wok T w H κ) (e : o.d.py = some p) : Dp T.K H v p := by
  cases o with
  | fz d => exact RV.dp k.le h e
  | ol b xs =>
    obtain ⟨a, vs, rfl, h1, r, _⟩ := h
    have e' : (D.lst xs).py = some p := e
    simp only [D.py, Option.map_eq_some_iff] at e'
    obtain ⟨ps, e1, rfl⟩ := e'
    exact .lst (SqL.of h1) (RVs.dp k.le r e1)
  | od b xs => simp [O.d, D.py] at e
  | ot b xs => simp [O.d, D.py] at e
/-- flat values -/
theorem RV.flat {T : Tb} {w : Wd} {v : V} {d : D} (h : RV T w v d) (f : d.flat = true) : flatV v = true := by
  cases h <;> first | rfl | (simp [D.flat] at f)
theorem RV.eqF {T : Tb} {w : Wd} {v u : V} {d e : D} (h : RV T w v d) (k : RV T w u e) (f : d.flat = true) (g : e.flat = true) : eqV v u = flatEq d e := by
  cases h <;> simp [D.flat] at f <;> cases k <;> simp [D.flat] at g <;> rfl
theorem RVs.flat {T : Tb} {w : Wd} : ∀ {vs : List V} {ds : List D}, RVs T w vs ds → ds.all D.flat = true → vs.all flatV = true
  | _, _, .nil, _ => rfl
  | _, _, .cons a r, f => by
    simp only [List.all_cons, Bool.and_eq_true] at f ⊢
    exact ⟨a.flat f.1, r.flat f.2⟩
theorem RVs.anyF {T : Tb} {w : Wd} {u : V} {e : D} (k : RV T w u e) (g : e.flat = true) : ∀ {vs : List V} {ds : List D}, RVs T w vs ds → ds.all D.flat = true → (vs.any fun y => eqV y u) = ds.any fun y => flatEq y e
  | _, _, .nil, _ => rfl
  | _, _, .cons a r, f => by
    simp only [List.all_cons, Bool.and_eq_true] at f
    simp only [List.any_cons, a.eqF k f.1 g, RVs.anyF k g r f.2]
theorem RO.fzV {T : Tb} {w : Wd} {H : Hp} {v : V} {o : O} (h : RO T w H v o) (f : o.d.flat = true) : RV T w v o.d := by
  cases o with
  | fz d => exact h
  | _ => simp [O.d, D.flat] at f
def rCmp (T : Tb) (op : Cop) : R2 := fun x y H Q => ∃ w κ ox oy c, Wok T w H κ ∧ RO T w H x ox ∧ RO T w H y oy ∧ cmpD op ox.d oy.d = some c ∧ Q (.bl c) H
theorem eqD_some {x y : D} {c : Bool} (h : eqD x y = some c) : ∃ a b, x.py = some a ∧ y.py = some b ∧ SeqAt.shaped a = true ∧ SeqAt.shaped b = true ∧ PyData.eqv a b = c := by
  unfold eqD at h
  split at h
  · rename_i a b e1 e2
    split at h
    · rename_i hs
      simp only [Bool.and_eq_true] at hs
      exact ⟨a, b, e1, e2, hs.1, hs.2, Option.some.inj h⟩
    · cases h
  · cases h
section
variable {T : Tb} {X : Cx} {pins : List (Addr × Obj)} {s : Shared} {σ : L2.St} {H : Hp} {x y : V} {v u : Value} {Q : VK} {w : Wd} {κ : Cells} {ox oy : O}
theorem in_ok (hK : X.K = T.K) (hu : X.A.units + 65 < cLine) (neg : Bool) (I : Inv X pins σ H s) (rx : RelV x v) (ry : RelV y u) (k : Wok T w H κ) (hx : RO T w H x ox) (hy : RO T w H y oy) {c : Bool} (hc : inD ox.d oy.d = some c) (q : Q (.bl (if neg then !c else c)) H) :
    wpAny (model X.prog X.w) X.A (compareOp (if neg then .NotIn else .In) v u) (EP X pins σ Q) X.xe s := by
  have flat : ∀ {ds : List D} {p : Addr} {vs : List V}, (SqL X.K H p vs ∨ SqT X.K H p vs) → y = .ref p → RVs T w vs ds → (ox.d.flat && ds.all D.flat) = true → (ds.any fun z => flatEq z ox.d) = c →
      wpAny (model X.prog X.w) X.A (compareOp (if neg then .NotIn else .In) v u) (EP X pins σ Q) X.xe s := fun {ds p vs} hs hy' r hf hv => by
    simp only [Bool.and_eq_true] at hf
    have hxv := hx.fzV hf.1
    have e : inV x vs = c := by rw [← hv]; exact RVs.anyF hxv hf.1 r hf.2
    cases neg with
    | false => exact op_in_seq pins s σ H x y v u Q I rx ry ⟨p, vs, hy', hs, hxv.flat hf.1, r.flat hf.2, by rw [e]; exact q⟩
    | true => exact op_notIn_seq pins s σ H x y v u Q I rx ry ⟨p, vs, hy', hs, hxv.flat hf.1, r.flat hf.2, by rw [e]; exact q⟩
  generalize ey : oy.d = dy at hc
  unfold inD at hc
  split at hc
  · rename_i ds
    obtain ⟨a, vs, rfl, h1, r⟩ := rd_lst hy k ey
    split at hc
    · rename_i hf
      exact flat (.inl (SqL.of h1)) rfl r hf (Option.some.inj hc)
    · split at hc
      · rename_i p bs e1 e2
        split at hc
        · rename_i hs
          simp only [Bool.and_eq_true] at hs
          have d1 := hx.dp k e1
          have d2 : Dp T.K H (.ref a) (.list bs) := .lst (SqL.of h1) (RVs.dp k.le r e2)
          cases neg with
          | false => exact op_inD hu pins s σ H x _ v u Q I rx ry ⟨p, bs, by rw [hK]; exact d1, by rw [hK]; exact d2, hs.1, hs.2, by rw [Option.some.inj hc]; exact q⟩
          | true => exact op_notInD hu pins s σ H x _ v u Q I rx ry ⟨p, bs, by rw [hK]; exact d1, by rw [hK]; exact d2, hs.1, hs.2, by rw [Option.some.inj hc]; exact q⟩
        · cases hc
      · cases hc
  · split at hc
    · rename_i hf
      obtain ⟨a, vs, rfl, h1, r⟩ := rd_tup hy k ey
      exact flat (.inr (by rw [hK]; exact h1)) rfl r hf (Option.some.inj hc)
    · cases hc
  · split at hc
    · rename_i z ex
      have e1 := rd_str hx ‹_›
      have e2 := rd_str hy ey
      subst e1 e2
      cases neg with
      | false => exact op_in_str pins s σ H _ _ v u Q I rx ry ⟨_, _, rfl, rfl, by rw [Option.some.inj hc]; exact q⟩
      | true => exact op_notin_str pins s σ H _ _ v u Q I rx ry ⟨_, _, rfl, rfl, by rw [Option.some.inj hc]; exact q⟩
    · cases hc
  · rename_i kvs
    obtain ⟨a, vs, rfl, h1, r⟩ := rd_dK hy k ey
    rw [Option.map_eq_some_iff] at hc
    obtain ⟨kk, e1, e2⟩ := hc
    have ex : x = kV kk := rd_key hx e1
    subst ex
    obtain rfl : u = Value.ref a := (ry)
    have e3 : (valV vs kk).isSome = c := by
      rcases r.look kk with ⟨q1, q2⟩ | ⟨v', d', q1, q2, _⟩
      · rw [q1, ← e2, q2] <;> rfl
      · rw [q1, ← e2, q2] <;> rfl
    cases neg with
    | false => exact d_in (by omega) I (DGet.k h1) rx fun s' I' => ⟨.bl c, H, I', by rw [e3]; rfl, q⟩
    | true => exact d_notIn (by omega) I (DGet.k h1) rx fun s' I' => ⟨.bl (!c), H, I', by rw [e3]; rfl, q⟩
  · cases hc
end
theorem isNon {T : Tb} {w : Wd} {H : Hp} {v : V} {o : O} {d : D} (h : RO T w H v o) (e : o.d = d) : decide (v = .non) = isN d := by
  cases o with
  | fz d' =>
    have e' : d' = d := e
    subst e'
    cases h <;> first | rfl | exact decide_eq_false (fun z => by cases z)
  | ol b ys =>
    obtain ⟨a, vs, rfl, _⟩ := h
    subst e
    exact decide_eq_false (fun z => by cases z)
  | od b ys =>
    obtain ⟨a, vs, rfl, _⟩ := h
    subst e
    exact decide_eq_false (fun z => by cases z)
  | ot b ys =>
    obtain ⟨a, vs, rfl, _⟩ := h
    subst e
    exact decide_eq_false (fun z => by cases z)
theorem op_cmp {T : Tb} {X : Cx} (hK : X.K = T.K) (hu : X.A.units + 65 < cLine) (op : Cop) : OpR X (compareOp op.op) (rCmp T op) := by
  intro pins; intro s σ H x y v u Q I rx ry h
  obtain ⟨w, κ, ox, oy, c, k, hx, hy, hc, q⟩ := h
  cases op with
  | in_ => exact in_ok hK hu false I rx ry k hx hy hc q
  | notin =>
    have hc' : (inD ox.d oy.d).map (!·) = some c := hc
    rw [Option.map_eq_some_iff] at hc'
    obtain ⟨b, e, rfl⟩ := hc'
    exact in_ok hK hu true I rx ry k hx hy e q
  | eq =>
    obtain ⟨a, b, e1, e2, s1, s2, e⟩ := eqD_some (show eqD ox.d oy.d = some c from hc)
    exact op_eqD (by omega) pins s σ H x y v u Q I rx ry ⟨a, b, by rw [hK]; exact hx.dp k e1, by rw [hK]; exact hy.dp k e2, s1, s2, by rw [e]; exact q⟩
  | ne =>
    have hc' : (eqD ox.d oy.d).map (!·) = some c := hc
    rw [Option.map_eq_some_iff] at hc'
    obtain ⟨c', e', rfl⟩ := hc'
    obtain ⟨a, b, e1, e2, s1, s2, e⟩ := eqD_some e'
    exact op_neD (by omega) pins s σ H x y v u Q I rx ry ⟨a, b, by rw [hK]; exact hx.dp k e1, by rw [hK]; exact hy.dp k e2, s1, s2, by rw [e]; exact q⟩
  | lt =>
    have hc' : ltD ox.d oy.d = some c := hc
    unfold ltD at hc'
    split at hc'
    · cases hc'; cases rd_int hx ‹_›; cases rd_int hy ‹_›
      exact op_lt pins s σ H _ _ v u Q I rx ry ⟨_, _, rfl, rfl, q⟩
    · cases hc'; cases rd_str hx ‹_›; cases rd_str hy ‹_›
      exact op_lt_str pins s σ H _ _ v u Q I rx ry ⟨_, _, rfl, rfl, q⟩
    · cases hc'
  | le =>
    generalize ex : ox.d = dx at hc
    generalize ey : oy.d = dy at hc
    unfold cmpD at hc
    split at hc <;> first | contradiction | skip
    all_goals first | (cases hc; done) | skip
    all_goals
      cases hc; cases rd_int hx ‹_›; cases rd_int hy ‹_›
      exact op_le pins s σ H _ _ v u Q I rx ry ⟨_, _, rfl, rfl, q⟩
  | gt =>
    generalize ex : ox.d = dx at hc
    generalize ey : oy.d = dy at hc
    unfold cmpD at hc
    split at hc <;> first | contradiction | skip
    all_goals
      cases hc; cases rd_int hx ‹_›; cases rd_int hy ‹_›
      exact op_gt pins s σ H _ _ v u Q I rx ry ⟨_, _, rfl, rfl, q⟩
  | ge =>
    generalize ex : ox.d = dx at hc
    generalize ey : oy.d = dy at hc
    unfold cmpD at hc
    split at hc <;> first | contradiction | skip
    all_goals
      cases hc; cases rd_int hx ‹_›; cases rd_int hy ‹_›
      exact op_ge pins s σ H _ _ v u Q I rx ry ⟨_, _, rfl, rfl, q⟩
  | is =>
    generalize ex : ox.d = dx at hc
    generalize ey : oy.d = dy at hc
    unfold cmpD at hc
    split at hc <;> first | contradiction | skip
    · cases hc; cases rd_non hy ‹_›
      exact op_isN pins s σ H _ _ v u Q I rx ry ⟨rfl, by rw [isNon hx ex]; exact q⟩
    · cases hc; cases rd_bl hx ‹_›; cases rd_bl hy ‹_›
      exact op_isBl pins s σ H _ _ v u Q I rx ry ⟨_, _, rfl, rfl, q⟩
  | isnt =>
    generalize ex : ox.d = dx at hc
    generalize ey : oy.d = dy at hc
    unfold cmpD at hc
    split at hc <;> first | contradiction | skip
    · cases hc; cases rd_non hy ‹_›
      exact op_notN pins s σ H _ _ v u Q I rx ry ⟨rfl, by rw [isNon hx ex]; exact q⟩
    · cases hc; cases rd_bl hx ‹_›; cases rd_bl hy ‹_›
      exact op_notBl pins s σ H _ _ v u Q I rx ry ⟨_, _, rfl, rfl, q⟩
end R

/-! R5: truth, places, slices, built-ins by what they do to values. -/
namespace R
open L2 PyProof.Rows PySem.Spec PySem

section
variable {T : Tb} {X : Cx} {w : Wd} {H : Hp} {κ : Cells} {v : V} {o : O}
theorem rd_scr {xs : List D} (h : RO T w H v o) (k : Wok T w H κ) (e : o.d = .scr xs) : ∃ a vs, v = .ref a ∧ SqL T.K H a vs ∧ RVs T w vs xs := by
  cases o with
  | fz d =>
    have e' : d = .scr xs := e
    subst e'
    cases h with
    | scr q r => exact ⟨_, _, rfl, k.le.seq q, r⟩
  | _ => cases e
theorem isEmpty_rvs {vs : List V} {ds : List D} (r : RVs T w vs ds) : vs.isEmpty = ds.isEmpty := by cases r <;> rfl
theorem isEmpty_pr {κ : Type} {vs : List (κ × V)} {ds : List (κ × D)} (r : PR T w vs ds) : vs.isEmpty = ds.isEmpty := by cases r <;> rfl
theorem tru_D (hK : X.K = T.K) (k : Wok T w H κ) (h : RO T w H v o) {b : Bool} (e : truD o.d = some b) : TruV X.K v H b := by
  generalize ed : o.d = d at e
  unfold truD at e
  split at e
  · cases e; cases rd_non h ed; rfl
  · cases e; cases rd_bl h ed; rfl
  · cases e; cases rd_int h ed; rfl
  · split at e
    · cases e; cases rd_str h ed; exact ⟨by assumption, rfl⟩
    · cases e
  · cases e
    obtain ⟨a, vs, rfl, h1, r⟩ := rd_tup h k ed
    exact .inr (.inl ⟨vs, by rw [hK]; exact h1, by rw [isEmpty_rvs r]⟩)
  · cases e
    obtain ⟨a, vs, rfl, h1, r⟩ := rd_lst h k ed
    exact .inl ⟨vs, SqL.of h1, by rw [isEmpty_rvs r]⟩
  · cases e
    obtain ⟨a, vs, rfl, h1, r⟩ := rd_scr h k ed
    exact .inl ⟨vs, by rw [hK]; exact h1, by rw [isEmpty_rvs r]⟩
  · cases e
    obtain ⟨a, vs, rfl, h1, r⟩ := rd_dK h k ed
    exact .inr (.inr ⟨vs, h1, by rw [isEmpty_pr r]⟩)
  · cases e
/-! ### places -/
theorem ix_dict (hu : X.A.units + 1 < cLine) : IxR X (fun x y H Q => ∃ a v, x = .ref a ∧ DGet H a y (some v) ∧ Q v H) := by
  intro value; intro slice pins s σ H x y v u Q I rx ry h hs
  obtain ⟨a, z, rfl, g, q⟩ := h
  obtain rfl : v = Value.ref a := (rx)
  have hT := dict_typeIs I g
  unfold subscriptTail
  refine wpAny_bind ?_
  rw [(getitemInPython_of_ne hT.not_modules)]
  refine wpAny_bind (wpAny_specialOf hT PySem.F.slot_dict_getitem.lookup ?_)
  have last : wpAny (model X.prog X.w) X.A (subscripted slice false (.ref a) u) (fun r s₃ => wpAny (model X.prog X.w) X.A (letTemporaryGo value (.ref a) r >>= fun _ => pure r) (EP X pins σ Q) X.xe s₃) X.xe s := by
    rw [hs]
    exact wpAny_operating (d_getItem hu I g ry fun w' s3 I3 rw' => wpAny_bind (wpAny_letTemporaryGo (wpAny_pure ⟨z, H, I3, rw', q⟩)))
  first
    | exact wpAny_pure (wpAny_bind last)
    | exact wpAny_bind last
    | exact wpAny_pure last
theorem ixN_lt {n : Nat} {i : Int} {j : Nat} (h : ixN n i = some j) : j < n := (ixN_seq h).2.1
theorem RVs.atI {vs : List V} {ds : List D} (r : RVs T w vs ds) {i : Int} {d : D} (h : L2.atI ds i = some d) : ∃ v, L2.atI vs i = some v ∧ RV T w v d := by
  unfold L2.atI at h ⊢
  rw [r.length]
  cases e : ixN ds.length i with
  | none => (rw [e] at h; cases h)
  | some j =>
    rw [e] at h
    exact r.get h
end
def rIdx (T : Tb) : R2 := fun x y H Q => ∃ w κ ox oy d, Wok T w H κ ∧ RO T w H x ox ∧ RO T w H y oy ∧ idxC κ ox.d oy.d = some d ∧ ∀ v, RV T w v d → Q v H
theorem idx_dict {T : Tb} {w : Wd} {H : Hp} {vs : List (Key × V)} {kvs : List (Key × D)} {a : Addr} {y : V} {oy : O} {d : D} {Q : VK} (h1 : H a = some (.dK vs)) (r : PR T w vs kvs) (hy : RO T w H y oy) (h : (keyOf oy.d).bind (lookP kvs) = some d) (q : ∀ v, RV T w v d → Q v H) :
    ∃ a' v, V.ref a = .ref a' ∧ DGet H a' y (some v) ∧ Q v H := by
  rw [Option.bind_eq_some_iff] at h
  obtain ⟨k, e1, e2⟩ := h
  have ey := rd_key hy e1
  rcases r.look k with ⟨_, e⟩ | ⟨v, d', e3, e4, rv⟩
  · rw [e2] at e; cases e
  · rw [e2] at e4; cases e4
    refine ⟨a, v, rfl, ?_, q v rv⟩
    rw [ey, ← e3]
    exact DGet.k h1
theorem ix_D {T : Tb} {X : Cx} (hK : X.K = T.K) (hu : X.A.units + 1 < cLine) : IxR X (rIdx T) := by
  have base := (ix_seq (X := X)).or (ix_dict (X := X) hu)
  intro value; intro slice pins s σ H x y v u Q I rx ry h hs
  refine base value slice pins s σ H x y v u Q I rx ry ?_ hs
  obtain ⟨w, κ, ox, oy, d, k, hx, hy, e, q⟩ := h
  generalize ex : ox.d = dx at e
  cases dx with
  | obj n =>
    simp only [idxC, Option.bind_eq_some_iff] at e
    obtain ⟨kvs, e1, e2⟩ := e
    have hv := rd_fz hx ex (by cases ox <;> first | rfl | cases ex)
    cases hv with
    | obj hn =>
      obtain ⟨vs, ds, g1, g2, g3⟩ := k.cell _ _ hn
      rw [e1] at g1; cases g1
      exact .inr (idx_dict g2 g3 hy e2 q)
  | dK kvs =>
    obtain ⟨a, vs, rfl, h1, r⟩ := rd_dK hx k ex
    exact .inr (idx_dict h1 r hy e q)
  | tup xs =>
    obtain ⟨a, vs, rfl, h1, r⟩ := rd_tup hx k ex
    generalize ey : oy.d = dy at e
    cases dy with
    | int i =>
      obtain ⟨z, e1, rv⟩ := r.atI (show atI xs i = some d from e)
      exact .inl (.inr (.inl ⟨a, vs, i, z, rfl, rd_int hy ey, by rw [hK]; exact h1, e1, q z rv⟩))
    | _ => cases e
  | lst xs =>
    obtain ⟨a, vs, rfl, h1, r⟩ := rd_lst hx k ex
    generalize ey : oy.d = dy at e
    cases dy with
    | int i =>
      obtain ⟨z, e1, rv⟩ := r.atI (show atI xs i = some d from e)
      exact .inl (.inl ⟨a, vs, i, z, rfl, rd_int hy ey, SqL.of h1, e1, q z rv⟩)
    | _ => cases e
  | scr xs =>
    obtain ⟨a, vs, rfl, h1, r⟩ := rd_scr hx k ex
    generalize ey : oy.d = dy at e
    cases dy with
    | int i =>
      obtain ⟨z, e1, rv⟩ := r.atI (show atI xs i = some d from e)
      exact .inl (.inl ⟨a, vs, i, z, rfl, rd_int hy ey, by rw [hK]; exact h1, e1, q z rv⟩)
    | _ => cases e
  | str z =>
    have := rd_str hx ex
    subst this
    generalize ey : oy.d = dy at e
    cases dy with
    | int i =>
      have e' : (if z.length ≤ sizeLine then (atI z.cps.toList i).map fun c => D.str ⟨#[c]⟩ else none) = some d := e
      split at e'
      · rw [Option.map_eq_some_iff] at e'
        obtain ⟨c, e1, rfl⟩ := e'
        exact .inl (.inr (.inr ⟨z, i, c, rfl, rd_int hy ey, by assumption, e1, q _ (.str _)⟩))
      · cases e'
    | _ => cases e
  | _ => cases e
/-! ### slices -/
section
variable {T : Tb} {X : Cx} {w : Wd} {H : Hp} {κ : Cells}
theorem RVs.cut {vs : List V} {ds : List D} (r : RVs T w vs ds) (lo hi : Option Int) : RVs T w (cutV vs lo hi) (cutD ds lo hi) := by
  unfold cutV cutD
  rw [r.length]
  exact (r.drop _).take _
theorem cutD_all {ds : List D} {lo hi : Option Int} (h : HT.sIx ds.length 0 lo = 0 ∧ HT.sIx ds.length ds.length hi = ds.length) : cutD ds lo hi = ds := by
  unfold cutD
  rw [h.1, h.2]
  simp
def rSlD (T : Tb) : V → Option Int → Option Int → Hp → VK → Prop := fun x lo hi H Q => ∃ w κ ox o, Wok T w H κ ∧ RO T w H x ox ∧ slcD lo hi ox.d = some o ∧ Go T w H κ o Q
theorem sl_D (hK : X.K = T.K) : SlR X (rSlD T) := by
  have base := (sl_list (X := X)).or ((sl_tupA (X := X)).or (sl_str (X := X)))
  intro pins; intro s σ H x v vl vu lo hi sl Q I rx hs pl pu h
  refine base pins s σ H x v vl vu lo hi sl Q I rx hs pl pu ?_
  obtain ⟨w, κ, ox, o, k, hx, e, g⟩ := h
  generalize ex : ox.d = dx at e
  unfold slcD at e
  split at e
  · cases e
    obtain ⟨a, vs, rfl, h1, r⟩ := rd_tup hx k ex
    refine .inr (.inl ⟨a, vs, rfl, by rw [hK]; exact h1, fun hw => ?_, fun _ p hp => g.tup k (r.cut lo hi) hp⟩)
    rw [r.length] at hw
    rw [cutD_all hw] at g
    exact g.fz k (rd_tupV hx ex)
  · cases e
    obtain ⟨a, vs, rfl, h1, r⟩ := rd_lst hx k ex
    exact .inl ⟨a, vs, rfl, SqL.of h1, fun p hp => g.lst k (r.cut lo hi) hp⟩
  · cases e
    obtain ⟨a, vs, rfl, h1, r⟩ := rd_scr hx k ex
    exact .inl ⟨a, vs, rfl, by rw [hK]; exact h1, fun p hp => g.lst k (r.cut lo hi) hp⟩
  · split at e
    · cases e
      cases rd_str hx ex
      exact .inr (.inr ⟨_, rfl, by assumption, g.fz k (.str _)⟩)
    · cases e
  · cases e
end
end R

/-! R6: built-ins by what they do to values. -/
namespace R
open L2 PyProof.Rows PySem.Spec PySem

section
variable {T : Tb} {w : Wd} {H : Hp} {κ : Cells}
theorem asBools_eq : ∀ {ds : List D} {bs : List Bool}, asBools ds = some bs → ds = bs.map D.bl
  | [], bs, e => by cases e; rfl
  | .bl b :: r, bs, e => by
    simp only [asBools, Option.map_eq_some_iff] at e
    obtain ⟨cs, e1, rfl⟩ := e
    rw [asBools_eq e1]; rfl
  | .non :: _, _, e => by cases e
  | .int _ :: _, _, e => by cases e
  | .str _ :: _, _, e => by cases e
  | .tup _ :: _, _, e => by cases e
  | .lst _ :: _, _, e => by cases e
  | .dK _ :: _, _, e => by cases e
  | .dT _ :: _, _, e => by cases e
  | .ins _ _ :: _, _, e => by cases e
  | .obj _ :: _, _, e => by cases e
  | .scr _ :: _, _, e => by cases e
theorem asInts_eq : ∀ {ds : List D} {bs : List Int}, asInts ds = some bs → ds = bs.map D.int
  | [], bs, e => by cases e; rfl
  | .int b :: r, bs, e => by
    simp only [asInts, Option.map_eq_some_iff] at e
    obtain ⟨cs, e1, rfl⟩ := e
    rw [asInts_eq e1]; rfl
  | .non :: _, _, e => by cases e
  | .bl _ :: _, _, e => by cases e
  | .str _ :: _, _, e => by cases e
  | .tup _ :: _, _, e => by cases e
  | .lst _ :: _, _, e => by cases e
  | .dK _ :: _, _, e => by cases e
  | .dT _ :: _, _, e => by cases e
  | .ins _ _ :: _, _, e => by cases e
  | .obj _ :: _, _, e => by cases e
  | .scr _ :: _, _, e => by cases e
theorem RVs.bools : ∀ {bs : List Bool} {vs : List V}, RVs T w vs (bs.map D.bl) → vs = bs.map V.bl
  | [], _, .nil => rfl
  | b :: bs, _, .cons a r => by cases a; rw [RVs.bools r]; rfl
theorem RVs.intsV : ∀ {bs : List Int} {vs : List V}, RVs T w vs (bs.map D.int) → vs = bs.map V.int
  | [], _, .nil => rfl
  | b :: bs, _, .cons a r => by cases a; rw [RVs.intsV r]; rfl
end
/-- a built-in by its semantic reading -/
def rB1 (T : Tb) (b : Blt) : List V → Hp → VK → Prop := fun xs H Q => ∃ x w κ ox o, xs = [x] ∧ Wok T w H κ ∧ RO T w H x ox ∧ blt1D b ox = some o ∧ Go T w H κ o Q
def rB2 (T : Tb) (b : Blt) : List V → Hp → VK → Prop := fun xs H Q => ∃ x y w κ ox oy d, xs = [x, y] ∧ Wok T w H κ ∧ RO T w H x ox ∧ RO T w H y oy ∧ blt2D b ox.d oy.d = some d ∧ ∀ v, RV T w v d → Q v H
section
variable {T : Tb} {X : Cx}
theorem cr_lenD (hK : X.K = T.K) : CallR X (.builtin "len") (rB1 T .len) := by
  intro pins; intro s σ H xs us Q I r h
  obtain ⟨x, w, κ, ox, o, rfl, k, hx, e, g⟩ := h
  have e : (match ox.d with
    | .tup xs => some (O.fz (.int xs.length))
    | .lst xs => some (.fz (.int xs.length))
    | .scr xs => some (.fz (.int xs.length))
    | .str x => if x.length ≤ sizeLine then some (.fz (.int x.length)) else none
    | .dK xs => some (.fz (.int xs.length))
    | _ => none) = some o := e
  split at e
  · cases e
    obtain ⟨a, vs, rfl, h1, rr⟩ := rd_tup hx k ‹_›
    exact call_len pins s σ H _ us Q I r ⟨_, _, rfl, .inr ⟨vs, by rw [hK]; exact h1, rr.length.symm⟩, g.fz k (.int _)⟩
  · cases e
    obtain ⟨a, vs, rfl, h1, rr⟩ := rd_lst hx k ‹_›
    exact call_len pins s σ H _ us Q I r ⟨_, _, rfl, .inl ⟨vs, SqL.of h1, rr.length.symm⟩, g.fz k (.int _)⟩
  · cases e
    obtain ⟨a, vs, rfl, h1, rr⟩ := rd_scr hx k ‹_›
    exact call_len pins s σ H _ us Q I r ⟨_, _, rfl, .inl ⟨vs, by rw [hK]; exact h1, rr.length.symm⟩, g.fz k (.int _)⟩
  · split at e
    · cases e
      cases rd_str hx ‹_›
      exact call_len pins s σ H _ us Q I r ⟨_, _, rfl, ⟨by assumption, rfl⟩, g.fz k (.int _)⟩
    · cases e
  · cases e
    obtain ⟨a, vs, rfl, h1, rr⟩ := rd_dK hx k ‹_›
    refine call_lenD pins s σ H _ us Q I r ⟨a, vs, rfl, h1, ?_⟩
    rw [rr.length]
    exact g.fz k (.int _)
  · cases e
theorem cr_allD (hc : X.calm = true) : CallR X (.builtin "all") (rB1 T .all) := by
  intro pins; intro s σ H xs us Q I r h
  obtain ⟨x, w, κ, ox, o, rfl, k, hx, e, g⟩ := h
  have e : (match ox.d with
    | .lst xs => (asBools xs).map fun bs => O.fz (.bl (bs.all id))
    | _ => none) = some o := e
  split at e
  · rw [Option.map_eq_some_iff] at e
    obtain ⟨bs, e1, rfl⟩ := e
    obtain ⟨a, vs, rfl, h1, rr⟩ := rd_lst hx k ‹_›
    rw [asBools_eq e1] at rr
    have := RVs.bools rr
    subst this
    exact cr_all hc pins s σ H _ us Q I r ⟨a, bs, rfl, SqL.of h1, g.fz k (.bl _)⟩
  · cases e
theorem cr_anyD (hc : X.calm = true) : CallR X (.builtin "any") (rB1 T .any) := by
  intro pins; intro s σ H xs us Q I r h
  obtain ⟨x, w, κ, ox, o, rfl, k, hx, e, g⟩ := h
  have e : (match ox.d with
    | .lst xs => (asBools xs).map fun bs => O.fz (.bl (bs.any id))
    | _ => none) = some o := e
  split at e
  · rw [Option.map_eq_some_iff] at e
    obtain ⟨bs, e1, rfl⟩ := e
    obtain ⟨a, vs, rfl, h1, rr⟩ := rd_lst hx k ‹_›
    rw [asBools_eq e1] at rr
    have := RVs.bools rr
    subst this
    exact cr_any hc pins s σ H _ us Q I r ⟨a, bs, rfl, SqL.of h1, g.fz k (.bl _)⟩
  · cases e
theorem cr_sumD (hc : X.calm = true) : CallR X (.builtin "sum") (rB1 T .sum) := by
  intro pins; intro s σ H xs us Q I r h
  obtain ⟨x, w, κ, ox, o, rfl, k, hx, e, g⟩ := h
  have e : (match ox.d with
    | .lst xs => (asInts xs).map fun is => O.fz (.int is.sum)
    | _ => none) = some o := e
  split at e
  · rw [Option.map_eq_some_iff] at e
    obtain ⟨bs, e1, rfl⟩ := e
    obtain ⟨a, vs, rfl, h1, rr⟩ := rd_lst hx k ‹_›
    rw [asInts_eq e1] at rr
    have := RVs.intsV rr
    subst this
    exact cr_sum hc pins s σ H _ us Q I r ⟨a, bs, rfl, SqL.of h1, g.fz k (.int _)⟩
  · cases e
theorem cr_tupleD (hK : X.K = T.K) : CallR X (.type "tuple") (rB1 T .tuple) := by
  intro pins; intro s σ H xs us Q I r h
  obtain ⟨x, w, κ, ox, o, rfl, k, hx, e, g⟩ := h
  have e : (match ox.d with
    | .tup xs => some (O.fz (.tup xs))
    | .lst xs => some (.fz (.tup xs))
    | _ => none) = some o := e
  split at e
  · cases e
    have hv := rd_tupV hx ‹_›
    obtain ⟨a, vs, rfl, h1, rr⟩ := rd_tup hx k ‹_›
    exact call_tuple_of pins s σ H _ us Q I r ⟨a, vs, rfl, .inr ⟨by rw [hK]; exact h1, g.fz k hv⟩⟩
  · cases e
    obtain ⟨a, vs, rfl, h1, rr⟩ := rd_lst hx k ‹_›
    exact call_tuple_of pins s σ H _ us Q I r ⟨a, vs, rfl, .inl ⟨SqL.of h1, fun p hp => g.tup k rr hp⟩⟩
  · cases e
theorem cr_listD (hK : X.K = T.K) : CallR X (.type "list") (rB1 T .list) := by
  intro pins; intro s σ H xs us Q I r h
  obtain ⟨x, w, κ, ox, o, rfl, k, hx, e, g⟩ := h
  have e : (match ox.d with
    | .tup xs => some (O.ol none xs)
    | .lst xs => some (.ol none xs)
    | .scr xs => some (.ol none xs)
    | _ => none) = some o := e
  split at e
  · cases e
    obtain ⟨a, vs, rfl, h1, rr⟩ := rd_tup hx k ‹_›
    exact call_list_of pins s σ H _ us Q I r ⟨a, vs, rfl, .inr (by rw [hK]; exact h1), fun p hp => g.lst k rr hp⟩
  · cases e
    obtain ⟨a, vs, rfl, h1, rr⟩ := rd_lst hx k ‹_›
    exact call_list_of pins s σ H _ us Q I r ⟨a, vs, rfl, .inl (SqL.of h1), fun p hp => g.lst k rr hp⟩
  · cases e
    obtain ⟨a, vs, rfl, h1, rr⟩ := rd_scr hx k ‹_›
    exact call_list_of pins s σ H _ us Q I r ⟨a, vs, rfl, .inl (by rw [hK]; exact h1), fun p hp => g.lst k rr hp⟩
  · cases e
theorem cr_absD : CallR X (.builtin "abs") (rB1 T .abs) := by
  intro pins; intro s σ H xs us Q I r h
  obtain ⟨x, w, κ, ox, o, rfl, k, hx, e, g⟩ := h
  have e : (match ox.d with
    | .int i => some (O.fz (.int (if i < 0 then -i else i)))
    | _ => none) = some o := e
  split at e
  · cases e; cases rd_int hx ‹_›
    exact call_abs pins s σ H _ us Q I r ⟨_, rfl, g.fz k (.int _)⟩
  · cases e
theorem cr_intD : CallR X (.type "int") (rB1 T .int) := by
  intro pins; intro s σ H xs us Q I r h
  obtain ⟨x, w, κ, ox, o, rfl, k, hx, e, g⟩ := h
  have e : (match ox.d with
    | .int i => some (O.fz (.int i))
    | .bl b => some (.fz (.int (if b then 1 else 0)))
    | _ => none) = some o := e
  split at e
  · cases e; cases rd_int hx ‹_›
    exact call_int1 pins s σ H _ us Q I r (.inl ⟨_, rfl, g.fz k (.int _)⟩)
  · cases e; cases rd_bl hx ‹_›
    exact call_int1 pins s σ H _ us Q I r (.inr ⟨_, rfl, g.fz k (.int _)⟩)
  · cases e
theorem cr_strD : CallR X (.type "str") (rB1 T .str) := by
  intro pins; intro s σ H xs us Q I r h
  obtain ⟨x, w, κ, ox, o, rfl, k, hx, e, g⟩ := h
  have e : (match ox.d with
    | .int i => if i.natAbs.log2 < 1920 then some (O.fz (.str (toString i))) else none
    | _ => none) = some o := e
  split at e
  · split at e
    · cases e; cases rd_int hx ‹_›
      exact call_str_int pins s σ H _ us Q I r ⟨_, rfl, by assumption, g.fz k (.str _)⟩
    · cases e
  · cases e
theorem cr_reprD (hK : X.K = T.K) (hg : X.A.guards = some []) (hu : X.A.units + 65 < cLine) : CallR X (.builtin "repr") (rB1 T .repr) := by
  intro pins; intro s σ H xs us Q I r h
  obtain ⟨x, w, κ, ox, o, rfl, k, hx, e, g⟩ := h
  have e : (repD ox.d).map (fun t => O.fz (.str t)) = some o := e
  rw [Option.map_eq_some_iff] at e
  obtain ⟨t, e1, rfl⟩ := e
  unfold repD at e1
  split at e1
  · rename_i p ep
    split at e1
    · rename_i hp
      cases e1
      simp only [Bool.and_eq_true, decide_eq_true_eq, Bool.not_eq_true'] at hp
      obtain ⟨⟨⟨h1, h2⟩, h3⟩, h4⟩ := hp
      have dp := hx.dp k ep
      cases r with
      | cons rx rn =>
        cases rn
        have q := g.fz k (.str p.shown)
        cases dp with
        | non => cases rx; exact PySem.P.repr_of_none ⟨.str _, H, I.tok _, ⟨_, rfl⟩, q⟩
        | bl b => cases rx; exact PySem.P.repr_of_bool ⟨.str _, H, I.tok _, ⟨_, rfl⟩, q⟩
        | int i =>
          obtain ⟨t, rfl⟩ := rx
          exact PySem.P.repr_of_int (by simpa [PyData.showable] using h1) ⟨.str _, H, I.tok _, ⟨_, rfl⟩, q⟩
        | str z =>
          obtain ⟨t, rfl⟩ := rx
          exact PySem.P.repr_of_str (hsz := h4) ⟨.str _, H, I.tok _, ⟨_, rfl⟩, q⟩
        | lst hs ha =>
          cases rx
          obtain ⟨as, rd⟩ := Dp.reads I _ (v := .ref _) (u := .ref _) (by rw [hK]; exact Dp.lst hs ha) rfl
          exact PySem.repr_of_reads' rd h1 (fun z => by rw [h2] at z; cases z) hg (by omega) (fun _ _ z => z) (fun h' u tk hk => ⟨.str _, H, I.kept hk, ⟨_, rfl⟩, q⟩) h4
        | tup hs ha =>
          cases rx
          obtain ⟨as, rd⟩ := Dp.reads I _ (v := .ref _) (u := .ref _) (by rw [hK]; exact Dp.tup hs ha) rfl
          exact PySem.repr_of_reads' rd h1 (fun z => by rw [h2] at z; cases z) hg (by omega) (fun _ _ z => z) (fun h' u tk hk => ⟨.str _, H, I.kept hk, ⟨_, rfl⟩, q⟩) h4
    · cases e1
  · cases e1
/-! two arguments -/
theorem cr_maxD (hc : X.calm = true) : CallR X (.builtin "max") (rB2 T .max) := by
  intro pins; intro s σ H xs us Q I r h
  obtain ⟨x, y, w, κ, ox, oy, d, rfl, k, hx, hy, e, g⟩ := h
  generalize ex : ox.d = dx at e
  generalize ey : oy.d = dy at e
  unfold blt2D at e
  split at e <;> first | contradiction | skip
  cases e; cases rd_int hx ‹_›; cases rd_int hy ‹_›
  exact call_max2 hc pins s σ H _ us Q I r ⟨_, _, rfl, g _ (.int _)⟩
theorem cr_minD (hc : X.calm = true) : CallR X (.builtin "min") (rB2 T .min) := by
  intro pins; intro s σ H xs us Q I r h
  obtain ⟨x, y, w, κ, ox, oy, d, rfl, k, hx, hy, e, g⟩ := h
  generalize ex : ox.d = dx at e
  generalize ey : oy.d = dy at e
  unfold blt2D at e
  split at e <;> first | contradiction | skip
  cases e; cases rd_int hx ‹_›; cases rd_int hy ‹_›
  exact call_min2 hc pins s σ H _ us Q I r ⟨_, _, rfl, g _ (.int _)⟩
theorem cr_gcdD : CallR X (.builtin "math.gcd") (rB2 T .gcd) := by
  intro pins; intro s σ H xs us Q I r h
  obtain ⟨x, y, w, κ, ox, oy, d, rfl, k, hx, hy, e, g⟩ := h
  generalize ex : ox.d = dx at e
  generalize ey : oy.d = dy at e
  unfold blt2D at e
  split at e <;> first | contradiction | skip
  cases e; cases rd_int hx ‹_›; cases rd_int hy ‹_›
  exact cr_gcd pins s σ H _ us Q I r ⟨_, _, rfl, g _ (.int _)⟩
end
end R

/-! RZ: zip of a list or tuple with a list or tuple. -/
namespace R
open L2 PyProof.Rows PySem.Spec PySem
/-- true: a list; false: a tuple -/
def SqK (k : Bool) (h : Heap) (l : Addr) (xs : Array Value) : Prop := match k with
  | true => h.IsList l xs
  | false => h.IsTuple l xs
def ItK (k : Bool) (h : Heap) (it l : Addr) (i : Nat) : Prop := match k with
  | true => h.IsListIter it l i
  | false => h.IsTupleIter it l i
section
variable {prog : Program} {w : World} {A : Around} {E : Value → Shared → Prop} {s : Shared} {k : Bool} {h h' : Heap} {it l a b : Addr} {i : Nat} {xs : Array Value}
theorem ItK.ext (x : ItK k h it l i) (hs : Heap.ExtBut b h h') (ne : it ≠ b) : ItK k h' it l i := by
  cases k
  · exact Heap.IsTupleIter.extBut x hs ne
  · exact Heap.IsListIter.extBut x hs ne
theorem ItK.at (x : ItK k h it l i) (e : ∀ o, h.get? it = some o → h'.get? it = some o) : ItK k h' it l i := by
  cases k
  · exact Heap.IsTupleIter.at x e
  · exact Heap.IsListIter.at x e
theorem ItK.obj (x : ItK k h it l i) : ∃ o, h.get? it = some o ∧ ∀ v, o.data ≠ .cell v := by
  cases k
  · obtain ⟨o, e, _, d⟩ := x; exact ⟨o, e, fun v q => by rw [d] at q; cases q⟩
  · obtain ⟨o, e, _, d⟩ := x; exact ⟨o, e, fun v q => by rw [d] at q; cases q⟩
theorem SqK.ext (x : SqK k h l xs) (hs : Heap.ExtBut b h h') (ne : l ≠ b) : SqK k h' l xs := by
  cases k
  · exact Heap.IsTuple.extBut x hs ne
  · exact Heap.IsList.extBut x hs ne
theorem next_item {x : Value} {Q : Value → Shared → Prop} (hit : ItK k s.heap it l i) (hl : SqK k s.heap l xs) (hx : xs[i]? = some x) (hQ : ∀ h', ItK k h' it l (i + 1) → Heap.SameBut it s.heap h' → Q x { s with heap := h' }) :
    (wpAny (model prog w) A (Builtin.SmallTypes.nextOf (.ref it)) Q E s) := by
  cases k
  · exact _root_.RZ.nextOf_tuple_item hit hl hx hQ
  · exact wpAny_nextOf_list_item hit hl hx hQ
theorem next_end {Q : Value → Shared → Prop} (hh : A.handled = none) (hit : ItK k s.heap it l i) (hl : SqK k s.heap l xs) (hx : xs[i]? = none)
    (hE : ∀ h' e, Heap.ExtBut it s.heap h' → (∃ oe, h'.get? e = some oe ∧ oe.cls = .type "StopIteration") → E (.ref e) { s with heap := h' }) : wpAny (model prog w) A (Builtin.SmallTypes.nextOf (.ref it)) Q E s := by
  cases k
  · exact _root_.RZ.nextOf_tuple_end hh hit hl hx hE
  · exact wpAny_nextOf_list_end hh hit hl hx hE

/-- a zip, its two places' iterators a list's or a tuple's each -/
structure ZipK (k1 k2 : Bool) (z TI TO i1 i2 l1 l2 : Addr) (n : Nat) (h : Heap) : Prop where
  z : IsZip h z TI TO .none
  ti : IsPair h TI (.ref i1) (.ref i2)
  to : ∃ x y, IsPair h TO x y
  i1 : ItK k1 h i1 l1 n
  i2 : ItK k2 h i2 l2 n
variable {k1 k2 : Bool} {z TI TO i1 i2 l1 l2 : Addr} {n : Nat} {ys : Array Value}
theorem zipK_item {x y : Value} {Q : Value → Shared → Prop} (D : ZipApart z TI TO i1 i2 l1 l2) (Z : ZipK k1 k2 z TI TO i1 i2 l1 l2 n s.heap) (hl1 : SqK k1 s.heap l1 xs) (hl2 : SqK k2 s.heap l2 ys) (hx : xs[n]? = some x) (hy : ys[n]? = some y)
    (hQ : ∀ h', IsZip h' z TI TO (rawInt s.heap.objs.size) → IsPair h' TO x y → ItK k1 h' i1 l1 (n + 1) → ItK k2 h' i2 l2 (n + 1) → IsPair h' s.heap.objs.size x y → h'.objs.size = s.heap.objs.size + 1 →
      (∀ c oc, c ≠ z → c ≠ TO → c ≠ i1 → c ≠ i2 → s.heap.get? c = some oc → h'.get? c = some oc) → Q (.ref s.heap.objs.size) { s with heap := h' }) :
    (wpAny (model prog w) A (Builtin.«zip.__next__» ⟨[.ref z], []⟩) (fun fin s' => ∃ v, fin = .done (.ret v) ∧ Q v s') E s) := by
  obtain ⟨hz, hTI, ⟨a, b, hTO⟩, h1, h2⟩ := Z
  refine wpAny_bind (m := field (.ref z) 2) (wpAny_field hz rfl (x := .bool false) rfl ?_)
  refine wpAny_bind (m := field (.ref z) 3) (wpAny_field hz rfl (x := .ref TI) rfl (wpAny_bind (wpAny_seqItems hTI rfl ?_)))
  refine wpAny_bind (m := Builtin.SmallTypes.ownedTupleIsFree (.ref z)) ?_
  delta Builtin.SmallTypes.ownedTupleIsFree
  refine wpAny_bind (wpAny_field hz rfl (x := .none) rfl (wpAny_pure (?_)))
  simp only [if_true]
  refine wpAny_bind (wpAny_rule (wpAny_bind (wpAny_field hz rfl (x := .ref TO) rfl (wpAny_bind (wpAny_setField_rec hz (by simp) fun ha za sa => ?_)))))
  have za : IsZip ha z TI TO .ellipsis := za
  refine wpAny_bind (?_)
  simp only [List.zipIdx_nil, List.forIn_cons, List.forIn_nil, List.zipIdx_cons]
  -- the first place
  refine wpAny_bind (wpAny_bind (wpAny_onRaise (wpAny_bind (m := Builtin.SmallTypes.nextOf (.ref i1)) (next_item (h1.ext sa.extBut D.i1z) (hl1.ext sa.extBut D.l1z) hx fun hb ib sb => wpAny_pure ?_))))
  have tb : IsPair hb TO a b := sb.extBut _ _ D.TOi1 (sa.extBut _ _ D.TOz hTO)
  refine wpAny_bind (wpAny_seqItems tb rfl (wpAny_bind (wpAny_updateSeq_pair tb fun hc tc sc => wpAny_bind (wpAny_letGo (wpAny_pure ?_)))))
  have tc : IsPair hc TO x b := tc
  -- the second place
  refine wpAny_bind (wpAny_bind (wpAny_onRaise (wpAny_bind (m := Builtin.SmallTypes.nextOf (.ref i2)) (next_item (((h2.ext sa.extBut D.i2z).ext sb.extBut D.i12.symm).ext sc.extBut D.TOi2.symm)
    (((hl2.ext sa.extBut D.l2z).ext sb.extBut D.l2i1).ext sc.extBut D.l2TO) hy fun hd jd sd => wpAny_pure ?_))))
  have td : IsPair hd TO x b := sd.extBut _ _ D.TOi2 tc
  refine wpAny_bind (wpAny_seqItems td rfl (wpAny_bind (wpAny_updateSeq_pair td fun he te se => wpAny_bind (wpAny_letGo (wpAny_pure (wpAny_pure ?_))))))
  have te : IsPair he TO x y := te
  refine wpAny_bind (wpAny_seqItems te rfl (wpAny_bind (wpAny_newTuple ?_)))
  have sz : he.objs.size = s.heap.objs.size := by rw [se.1, sd.1, sc.1, sb.1, sa.1]
  have ze : IsZip he z TI TO .ellipsis := se.extBut _ _ D.TOz.symm (sd.extBut _ _ D.i2z.symm (sc.extBut _ _ D.TOz.symm (sb.extBut _ _ D.i1z.symm za)))
  have ke : ∀ c o, c ≠ z → c ≠ TO → c ≠ i1 → c ≠ i2 → s.heap.get? c = some o → he.get? c = some o := fun c o c1 c2 c3 c4 q =>
    se.extBut _ _ c2 (sd.extBut _ _ c4 (sc.extBut _ _ c2 (sb.extBut _ _ c3 (sa.extBut _ _ c1 q))))
  have ie : ItK k1 he i1 l1 (n + 1) := ((ib.ext sc.extBut D.TOi1.symm).ext sd.extBut D.i12).ext se.extBut D.TOi1.symm
  have je : ItK k2 he i2 l2 (n + 1) := jd.ext se.extBut D.TOi2.symm
  have zlt : z < he.objs.size := Heap.lt_size ze
  refine wpAny_bind (m := Builtin.SmallTypes.ownedTupleHandOut (.ref z) (.ref he.objs.size)) ?_
  delta Builtin.SmallTypes.ownedTupleHandOut
  have zf : IsZip (he.push { cls := .type "tuple", data := .seq #[x, y] }) z TI TO .ellipsis := Heap.get?_push_of_some _ ze
  refine wpAny_bind (wpAny_setField_rec zf (by simp) fun hg zg sg => wpAny_setField_rec (show IsZip hg z TI TO (rawInt he.objs.size) from zg) (by simp) fun hh zh sh => ?_)
  have zh : IsZip hh z TI TO (rawInt he.objs.size) := zh
  have up : ∀ c o, c ≠ z → he.get? c = some o → hh.get? c = some o := fun c o c1 q => sh.extBut _ _ c1 (sg.extBut _ _ c1 (Heap.get?_push_of_some _ q))
  have th : IsPair hh he.objs.size x y := sh.extBut _ _ (Nat.ne_of_gt zlt) (sg.extBut _ _ (Nat.ne_of_gt zlt) (Heap.get?_push_size _ rfl))
  have zn : hh.objs.size = he.objs.size + 1 := by rw [sh.1, sg.1, Heap.size_push]
  rw [sz] at zh th zn
  refine (wpAny_pure ⟨_, rfl, ?_⟩)
  show Q (.ref he.objs.size) { s with heap := hh }
  rw [sz]
  exact hQ hh zh (up _ _ D.TOz te) (ie.at fun o q => up _ o D.i1z q) (je.at fun o q => up _ o D.i2z q) th zn fun c o c1 c2 c3 c4 q => up c o c1 (ke c o c1 c2 c3 c4 q)
theorem zipK_end {Q : Fin → Shared → Prop} (hh : A.handled = none) (D : ZipApart z TI TO i1 i2 l1 l2) (Z : ZipK k1 k2 z TI TO i1 i2 l1 l2 n s.heap) (hl1 : SqK k1 s.heap l1 xs) (hl2 : SqK k2 s.heap l2 ys) (hend : xs[n]? = none ∨ ys[n]? = none)
    (hE : ∀ h' e, (∀ c oc, c ≠ z → c ≠ TO → c ≠ i1 → c ≠ i2 → s.heap.get? c = some oc → h'.get? c = some oc) → (∃ oe, h'.get? e = some oe ∧ oe.cls = .type "StopIteration") → E (.ref e) { s with heap := h' }) :
    (wpAny (model prog w) A (Builtin.«zip.__next__» ⟨[.ref z], []⟩) Q E s) := by
  obtain ⟨hz, hTI, ⟨a, b, hTO⟩, h1, h2⟩ := Z
  refine wpAny_bind (m := field (.ref z) 2) (wpAny_field hz rfl (x := .bool false) rfl ?_)
  refine wpAny_bind (m := field (.ref z) 3) (wpAny_field hz rfl (x := .ref TI) rfl (wpAny_bind (wpAny_seqItems hTI rfl ?_)))
  refine wpAny_bind (m := Builtin.SmallTypes.ownedTupleIsFree (.ref z)) ?_
  delta Builtin.SmallTypes.ownedTupleIsFree
  refine wpAny_bind (wpAny_field hz rfl (x := .none) rfl (wpAny_pure (?_)))
  simp only [if_true]
  refine wpAny_bind (wpAny_rule (wpAny_bind (wpAny_field hz rfl (x := .ref TO) rfl (wpAny_bind (wpAny_setField_rec hz (by simp) fun ha za sa => ?_)))))
  have za : IsZip ha z TI TO .ellipsis := za
  refine wpAny_bind (?_)
  simp only [List.zipIdx_nil, List.forIn_cons, List.forIn_nil, List.zipIdx_cons]
  have notz : ∀ {h : Heap} {e : Addr}, IsZip h z TI TO .ellipsis → (∃ o, h.get? e = some o ∧ o.cls = .type "StopIteration") → e ≠ z := fun hz he q => by
    obtain ⟨o, g1, g2⟩ := he
    subst q
    rw [hz] at g1
    cases g1
    simp at g2
  refine (wpAny_bind (wpAny_bind (wpAny_onRaise ?_)))
  cases hx : xs[n]? with
  | none =>
    refine wpAny_bind (m := Builtin.SmallTypes.nextOf (.ref i1)) (next_end hh (h1.ext sa.extBut D.i1z) (hl1.ext sa.extBut D.l1z) hx fun hb e sb he => ?_)
    have zb : IsZip hb z TI TO .ellipsis := sb _ _ D.i1z.symm za
    have ne := notz zb he
    obtain ⟨oe, g1, g2⟩ := he
    exact wpAny_setField_rec zb (by simp) fun hc _ sc => hE hc e (fun c o c1 _ c3 _ q => sc.extBut _ _ c1 (sb _ _ c3 (sa.extBut _ _ c1 q))) ⟨oe, sc.extBut _ _ ne g1, g2⟩
  | some x =>
    have hy : ys[n]? = none := hend.resolve_left (by rw [hx]; simp)
    refine wpAny_bind (m := Builtin.SmallTypes.nextOf (.ref i1)) (next_item (h1.ext sa.extBut D.i1z) (hl1.ext sa.extBut D.l1z) hx fun hb ib sb => wpAny_pure ?_)
    have tb : IsPair hb TO a b := sb.extBut _ _ D.TOi1 (sa.extBut _ _ D.TOz hTO)
    refine wpAny_bind (wpAny_seqItems tb rfl (wpAny_bind (wpAny_updateSeq_pair tb fun hc tc sc => wpAny_bind (wpAny_letGo (wpAny_pure ?_)))))
    refine wpAny_bind (wpAny_bind (wpAny_onRaise (wpAny_bind (m := Builtin.SmallTypes.nextOf (.ref i2)) (next_end hh (((h2.ext sa.extBut D.i2z).ext sb.extBut D.i12.symm).ext sc.extBut D.TOi2.symm)
      (((hl2.ext sa.extBut D.l2z).ext sb.extBut D.l2i1).ext sc.extBut D.l2TO) hy fun hd e sd he => ?_))))
    have zd : IsZip hd z TI TO .ellipsis := sd _ _ D.i2z.symm (sc.extBut _ _ D.TOz.symm (sb.extBut _ _ D.i1z.symm za))
    have ne := notz zd he
    obtain ⟨oe, g1, g2⟩ := he
    exact wpAny_setField_rec zd (by simp) fun he' _ se => hE he' e (fun c o c1 c2 c3 c4 q => se.extBut _ _ c1 (sd _ _ c4 (sc.extBut _ _ c2 (sb.extBut _ _ c3 (sa.extBut _ _ c1 q))))) ⟨oe, se.extBut _ _ ne g1, g2⟩

theorem zipK_next {x y : Value} {Q : Option Value → Shared → Prop} (D : ZipApart z TI TO i1 i2 l1 l2) (Z : ZipK k1 k2 z TI TO i1 i2 l1 l2 n s.heap) (hl1 : SqK k1 s.heap l1 xs) (hl2 : SqK k2 s.heap l2 ys) (hx : xs[n]? = some x) (hy : ys[n]? = some y)
    (hQ : ∀ h', IsZip h' z TI TO (rawInt s.heap.objs.size) → IsPair h' TO x y → ItK k1 h' i1 l1 (n + 1) → ItK k2 h' i2 l2 (n + 1) → IsPair h' s.heap.objs.size x y → h'.objs.size = s.heap.objs.size + 1 →
      (∀ c oc, c ≠ z → c ≠ TO → c ≠ i1 → c ≠ i2 → s.heap.get? c = some oc → h'.get? c = some oc) → Q (some (.ref s.heap.objs.size)) { s with heap := h' }) : wpAny (model prog w) A (pyNext (.ref z)) Q E s := by
  have tz : s.TypeIs (.ref z) "zip" := ⟨_, Z.z, rfl⟩
  unfold pyNext
  exact wpAny_bind (wpAny_attempt (wpAny_callSpecial?_slot (name := Str.ofString "__next__") tz F.slot_zip_next (wpAny_call_entry F.slot_zip_next tz F.entry_zip_next
    (zipK_item D Z hl1 hl2 hx hy fun h' a1 a2 a3 a4 a5 a6 a7 => wpAny_pure (hQ h' a1 a2 a3 a4 a5 a6 a7)) (F.args_zip_next_1 _))))
theorem zipK_stop {Q : Option Value → Shared → Prop} (hh : A.handled = none) (D : ZipApart z TI TO i1 i2 l1 l2) (Z : ZipK k1 k2 z TI TO i1 i2 l1 l2 n s.heap) (hl1 : SqK k1 s.heap l1 xs) (hl2 : SqK k2 s.heap l2 ys) (hend : xs[n]? = none ∨ ys[n]? = none)
    (hQ : ∀ h', (∀ c oc, c ≠ z → c ≠ TO → c ≠ i1 → c ≠ i2 → s.heap.get? c = some oc → h'.get? c = some oc) → Q none { s with heap := h' }) : wpAny (model prog w) A (pyNext (.ref z)) Q E s := by
  have tz : s.TypeIs (.ref z) "zip" := ⟨_, Z.z, rfl⟩
  unfold pyNext
  exact wpAny_bind (wpAny_attempt (wpAny_callSpecial?_slot (name := Str.ofString "__next__") tz F.slot_zip_next (wpAny_call_entry F.slot_zip_next tz F.entry_zip_next
    (zipK_end hh D Z hl1 hl2 hend fun h' e hk ⟨o, ho, hc⟩ => wpAny_bind (wpAny_isInstance (T := "StopIteration") (b := true) ⟨o, ho, hc⟩ isSubtype_stop (wpAny_pure (hQ _ hk)))) (F.args_zip_next_1 _))))
end
/-! ### making one -/
abbrev itN (k : Bool) : String := match k with
  | true => "list_iterator"
  | false => "tuple_iterator"
abbrev zH1 (k1 : Bool) (h : Heap) (l1 : Addr) : Heap := h.push { cls := .type (itN k1), data := .fields #[.ref l1, .int 0 0] }
abbrev zH2 (k1 k2 : Bool) (h : Heap) (l1 l2 : Addr) : Heap := (zH1 k1 h l1).push { cls := .type (itN k2), data := .fields #[.ref l2, .int 0 0] }
abbrev zH3 (k1 k2 : Bool) (h : Heap) (l1 l2 : Addr) : Heap := (zH2 k1 k2 h l1 l2).push { cls := .type "tuple", data := .seq #[.ref h.objs.size, .ref (zH1 k1 h l1).objs.size] }
abbrev zH4 (k1 k2 : Bool) (h : Heap) (l1 l2 : Addr) : Heap := (zH3 k1 k2 h l1 l2).push { cls := .type "tuple", data := .seq #[.none, .none] }
abbrev zH5 (k1 k2 : Bool) (h : Heap) (l1 l2 : Addr) : Heap := (zH4 k1 k2 h l1 l2).push { cls := .type "zip", data := .fields #[.none, .bool false, .bool false, .ref (zH2 k1 k2 h l1 l2).objs.size, .ref (zH3 k1 k2 h l1 l2).objs.size] }
theorem sqK_push {k : Bool} {h : Heap} {l : Addr} {xs : Array Value} (x : SqK k h l xs) (o : Obj) : SqK k (h.push o) l xs := by
  cases k
  · exact Heap.IsTuple.push x o
  · exact Heap.IsList.push x o
theorem meets_zipLT (l1 l2 : Addr) (xs ys : Array Value) :
    Meets (Builtin.«zip.__new__» ⟨[.type "zip", .ref l1, .ref l2], []⟩) (fun _ R s => s.heap.IsList l1 xs ∧ s.heap.IsTuple l2 ys ∧ R (.ok (.ret (.ref (zH4 true false s.heap l1 l2).objs.size))) { s with heap := zH5 true false s.heap l1 l2 }) :=
  .of_wp fun pg w A R s h => by
    obtain ⟨hp, g, d, tk, os⟩ := (s)
    obtain ⟨p1, p2, h⟩ := h
    have hsub := sub_zip
    have q1 : Heap.IsList (Shared.heap ⟨hp, g, d, tk, os⟩) l1 xs := p1
    have q2 : Heap.IsTuple (Shared.heap ⟨hp.push { cls := .type "list_iterator", data := .fields #[.ref l1, .int 0 0] }, g, d, tk, os⟩) l2 ys := Heap.IsTuple.push p2 _
    wp_walk using wpAny_pyIter_list q1, wpAny_pyIter_tuple q2
    exact ⟨_, rfl, h⟩
theorem meets_zipTL (l1 l2 : Addr) (xs ys : Array Value) :
    Meets (Builtin.«zip.__new__» ⟨[.type "zip", .ref l1, .ref l2], []⟩) (fun _ R s => s.heap.IsTuple l1 xs ∧ s.heap.IsList l2 ys ∧ R (.ok (.ret (.ref (zH4 false true s.heap l1 l2).objs.size))) { s with heap := zH5 false true s.heap l1 l2 }) :=
  .of_wp fun pg w A R s h => by
    obtain ⟨hp, g, d, tk, os⟩ := (s)
    obtain ⟨p1, p2, h⟩ := h
    have hsub := sub_zip
    have q1 : Heap.IsTuple (Shared.heap ⟨hp, g, d, tk, os⟩) l1 xs := p1
    have q2 : Heap.IsList (Shared.heap ⟨hp.push { cls := .type "tuple_iterator", data := .fields #[.ref l1, .int 0 0] }, g, d, tk, os⟩) l2 ys := Heap.IsList.push p2 _
    wp_walk using wpAny_pyIter_tuple q1, wpAny_pyIter_list q2
    exact ⟨_, rfl, h⟩
section
variable {prog : Program}
variable {w : World} {A : Around} {E : Value → Shared → Prop} {s : Shared}
theorem call_zipK {k1 k2 : Bool} {l1 l2 : Addr} {xs ys : Array Value} {Q : Value → Shared → Prop} (hl1 : SqK k1 s.heap l1 xs) (hl2 : SqK k2 s.heap l2 ys)
    (h : ∀ h', ZipK k1 k2 (s.heap.objs.size + 4) (s.heap.objs.size + 2) (s.heap.objs.size + 3) s.heap.objs.size (s.heap.objs.size + 1) l1 l2 0 h' → (∀ c o, s.heap.get? c = some o → h'.get? c = some o) → Q (.ref (s.heap.objs.size + 4)) { s with heap := h' }) :
    (wpAny (model prog w) A (call (.type "zip") [.ref l1, .ref l2]) Q E s) := by
  have mix : ∀ {k1 k2 : Bool}, ((Value.ref (zH4 k1 k2 s.heap l1 l2).objs.size = Value.ref (s.heap.objs.size + 4)) ∧ ZipK k1 k2 (s.heap.objs.size + 4) (s.heap.objs.size + 2) (s.heap.objs.size + 3) s.heap.objs.size (s.heap.objs.size + 1) l1 l2 0 (zH5 k1 k2 s.heap l1 l2)) ∧
      (∀ c o, s.heap.get? c = some o → (zH5 k1 k2 s.heap l1 l2).get? c = some o) ∧ (∃ o, (zH5 k1 k2 s.heap l1 l2).get? (s.heap.objs.size + 4) = some o ∧ o.cls = .type "zip") := fun {k1 k2} => by
    have z1 : (zH1 k1 s.heap l1).objs.size = s.heap.objs.size + 1 := Heap.size_push ..
    have z2 : (zH2 k1 k2 s.heap l1 l2).objs.size = s.heap.objs.size + 2 := by rw [Heap.size_push, z1]
    have z3 : (zH3 k1 k2 s.heap l1 l2).objs.size = s.heap.objs.size + 3 := by rw [Heap.size_push, z2]
    have z4 : (zH4 k1 k2 s.heap l1 l2).objs.size = s.heap.objs.size + 4 := by rw [Heap.size_push, z3]
    have e5 : (zH5 k1 k2 s.heap l1 l2).get? (zH4 k1 k2 s.heap l1 l2).objs.size = some _ := Heap.get?_push_size _ rfl
    have e4 : (zH5 k1 k2 s.heap l1 l2).get? (zH3 k1 k2 s.heap l1 l2).objs.size = some _ := Heap.get?_push_of_some _ (Heap.get?_push_size _ rfl)
    have e3 : (zH5 k1 k2 s.heap l1 l2).get? (zH2 k1 k2 s.heap l1 l2).objs.size = some _ := Heap.get?_push_of_some _ (Heap.get?_push_of_some _ (Heap.get?_push_size _ rfl))
    have e2 : (zH5 k1 k2 s.heap l1 l2).get? (zH1 k1 s.heap l1).objs.size = some _ := Heap.get?_push_of_some _ (Heap.get?_push_of_some _ (Heap.get?_push_of_some _ (Heap.get?_push_size _ rfl)))
    have e1 : (zH5 k1 k2 s.heap l1 l2).get? s.heap.objs.size = some _ := Heap.get?_push_of_some _ (Heap.get?_push_of_some _ (Heap.get?_push_of_some _ (Heap.get?_push_of_some _ (Heap.get?_push_size _ rfl))))
    rw [z2, z3, z4] at e5
    rw [z1, z2] at e3
    rw [z3] at e4
    rw [z1] at e2
    refine ⟨⟨by rw [z4], e5, e3, ⟨_, _, e4⟩, ?_, ?_⟩, fun c o x => Heap.get?_push_of_some _ (Heap.get?_push_of_some _ (Heap.get?_push_of_some _ (Heap.get?_push_of_some _ (Heap.get?_push_of_some _ x)))), ⟨_, e5, rfl⟩⟩
    · cases k1 <;> exact ⟨_, e1, rfl, rfl⟩
    · cases k2 <;> exact ⟨_, e2, rfl, rfl⟩
  cases k1 <;> cases k2
  · exact _root_.RZ.call_zipT hl1 hl2 fun h' a1 a2 a3 a4 a5 _ a7 => h h' ⟨a1, a2, ⟨_, _, a3⟩, a4, a5⟩ a7
  · refine callType_new F.called_zip (by decide) (F.typeCall_zip_2 _ _) (F.newCall_zip_2 _ _) (fun obj => F.args_object_init_3 obj _ _) F.entry_zip_new (meets_zipTL l1 l2 xs ys) ⟨hl1, hl2, ?_⟩
    obtain ⟨⟨m1, m2⟩, m3, m4⟩ := mix (k1 := false) (k2 := true)
    rw [m1]
    exact ⟨m4, h _ m2 m3⟩
  · refine callType_new F.called_zip (by decide) (F.typeCall_zip_2 _ _) (F.newCall_zip_2 _ _) (fun obj => F.args_object_init_3 obj _ _) F.entry_zip_new (meets_zipLT l1 l2 xs ys) ⟨hl1, hl2, ?_⟩
    obtain ⟨⟨m1, m2⟩, m3, m4⟩ := mix (k1 := true) (k2 := false)
    rw [m1]
    exact ⟨m4, h _ m2 m3⟩
  · exact call_zip_2 hl1 hl2 fun h' a1 a2 a3 a4 a5 _ a7 => h h' ⟨a1, a2, ⟨_, _, a3⟩, a4, a5⟩ a7
end
end R

namespace R
open L2 PyProof.Rows PySem.Spec PySem
/-! ### walking one -/
def SqA (k : Bool) (K : PySem.W.Frag) (H : Hp) (a : Addr) (xs : List V) : Prop := match k with
  | true => SqL K H a xs
  | false => SqT K H a xs
theorem SqA.got {X : Cx} {pins : List (Addr × Obj)} {σ : L2.St} {H : Hp} {s : Shared} {k : Bool} {a : Addr} {xs : List V} (I : Inv X pins σ H s) (h : SqA k X.K H a xs) : ∃ its : List Value, Vals xs its ∧ SqK k s.heap a its.toArray ∧ a < s.heap.objs.size := by
  cases k
  · obtain ⟨its, r, p, _⟩ := I.tuple h
    obtain ⟨o, ho, q⟩ := id p
    exact ⟨its, r, ⟨o, ho, q⟩, Heap.lt_size ho⟩
  · obtain ⟨its, r, p, _⟩ := I.list h
    exact ⟨its, r, p.isList, p.lt⟩
theorem SqA.inj {X : Cx} {pins : List (Addr × Obj)} {σ : L2.St} {H : Hp} {s : Shared} {k : Bool} {a : Addr} {xs ys : List V} (I : Inv X pins σ H s) (h : SqA k X.K H a xs) (h' : SqA k X.K H a ys) : xs = ys := by
  cases k
  · exact I.tuple_inj h h'
  · exact I.list_inj h h'
def Itzk (k1 k2 : Bool) (K : PySem.W.Frag) (a b : Addr) : It :=
  ⟨fun i H => ∃ (xs ys : List V) (x y : V), SqA k1 K H a xs ∧ SqA k2 K H b ys ∧ xs[i]? = some x ∧ ys[i]? = some y,
    fun i H v H' => ∃ T x y, v = .ref T ∧ H T = none ∧ H' = upd H T (.tup [x, y]) ∧ (∀ xs, SqA k1 K H a xs → xs[i]? = some x) ∧ ∀ ys, SqA k2 K H b ys → ys[i]? = some y,
    fun i H => ∃ xs ys : List V, SqA k1 K H a xs ∧ SqA k2 K H b ys ∧ (xs.length ≤ i ∨ ys.length ≤ i)⟩
theorem turn_zipK {P : Program} {w : World} {K : PySem.W.Frag} {elts : List Expr} {kk : Nat} {tpos : Pos} {k1 k2 : Bool} {a b z TI TO i1 i2 : Addr} (D : ZipApart z TI TO i1 i2 a b) :
    Turn P w K (.Tuple elts kk tpos) (Itzk k1 k2 K a b) [z, TI, TO, i1, i2] z (fun i h => ZipK k1 k2 z TI TO i1 i2 a b i h) where
  mem := by simp
  obj := fun i h st c hc => by
    have five : c = z ∨ c = TI ∨ c = TO ∨ c = i1 ∨ c = i2 := by simpa using hc
    obtain ⟨x, y, t⟩ := st.to
    rcases five with rfl | rfl | rfl | rfl | rfl
    · exact ⟨_, st.z, fun v q => nomatch q⟩
    · exact ⟨_, st.ti, fun v q => nomatch q⟩
    · exact ⟨_, t, fun v q => nomatch q⟩
    · exact st.i1.obj
    · exact st.i2.obj
  keep := fun i h h' st k => by
    obtain ⟨x, y, t⟩ := st.to
    exact ⟨k z (by simp) _ st.z, k TI (by simp) _ st.ti, ⟨x, y, k TO (by simp) _ t⟩, st.i1.at fun o q => k i1 (by simp) o q, st.i2.at fun o q => k i2 (by simp) o q⟩
  item := by
    intro X; intro hP hw hK hc i pins s σ H E I hf st hg
    subst hP hw hK
    obtain ⟨xs, ys, x, y, qx, qy, ex, ey⟩ := hg
    obtain ⟨its, rv, p, _⟩ := SqA.got I qx
    obtain ⟨jts, rv2, p2, _⟩ := SqA.got I qy
    obtain ⟨u, hu, ru⟩ := rv.get ex
    obtain ⟨u2, hu2, ru2⟩ := rv2.get ey
    have zl : z < s.heap.objs.size := Heap.lt_size st.z
    have five : ∀ {c : Addr} {h' : Heap}, (∀ c o, c ≠ z → c ≠ TO → c ≠ i1 → c ≠ i2 → s.heap.get? c = some o → h'.get? c = some o) → ∀ o, c ∉ [z, TI, TO, i1, i2] → s.heap.get? c = some o → h'.get? c = some o := fun {c h'} hk o hb q => by
      simp only [List.mem_cons, List.not_mem_nil, or_false, not_or] at hb
      exact hk c o hb.1 hb.2.2.1 hb.2.2.2.1 hb.2.2.2.2 q
    refine zipK_next D st p p2 (x := u) (y := u2) (by simpa using hu) (by simpa using hu2) fun h' z' t' j1 j2 hT hsz hk => ⟨_, rfl, wpAny_letOwnedTupleGo_zip (s := { s with heap := h' }) z' fun h2 z2 sb => ?_⟩
    have hT2 : h2.get? s.heap.objs.size = some { cls := .type "tuple", data := .seq #[u, u2] } := (sb.2 _ (Nat.ne_of_gt zl)).trans hT
    have new : ObjOk X.prog X.w (upd H s.heap.objs.size (.tup [x, y])) h2 s.heap.objs.size (.tup [x, y]) := ⟨show 2 ≤ sizeLine by decide, [u, u2], .cons ru (.cons ru2 .nil), ⟨_, hT2, rfl, _, rfl⟩⟩
    have I1 : Inv X pins σ (upd H s.heap.objs.size (.tup [x, y])) { s with heap := h2 } :=
      I.turnedNew (t' := s.toks) (ch := [z, TI, TO, i1, i2]) (fun c o hb q => (sb.2 c (fun e => hb (by simp [e]))).trans (five hk o hb q)) hf (Nat.le_refl _) new
    refine ⟨.ref s.heap.objs.size, _, I1, rfl, ⟨_, x, y, rfl, I.hok.fresh (Nat.le_refl _), rfl, fun l hl => by rw [SqA.inj I hl qx]; exact ex, fun l hl => by rw [SqA.inj I hl qy]; exact ey⟩, ⟨z2, ?_, ⟨u, u2, ?_⟩, ?_, ?_⟩, fun c hm => ?_⟩
    · exact (sb.2 _ D.TIz).trans (hk _ _ D.TIz D.TITO D.TIi1 D.TIi2 st.ti)
    · exact (sb.2 _ D.TOz).trans t'
    · exact j1.at fun o q => (sb.2 _ D.i1z).trans q
    · exact j2.at fun o q => (sb.2 _ D.i2z).trans q
    · have lt : c < s.heap.objs.size := by
        have five' : c = z ∨ c = TI ∨ c = TO ∨ c = i1 ∨ c = i2 := by simpa using hm
        obtain ⟨x', y', t0⟩ := st.to
        obtain ⟨o1, g1, _⟩ := st.i1.obj
        obtain ⟨o2, g2, _⟩ := st.i2.obj
        rcases five' with rfl | rfl | rfl | rfl | rfl
        · exact zl
        · exact Heap.lt_size st.ti
        · exact Heap.lt_size t0
        · exact Heap.lt_size g1
        · exact Heap.lt_size g2
      rw [upd_ne (Nat.ne_of_lt lt)]
      exact (hf c hm).1
  done := by
    intro X; intro hP hw hK hc i pins s σ H E I hf st hg
    subst hP hw hK
    obtain ⟨xs, ys, qx, qy, hend⟩ := hg
    obtain ⟨its, rv, p, _⟩ := SqA.got I qx
    obtain ⟨jts, rv2, p2, _⟩ := SqA.got I qy
    have n1 := rv.length
    have n2 := rv2.length
    refine zipK_stop (I.ok.hd hc) D st p p2 (hend.imp (fun q => by simp; omega) fun q => by simp; omega) fun h' hk => ⟨rfl, I.turnedL (t' := s.toks) (ch := [z, TI, TO, i1, i2]) (fun c o hb q => ?_) hf⟩
    simp only [List.mem_cons, List.not_mem_nil, or_false, not_or] at hb
    exact hk c o hb.1 hb.2.2.1 hb.2.2.2.1 hb.2.2.2.2 q
  self := fun A i s Q E st h => wpAny_pyIter_zip st.z h
theorem vals_two {x y : V} {us : List Value} (r : Vals [x, y] us) : ∃ v1 v2, us = [v1, v2] ∧ RelV x v1 ∧ RelV y v2 := by
  cases r with
  | cons a r =>
    cases r with
    | cons b r => cases r; exact ⟨_, _, rfl, a, b⟩
def iZk (K : PySem.W.Frag) (ta : TA) : TI := fun σ H R => ta σ H fun vs H1 => ∃ a b xs ys k1 k2, vs = [.ref a, .ref b] ∧ SqA k1 K H1 a xs ∧ SqA k2 K H1 b ys ∧ R (Itzk k1 k2 K a b) H1
theorem pi_zipK {X : Cx} {e e2 : Expr} {ta : TA} {p pos tpos : Pos} {elts : List Expr} {kk : Nat} (hg : Gl X "zip") (hm : X.mg "zip" = none) (ha : PA X [e, e2] ta) (hs : starEach [e, e2] X.env = (false, eval e X.env) :: starEach [e2] X.env)
    (hpl : (backTo pos (starEach [e2] X.env)).any (·.1) = false) : PI X (.Tuple elts kk tpos) (.Call (.Name "zip" p) [e, e2] [] pos) (iZk X.K ta) := by
  refine ⟨fun pins s σ H R I h => Call_ (ld_blt I hg hm PyProof.Rows.boot_zip (PyProof.Rows.callWith_type1 (thn (ha.run pos pins s σ H _ I h) fun us s1 ⟨vs, H1, I1, r1, q1⟩ => ?_) hs hpl))⟩
  obtain ⟨a, b, xs, ys, k1, k2, ex, qx, qy, q⟩ := q1
  subst ex
  obtain ⟨v1, v2, eu, r, r'⟩ := vals_two r1
  subst eu
  cases r
  cases r'
  obtain ⟨its, rv, p1, la⟩ := SqA.got I1 qx
  obtain ⟨jts, rv2, p2, lb⟩ := SqA.got I1 qy
  refine call_zipK p1 p2 fun h' Z hk => wpAny_pyIter_zip Z.z ?_
  have J : Inv X pins σ H1 { s1 with heap := h' } := I1.kept (t' := s1.toks) hk
  have T := turn_zipK (P := X.prog) (w := X.w) (K := X.K) (elts := elts) (kk := kk) (tpos := tpos) (k1 := k1) (k2 := k2) (PySem.W.ktu_apart s1.heap.objs.size a b la lb)
  have F : ∀ c ∈ [s1.heap.objs.size + 4, s1.heap.objs.size + 2, s1.heap.objs.size + 3, s1.heap.objs.size, s1.heap.objs.size + 1], FpOk X pins H1 c := fun c hc => by
    have le : s1.heap.objs.size ≤ c := by
      simp only [List.mem_cons, List.not_mem_nil, or_false] at hc
      omega
    exact I1.fpOk le (I1.hok.fresh le)
  exact ⟨_, _, _, _, H1, rfl, J, T, Z, F, q⟩
end R

/-! RT: a tuple turned round, t[::-1]. -/
namespace R
open L2 PyProof.Rows PySem.Spec PySem
theorem rev_picks (xs : Array Value) : ∀ k : Nat, k ≤ xs.size → ((List.range k).filterMap fun (m : Nat) => xs[((xs.size : Int) - 1 + (m : Int) * (-1)).toNat]?) = (xs.toList.reverse).take k := by
  intro k
  induction k with
  | zero => intro _; simp
  | succ k ih =>
    intro hk
    rw [List.range_succ, List.filterMap_append, ih (by omega), List.take_succ]
    congr 1
    have e : ((xs.size : Int) - 1 + ((k : Nat) : Int) * (-1)).toNat = xs.size - 1 - k := by omega
    simp only [List.filterMap_cons, List.filterMap_nil, e]
    rw [List.getElem?_reverse (by simpa using (show k < xs.size by omega)), Array.length_toList, Array.getElem?_toList]
    have hl : xs.size - 1 - k < xs.size := by omega
    rw [Array.getElem?_eq_getElem hl]
    rfl
section
variable {prog : Program}
variable {w : World} {A : Around} {E : Value → Shared → Prop} {s : Shared}
theorem revApplied {sl : Addr} {vk : Value} {n : Nat} {Q : Int × Int × Nat → Shared → Prop} (hs : s.heap.IsSliceOf sl .none .none vk) (pk : IsPart vk (some (-1)))
    (h : Q ((n : Int) - 1, -1, n) s) : wpAny (model prog w) A (Builtin.Slice.sliceApplied (.ref sl) (pure (n : Int))) Q E s := by
  obtain ⟨os, ho, hc, hd⟩ := id hs
  unfold Builtin.Slice.sliceApplied; unfold Builtin.Slice.sliceFields
  refine wpAny_bind (wpAny_bind (wpAny_field ho hd (x := .none) rfl (wpAny_bind (wpAny_field ho hd (x := .none) rfl (wpAny_bind (wpAny_field ho hd (x := vk) rfl (wpAny_pure ?_)))))))
  refine wpAny_bind (HT.slicePart_ pk ?_)
  show wpAny _ _ (if ((-1 : Int) == 0) = true then _ else _) _ _ s
  rw [if_neg (by decide)]
  refine wpAny_bind (slicePart_none (wpAny_bind (slicePart_none (wpAny_bind (wpAny_pure ?_)))))
  show wpAny _ _ (match Builtin.Slice.sliceAdjust none none (-1) (n : Int) with | (lo, hi) => pure (lo, (-1 : Int), Builtin.Slice.slicePlaces lo hi (-1))) _ _ s
  have e : Builtin.Slice.sliceAdjust none none (-1) (n : Int) = ((n : Int) - 1, -1) := rfl
  rw [e]
  have e2 : Builtin.Slice.slicePlaces ((n : Int) - 1) (-1) (-1) = n := by
    delta Builtin.Slice.slicePlaces
    rw [if_neg (by decide)]
    by_cases hn : n = 0
    · subst hn; rfl
    · rw [if_pos (by omega)]
      have : ((n : Int) - 1 - -1 - 1) / -(-1) + 1 = n := by
        rw [Int.neg_neg, Int.ediv_one]; omega
      rw [this]
      rfl
  show wpAny _ _ (pure ((n : Int) - 1, (-1 : Int), Builtin.Slice.slicePlaces ((n : Int) - 1) (-1) (-1))) _ _ s
  rw [e2]
  exact wpAny_pure h
theorem item_rev {t sl : Addr} {its : Array Value} {vk : Value} {Q : Value → Shared → Prop} (ht : IsTup s.heap t its) (hs : s.heap.IsSliceOf sl .none .none vk) (pk : IsPart vk (some (-1)))
    (h : Q (.ref s.heap.objs.size) { s with heap := s.heap.push { cls := .type "tuple", data := .seq its.toList.reverse.toArray } }) (hz : its.size ≤ sizeLine) : wpAny (model prog w) A (getItem (.ref t) (.ref sl)) Q E s := by
  have hk : sizeOk (.seq its.toList.reverse.toArray) := by
    show its.toList.reverse.toArray.size ≤ sizeLine
    simpa using hz
  obtain ⟨os, hos, hcs, hds⟩ := (id hs)
  have hty : s.TypeIs (.ref sl) "slice" := ⟨os, hos, hcs⟩
  unfold getItem
  refine wpAny_holding (wpAny_bind (wpAny_sequenceKey ht.typeIs (by decide) ?_))
  refine wpAny_bind (wpAny_callSpecial?_slot (name := Str.ofString "__getitem__") ht.typeIs slot_tuple_getitem (wpAny_call_entry slot_tuple_getitem ht.typeIs entry_tuple_getitem ?_ (args_tuple_getitem _ _)))
  show (wpAny _ _ (Builtin.Tuple.tupleItemsOf (.ref t) >>= _) _ _ s)
  refine wpAny_bind (tupleItemsOf_ ht (wpAny_bind (wpAny_typeOf hty ?_)))
  rw [if_pos (by decide)]
  refine wpAny_bind (revApplied (n := its.size) hs pk ?_)
  have no : ¬ ((((its.size : Int) - 1 == 0) && (-1 : Int) == 1 && its.size == its.size) = true) := by
    intro q
    rw [(Bool.and_eq_true), Bool.and_eq_true] at q
    exact absurd (eq_of_beq q.1.2) (by decide)
  show wpAny _ _ (if (((its.size : Int) - 1 == 0) && (-1 : Int) == 1 && its.size == its.size) = true then _ else _) _ _ s
  rw [if_neg no, rev_picks its its.size (Nat.le_refl _), List.take_of_length_le (by simp)]
  first
    | exact wpAny_bind (m := Builtin.Tuple.tupleExact _) (wpAny_newObj_type (wpAny_pure ⟨_, rfl, wpAny_pure h⟩) hk)
    | exact wpAny_bind (wpAny_bind (m := Builtin.Tuple.tupleExact _) (wpAny_newObj_type (wpAny_pure ⟨_, rfl, wpAny_pure h⟩) hk))
    | exact wpAny_bind (m := Builtin.Tuple.tupleExact _) (wpAny_newObj_type (wpAny_bind (wpAny_pure (wpAny_pure ⟨_, rfl, wpAny_pure h⟩))) hk)
    | exact wpAny_bind (wpAny_bind (m := Builtin.Tuple.tupleExact _) (wpAny_newObj_type (wpAny_pure (wpAny_pure ⟨_, rfl, wpAny_pure h⟩)) hk))
end
def tRevT (K : PySem.W.Frag) (te : TE) : TE := fun σ H Q => te σ H fun x H1 => ∃ a xs k, x = .ref a ∧ SqA k K H1 a xs ∧ ∀ p, H1 p = none → Q (.ref p) (upd H1 p (match k with | true => .lst xs.reverse | false => .tup xs.reverse))
/-- e[::-1], a list's or a tuple's -/
theorem pe_revA {X : Cx} {e : Expr} {te : TE} {k : Nat} {p1 p2 p3 pos : Pos} (he : PE X e te) : PE X (.Subscript e (.Slice none none (some (.UnaryOp .USub (.Constant (.int 1) k p1) p2)) p3) pos) (tRevT X.K te) := by
  refine ⟨fun pins s σ H Q I h => Subscript_ (thn (he.run pins s σ H _ I h) fun v s1 ⟨x, H1, I1, r1, q1⟩ => ?_)⟩
  obtain ⟨a, xs, kk, rfl, hx, q⟩ := q1
  cases r1
  have step : PO X (some (.UnaryOp .USub (.Constant (.int 1) k p1) p2)) (tPart (tUn (rU fun i => .int (-i)) (tC (.int 1)))) := po_some (pe_un un_neg pe_int)
  refine wpAny_Slice (thn (po_none.run pins s1 σ H1 (fun o G => o = none ∧ G = H1) I1 ⟨rfl, rfl⟩) fun vl s2 ⟨l, H2, I2, pl, el, e2⟩ => ?_)
  subst el e2
  refine thn (po_none.run pins s2 σ H2 (fun o G => o = none ∧ G = H2) I2 ⟨rfl, rfl⟩) fun vu s3 ⟨u, H3, I3, pu, eu, e3⟩ => ?_
  subst eu e3
  refine thn (step.run pins s3 σ H3 (fun o G => o = some (-1) ∧ G = H3) I3 ⟨1, rfl, -1, rfl, rfl, rfl⟩) fun vs s4 ⟨o, H4, I4, ps, eo, e4⟩ => ?_
  subst eo e4
  have I5 : Inv X pins σ H4 { s4 with heap := s4.heap.push { cls := .type "slice", data := .fields #[vl, vu, vs] } } := I4.kept (t' := s4.toks) fun b u z => Heap.get?_push_of_some _ z
  show wpAny (model X.prog X.w) X.A (subscriptTail e (.Slice none none (some (.UnaryOp .USub (.Constant (.int 1) k p1) p2)) p3) (.ref a) (.ref s4.heap.objs.size)) (EP X pins σ Q) X.xe _
  cases kk with
  | true =>
    obtain ⟨its, r, ht, hz⟩ := (I5.list hx)
    have hlen := r.length
    refine (tail_any (ops := [.ref a, .ref s4.heap.objs.size]) ht.isList.typeIs (PySem.slot_list_getitem.lookup) ?_ (by with_unfolding_all rfl))
    refine (wpAny_getItem_list_slice ht.isList (Heap.IsSliceOf.new _ vl vu vs) pl pu ps (by decide) ?_ (by rw [List.size_toArray]; omega))
    rw [PySem.W.krv_pick]
    refine ⟨.ref _, _, I5.laid (t' := s4.toks) (o := .lst xs.reverse) (fun b u z => Heap.get?_push_of_some _ z) (Nat.le_refl _) ?_, rfl, q _ (I5.hok.fresh (Nat.le_refl _))⟩
    exact (⟨by rw [List.length_reverse]; exact hz, _, 0, r.reverse, Heap.get?_push_size _ rfl⟩)
  | false =>
    obtain ⟨its, r, ht, hz⟩ := I5.tuple hx
    have hlen := r.length
    cases pl
    cases pu
    refine tail_any (ops := [.ref a, .ref s4.heap.objs.size]) ht.typeIs (PyProof.Rows.slot_tuple_getitem.lookup) ?_ (by with_unfolding_all rfl)
    refine item_rev ht (Heap.IsSliceOf.new _ _ _ vs) ps ?_ (by rw [List.size_toArray]; omega)
    refine ⟨.ref _, _, I5.laid (t' := s4.toks) (o := .tup xs.reverse) (fun b u z => Heap.get?_push_of_some _ z) (Nat.le_refl _) ?_, rfl, q _ (I5.hok.fresh (Nat.le_refl _))⟩
    exact ⟨by rw [List.length_reverse]; exact hz, _, r.reverse, IsTup.new _ _⟩
end R

/-! R7: which term stands for which expression. -/
namespace R
open L2 PyProof.Rows PySem.Spec PySem

/-- names: the defs, the classes with their fields, the constants; whether gcd is there -/
structure Sg where
  fns : List Str
  cls : List (Str × List Str)
  gls : List Str
  gcd : Bool
  ins : List Nat
  exs : List Nat
def visB (sc : Scope) (x : Str) : Bool := match sc.names.lookup x with
  | some .local => true
  | some .cell => true
  | some .free => true
  | _ => false
def glB (sc : Scope) (x : Str) : Bool := match sc.names.lookup x with
  | some .globalImplicit => true
  | _ => false
def notDbg (x : Str) : Bool := !(x == ("__debug__" : Str)) && !(x == ("__classdict__" : Str)) && decide (x ≠ ("__name__" : Str))
def constB : D → Const → Bool
  | .non, .none => true
  | .bl a, .bool b => a == b
  | .int a, .int b => decide (a = b)
  | .str a, .str b => decide (a = b)
  | _, _ => false
def Blt.nm : Blt → Str
  | .len => "len" | .all => "all" | .any => "any" | .tuple => "tuple" | .list => "list" | .repr => "repr" | .abs => "abs" | .int => "int" | .max => "max" | .min => "min"
  | .gcd => "gcd" | .sum => "sum" | .sorted => "sorted" | .dict => "dict" | .str => "str"
def Blt.one : Blt → Bool
  | .len | .all | .any | .tuple | .list | .repr | .abs | .int | .str | .sum => true
  | _ => false
def Blt.two : Blt → Bool
  | .max | .min | .gcd => true
  | _ => false
def Ty.okB (S : Sg) : Ty → Str → Bool
  | .int, x => decide (x = "int") | .bool, x => decide (x = "bool") | .str, x => decide (x = "str") | .tuple, x => decide (x = "tuple") | .list, x => decide (x = "list")
  | .cls c, x => match S.cls[c]? with
    | some p => decide (p.1 = x) && decide (c ∈ S.ins)
    | none => false
def tysB (S : Sg) (sc : Scope) : List Ty → List Expr → Bool
  | [], [] => true
  | t :: ts, .Name x _ :: es => t.okB S x && glB sc x && notDbg x && tysB S sc ts es
  | _, _ => false
def tysOne (S : Sg) (sc : Scope) (tys : List Ty) (many : Bool) (x : Expr) : Bool := match many, x with
  | false, .Name n p => tys.length == 1 && tysB S sc tys [.Name n p]
  | _, _ => false
def keysB : List Key → List (Option Expr) → Bool
  | [], [] => true
  | .inr k :: ks, some (.Constant (.str x) _ _) :: es => decide (k = x) && keysB ks es
  | _, _ => false
/-- the names of a comprehension's own slots -/
def ownN (N : List Str) (own : List Nat) : List (Str × Nat) := own.filterMap fun i => (N[i]?).map fun x => (x, i)
/-- a name that is stored -/
def stoB (N : List Str) (sc : Scope) (orig : Scope) (i : Nat) (x : Str) : Bool := decide (N[i]? = some x) && (match sc.names.lookup x with
  | some .local => true
  | some .cell => (match orig.names.lookup x with | some .cell => true | _ => false)
  | _ => false)
def tgsB (N : List Str) (sc orig : Scope) : List Nat → List Expr → Bool
  | [], [] => true
  | i :: is, .Name x _ :: es => stoB N sc orig i x && tgsB N sc orig is es
  | _, _ => false
def tgB (N : List Str) (sc orig : Scope) : Tg → Expr → Bool
  | .v i, .Name x _ => stoB N sc orig i x
  | .t is, .Tuple es _ _ => tgsB N sc orig is es
  | _, _ => false
/-- the walks that hand out tuples want a target that takes them apart -/
def itTg : E → Expr → Bool
  | .zip _ _, .Tuple _ _ _ => true
  | .zip _ _, _ => false
  | _, _ => true
def tgIn (own : List Nat) : Tg → Bool
  | .v i => decide (i ∈ own)
  | .t is => is.all fun i => decide (i ∈ own)
def notSet : Expr → Bool
  | .Set _ _ _ => false
  | _ => true
def notCall : Expr → Bool
  | .Call _ _ _ _ => false
  | _ => true
def isRng : E → Bool
  | .rng1 _ => true
  | .rng2 _ _ => true
  | _ => false
def noPart : E → Bool
  | .cst .non => true
  | _ => false
section
variable (S : Sg) (N : List Str) (h : Option (Str × List Str))
mutual
/-- the term e stands for the expression x, in the scope sc -/
def isE : E → Scope → Expr → Bool
  | .var i, sc, .Name x _ => decide (N[i]? = some x) && visB sc x && notDbg x
  | .cst d, _, .Constant c _ _ => constB d c
  | .gcn g, sc, .Name x _ => decide (S.gls[g]? = some x) && glB sc x && notDbg x
  | .tup es, sc, .Tuple xs _ _ => isEs es sc xs
  | .lst es, sc, .List xs _ => isEs es sc xs
  | .bin op a b, sc, .BinOp l o r _ => decide (o = op.op) && isE a sc l && isE b sc r
  | .neg a, sc, .UnaryOp .USub x _ => isE a sc x
  | .not a, sc, .UnaryOp .Not x _ => isE a sc x
  | .and a b, sc, .BoolOp .And [x, y] _ => isE a sc x && isE b sc y
  | .and a b, sc, .BoolOp .And (x :: y :: z :: r) p => isE a sc x && isE b sc (.BoolOp .And (y :: z :: r) p)
  | .or a b, sc, .BoolOp .Or [x, y] _ => isE a sc x && isE b sc y
  | .or a b, sc, .BoolOp .Or (x :: y :: z :: r) p => isE a sc x && isE b sc (.BoolOp .Or (y :: z :: r) p)
  | .cmp op a b, sc, .Compare l [o] [r] _ => decide (o = op.op) && isE a sc l && isE b sc r
  | .ite c a b, sc, .IfExp t x y _ => isE c sc t && isE a sc x && isE b sc y
  | .idx a i, sc, .Subscript x y _ => isE a sc x && isE i sc y
  | .slc a lo hi, sc, .Subscript x (.Slice l u none _) _ => isE a sc x && (match l with
    | none => noPart lo
    | some y => isE lo sc y) && (match u with
    | none => noPart hi
    | some y => isE hi sc y)
  | .rev a, sc, .Subscript x (.Slice none none (some (.UnaryOp .USub (.Constant (.int 1) _ _) _)) _) _ => isE a sc x
  | .fld a m, sc, .Attribute x f _ => isE a sc x && notCall x && m.all fun p => match S.cls[p.1]? with
    | some q => decide (q.2[p.2]? = some f)
    | none => false
  | .exf j, sc, .Attribute (.Name n _) f _ => match h with
    | some (n', fs) => decide (n = n') && decide (fs[j]? = some f) && (match sc.names.lookup n with | some .local => true | _ => false)
    | none => false
  | .isi a tys many, sc, .Call (.Name g _) [x, t] [] _ => decide (g = "isinstance") && glB sc g && isE a sc x && tysOne S sc tys many t
  | .call f es, sc, .Call (.Name g _) xs [] _ => decide (S.fns[f]? = some g) && glB sc g && notDbg g && isEs es sc xs && decide (g ≠ "")
  | .blt1 b a, sc, .Call (.Name g _) [x] [] _ => decide (g = b.nm) && glB sc g && isE a sc x && b.one
  | .blt2 b a a', sc, .Call (.Name g _) [x, y] [] _ => decide (g = b.nm) && glB sc g && isE a sc x && isE a' sc y && (decide (b ≠ .gcd) || S.gcd) && b.two
  | .make c es, sc, .Call (.Name g _) xs [] _ => (match S.cls[c]? with | some p => decide (p.1 = g) && !p.2.isEmpty && decide (p.2.length = xs.length) && decide (c ∈ S.ins) | none => false) && glB sc g && notDbg g && isEs es sc xs
  | .eqo a b, sc, .Compare l [.Eq] [r] _ => isE a sc l && isE b sc r
  | .cell ks es, sc, .Dict keys vals _ => keysB ks keys && !ks.isEmpty && decide (ks.length = vals.length) && decide (keys.length = vals.length) && decide (keys.length ≤ 15) && isEs es sc vals
  | .lrng it, sc, .Call (.Name g _) [x] [] _ => decide (g = "list") && glB sc g && isIt it sc x && isRng it
  | .comp own tg it ifs elt, sc, .ListComp x [⟨t, i, is, 0⟩] scope _ => blkC N sc scope (ownN N own) && decide ((ownN N own).map (·.2) = own) && tgB N (relS scope sc) scope tg t && isIt it sc i && notSet i && itTg it t && tgIn own tg && isEs ifs (relS scope sc) is && isE elt (relS scope sc) x
  | _, _, _ => false
def isEs : E → Scope → List Expr → Bool
  | .nil, _, [] => true
  | .cons e es, sc, x :: xs => isE e sc x && isEs es sc xs
  | _, _, _ => false
/-- what is walked -/
def isIt : E → Scope → Expr → Bool
  | .walk a, sc, x => isE a sc x
  | .rng1 a, sc, .Call (.Name g _) [x] [] _ => decide (g = "range") && glB sc g && isE a sc x
  | .rng2 a b, sc, .Call (.Name g _) [x, y] [] _ => decide (g = "range") && glB sc g && isE a sc x && isE b sc y
  | .zip a b, sc, .Call (.Name g _) [x, y] [] _ => decide (g = "zip") && glB sc g && isE a sc x && isE b sc y
  | .enum a, sc, .Call (.Name g _) [x] [] _ => decide (g = "enumerate") && glB sc g && isE a sc x
  | _, _, _ => false
end
end
end R

/-! R8: expressions come to what ev says. -/
namespace R
open L2 PyProof.Rows PySem.Spec PySem

def biNames : List Str := ["len", "all", "any", "tuple", "list", "repr", "abs", "int", "max", "min", "sum", "sorted", "dict", "str", "bool", "range", "zip", "enumerate", "isinstance"]
/-- a def's promise for every caller under whom no repr runs -/
structure FnG (P : Program) (w : World) (K : PySem.W.Frag) (mg : Str → Option Value) (base : Heap) (k : Nat) (f : Addr) (fd : FuncData) (ps : List Str) (sp : Sp) : Prop where
  len : (∀ vs H Q E, sp vs H Q E → vs.length = ps.length)
  run : ∀ (A : Around) (outer : List Env) (s : Shared) (H : Hp) (args : Args) (us : List Value) (vs : List V) (Q : VK) (E : XK), Room k A → A.guards = some [] → Env0 P w K mg base A outer s H →
    BindsTo s fd args (ps.zip us) → Vals vs us → sp vs H Q E → codeAny (model P w) A (.call (.ref f) args) (CR (L2.CX P w) outer P w H s Q E) s
/-- what a def of the program promises -/
def spD (T : Tb) (calls : Nat → List D → Cells → Out (D × Cells)) (f : Nat) : Sp := fun vs H Q E => ∃ w κ ds, RVs T w vs ds ∧ Wok T w H κ ∧
  Post T w H (calls f ds κ) E (fun r w' H' => ∀ v, RV T w' v r.1 → Q v H')
/-- an instance's facts -/
structure InsOk (K : PySem.W.Frag) (C : Addr) : Prop where
  cl : Cls K C
  ha : (PySem.W.findIn K (.ref C) "__class__" = some (some (.builtin "object.__class__")))
  hn : (PySem.W.specialIn K (.builtin "object.__class__") "__get__" = some (some (.builtin "getset_descriptor.__get__")))
  htk : (PySem.W.takesIn K (.builtin "object.__class__") = some true)
  hm : (PySem.W.mroIn K C (.type "object") = some true)
  to : ∀ n ∈ (["int", "bool", "str", "tuple", "list"] : List String), PySem.W.kitOne K (.ref C) (.type n) = some false
  self : PySem.W.kitOne K (.ref C) (.ref C) = some true
  of : ∀ n ∈ (["NoneType", "int", "bool", "str", "tuple", "list"] : List String), PySem.W.kitOne K (.type n) (.ref C) = some false
/-- what a class's own start does: each argument into its field -/
def spI (C : Addr) (nms : List Str) : Sp := fun vs H Q E => ∃ (x dx : Addr) (us : List V), vs = .ref x :: us ∧ us.length = nms.length ∧ H x = some (.ins C dx []) ∧ dx ≠ x ∧ Q .non (upd H x (.ins C dx (nms.zip us)))
/-- what is known where code runs -/
structure XG (T : Tb) (S : Sg) (Γ : Cxt) (N : List Str) (n : Nat) (sc : Scope) (X : Cx) : Prop where
  hK : X.K = T.K
  hN : X.N = N
  nd : N.Nodup
  hsc : X.env.scope = sc
  calm : X.calm = true
  gd : X.A.guards = some []
  room : Room n X.A
  lv : 2 ≤ n
  bi : ∀ b ∈ biNames, X.mg b = none
  gcd : S.gcd = true → X.mg "gcd" = some (.builtin "math.gcd")
  gl : ∀ (g : Nat) (x : Str) (d : D), S.gls[g]? = some x → Γ.gl[g]? = some d → ∃ u v, X.mg x = some u ∧ RelV v u ∧ ∀ w, RV T w v d
  call : ∀ (f : Nat) (x : Str), S.fns[f]? = some x → x ≠ "" → ∃ (a : Addr) (fd : FuncData) (ps : List Str), X.mg x = some (.ref a) ∧ PySem.W.keepIn X.K (.ref a) = true ∧ FnG X.prog X.w X.K X.mg X.base n a fd ps (spD T Γ.calls f) ∧ Binds X.K fd ps []
  ins : ∀ (c : Nat) (C : Addr) (nms : List Str), T.ins c = some (C, nms) → InsOk T.K C ∧ (∃ x, S.cls[c]? = some (x, nms) ∧ X.mg x = some (.ref C)) ∧ nms.Nodup ∧ ∀ f ∈ nms, NoAttr T.K C f
  insAll : ∀ c ∈ S.ins, ∃ C nms, T.ins c = some (C, nms)
  mkC : ∀ (c : Nat) (C : Addr) (nms : List Str), T.ins c = some (C, nms) → ∃ (fI : Addr) (fd : FuncData) (ps : List Str), Mk X.K C fI ∧ FnG X.prog X.w X.K X.mg X.base 1 fI fd ps (spI C nms) ∧ Binds X.K fd ps []
  eqF : ∀ (c f : Nat) (C : Addr) (nms : List Str), Γ.eqf c = some f → T.ins c = some (C, nms) → ∃ (a : Addr) (fd : FuncData) (ps : List Str), PySem.W.findIn X.K (.ref C) "__eq__" = some (some (.ref a)) ∧ PySem.W.isFn X.K (.ref a) = true ∧
    FnG X.prog X.w X.K X.mg X.base n a fd ps (spD T Γ.calls f) ∧ Binds X.K fd ps [] ∧ PySem.W.notFirst X.K C (.type "tuple") = true
  ins2 : ∀ (c c' : Nat) (C C' : Addr) (nms nms' : List Str), c ≠ c' → T.ins c = some (C, nms) → T.ins c' = some (C', nms') → PySem.W.kitOne T.K (.ref C) (.ref C') = some false
section
variable {T : Tb} {S : Sg} {Γ : Cxt} {N : List Str} {n : Nat} {sc : Scope} {X : Cx} {W : WX}
theorem XG.hu (g : XG T S Γ N n sc X) : X.A.units + 65 < cLine := by have := g.room.un; omega
/-- a test -/
def evT (Γ : Cxt) (e : E) (σ : Sl) (κ : Cells) : Out (Bool × Cells) := (ev Γ e σ κ).bind fun x => (opt (truD x.1.d)).bind fun b => .ok (b, x.2)
def GT (Q : Bool → Hp → Prop) : Bool × Cells → Wd → Hp → Prop := fun r _ H => Q r.1 H
def tT (T : Tb) (Γ : Cxt) (e : E) (W : WX) : TT := fun σV H Q => ∃ w σ κ, Wok T w H κ ∧ RS T w H σV σ ∧ Post T w H (evT Γ e σ κ) (fun c d H' => W c d σV H') (GT Q)
/-- the shape of every case: from the state, by the first part -/
theorem tE_bind {α : Type} {e : E} {σV : L2.St} {H : Hp} {w : Wd} {σ : Sl} {κ : Cells} {f : O × Cells → Out (α × Cells)} {G : α × Cells → Wd → Hp → Prop} {Q : V → Hp → Prop}
    (hw : Wok T w H κ) (hs : RS T w H σV σ) (p : Post T w H ((ev Γ e σ κ).bind f) (fun c d H' => W c d σV H') G)
    (h : ∀ r w' H' v, ev Γ e σ κ = .ok r → Ext w H w' H' → Wok T w' H' r.2 → RS T w' H' σV σ → RO T w' H' v r.1 → Bor σV v r.1 → (r.1.tag = none → Young H v r.1) → Post T w H (f r) (fun c d H' => W c d σV H') G → Q v H') : tE T Γ e W σV H Q := by
  refine ⟨w, σ, κ, hw, hs, ?_⟩
  cases er : ev Γ e σ κ with
  | ok r =>
    rw [er] at p
    exact fun w' H' e k v hv hb hy => h r w' H' v er e k (hs.ext e) hv hb hy p
  | exc c fs k => rw [er] at p; exact p
  | bad => rw [er] at p; exact p
theorem tT_bind {α : Type} {e : E} {σV : L2.St} {H : Hp} {w : Wd} {σ : Sl} {κ : Cells} {f : O × Cells → Out (α × Cells)} {G : α × Cells → Wd → Hp → Prop} {Q : Bool → Hp → Prop}
    (hw : Wok T w H κ) (hs : RS T w H σV σ) (g : Bool → O × Cells → Out (α × Cells)) (hf : ∀ r, f r = (opt (truD r.1.d)).bind fun b => g b r) (p : Post T w H ((ev Γ e σ κ).bind f) (fun c d H' => W c d σV H') G)
    (h : ∀ r b w' H', ev Γ e σ κ = .ok r → truD r.1.d = some b → Ext w H w' H' → Wok T w' H' r.2 → RS T w' H' σV σ → Post T w' H' (g b r) (fun c d H' => W c d σV H') G → Q b H') : tT T Γ e W σV H Q := by
  refine ⟨w, σ, κ, hw, hs, ?_⟩
  unfold evT
  cases er : ev Γ e σ κ with
  | ok r =>
    rw [er] at p
    have p' : Post T w H (f r) (fun c d H' => W c d σV H') G := p
    rw [hf] at p'
    obtain ⟨b, eb, p2⟩ := p'.opt
    show Post T w H ((opt (truD r.1.d)).bind fun b => Out.ok (b, r.2)) _ _
    rw [eb]
    exact fun w' H' e k => h r b w' H' er eb e k (hs.ext e) (p2.step e)
  | exc c fs k => rw [er] at p; exact p
  | bad => rw [er] at p; exact p
theorem Bor.tag0 {σV : L2.St} {v : V} {d : D} : Bor σV v (.fz d) := fun i e => by cases e
/-- Go's answer from what is wanted -/
theorem go_of {o : O} {κ : Cells} {w : Wd} {H H₀ : Hp} {σV : L2.St} {Q : V → Hp → Prop} {W' : XW} {w₀ : Wd} (x : Ext w₀ H₀ w H) (p : Post T w H (.ok (o, κ)) W' (GE T H₀ σV Q)) (ht : o.tag = none) : Go T w H κ o Q := fun w' H' e k v hv y =>
  p w' H' e k v hv (fun i z => by rw [ht] at z; cases z) fun _ pl a ea => x.dom a (y pl a ea)

abbrev PEok (T : Tb) (S : Sg) (Γ : Cxt) (N : List Str) (n : Nat) (e : E) : Prop := ∀ sc x X W, isE S N none e sc x = true → XG T S Γ N n sc X → Takes X W → PE X x (tE T Γ e W)
abbrev PTok (T : Tb) (S : Sg) (Γ : Cxt) (N : List Str) (n : Nat) (e : E) : Prop := ∀ sc x X W, isE S N none e sc x = true → XG T S Γ N n sc X → Takes X W → PT X x (tT T Γ e W)
abbrev PAok (T : Tb) (S : Sg) (Γ : Cxt) (N : List Str) (n : Nat) (e : E) : Prop := ∀ sc xs X W, isEs S N none e sc xs = true → XG T S Γ N n sc X → Takes X W → PA X xs (tA T Γ e W)

theorem vis_of {x : Str} (h : visB sc x = true) : Vis sc x := by
  unfold visB at h
  unfold Vis
  cases e : sc.names.lookup x with
  | none => (rw [e] at h; cases h)
  | some k => rw [e] at h; cases k <;> simp_all
theorem gl_of {x : Str} (h : glB sc x = true) (e : X.env.scope = sc) : Gl X x := by
  unfold glB at h
  unfold Gl Env.kindOf
  rw [e]
  cases q : sc.names.lookup x with
  | none => rw [q] at h; cases h
  | some k => rw [q] at h; cases k <;> simp_all
theorem dbg_of {x : Str} (h : notDbg x = true) : (x == ("__debug__" : Str)) = false ∧ (x == ("__classdict__" : Str)) = false ∧ x ≠ ("__name__" : Str) := by
  unfold notDbg at h
  simp only [Bool.and_eq_true, Bool.not_eq_true', decide_eq_true_eq] at h
  exact ⟨h.1.1, h.1.2, h.2⟩
theorem notStar {S : Sg} {N : List Str} {h : Option (Str × List Str)} {e : E} {sc : Scope} {x : Expr} (q : isE S N h e sc x = true) (env : Env) (es : List Expr) : starEach (x :: es) env = (false, eval x env) :: starEach es env := by
  cases x <;> first | rfl | (cases e <;> simp [isE] at q)
theorem plain_star {S : Sg} {N : List Str} {h : Option (Str × List Str)} {pos : Pos} {env : Env} : ∀ {e : E} {sc : Scope} {xs : List Expr}, isEs S N h e sc xs = true → (backTo pos (starEach xs env)).any (·.1) = false
  | .cons e es, sc, x :: xs, q => by
    simp only [isEs, Bool.and_eq_true] at q
    rw [notStar q.1]
    simp only [backTo, List.map_cons, List.any_cons, Bool.false_or]
    exact plain_star q.2
  | .nil, sc, [], q => rfl
  | .nil, sc, _ :: _, q => by simp [isEs] at q
  | .cons _ _, sc, [], q => by simp [isEs] at q
  | .var _, _, _, q => by simp [isEs] at q
  | .cst _, _, _, q => by simp [isEs] at q
  | .gcn _, _, _, q => by simp [isEs] at q
  | .tup _, _, _, q => by simp [isEs] at q
  | .lst _, _, _, q => by simp [isEs] at q
  | .dic _ _, _, _, q => by simp [isEs] at q
  | .bin _ _ _, _, _, q => by simp [isEs] at q
  | .neg _, _, _, q => by simp [isEs] at q
  | .not _, _, _, q => by simp [isEs] at q
  | .and _ _, _, _, q => by simp [isEs] at q
  | .or _ _, _, _, q => by simp [isEs] at q
  | .cmp _ _ _, _, _, q => by simp [isEs] at q
  | .chain _ _ _ _ _, _, _, q => by simp [isEs] at q
  | .ite _ _ _, _, _, q => by simp [isEs] at q
  | .idx _ _, _, _, q => by simp [isEs] at q
  | .slc _ _ _, _, _, q => by simp [isEs] at q
  | .rev _, _, _, q => by simp [isEs] at q
  | .fld _ _, _, _, q => by simp [isEs] at q
  | .exf _, _, _, q => by simp [isEs] at q
  | .isi _ _ _, _, _, q => by simp [isEs] at q
  | .call _ _, _, _, q => by simp [isEs] at q
  | .blt1 _ _, _, _, q => by simp [isEs] at q
  | .blt2 _ _ _, _, _, q => by simp [isEs] at q
  | .get _ _ _, _, _, q => by simp [isEs] at q
  | .items _, _, _, q => by simp [isEs] at q
  | .join _ _, _, _, q => by simp [isEs] at q
  | .make _ _, _, _, q => by simp [isEs] at q
  | .eqo _ _, _, _, q => by simp [isEs] at q
  | .cell _ _, _, _, q => by simp [isEs] at q
  | .lrng _, _, _, q => by simp [isEs] at q
  | .comp _ _ _ _ _, _, _, q => by simp [isEs] at q
  | .comp2 _ _ _ _ _ _ _ _, _, _, q => by simp [isEs] at q
  | .walk _, _, _, q => by simp [isEs] at q
  | .rng1 _, _, _, q => by simp [isEs] at q
  | .rng2 _ _, _, _, q => by simp [isEs] at q
  | .zip _ _, _, _, q => by simp [isEs] at q
  | .enum _, _, _, q => by simp [isEs] at q
/-! ### names, constants -/
theorem pe_var_ok (i : Nat) : PEok T S Γ N n (.var i) := by
  intro sc x X W q g tk
  cases x <;> simp only [isE, Bool.and_eq_true, decide_eq_true_eq, Bool.false_eq_true] at q
  obtain ⟨⟨q1, q2⟩, q3⟩ := q
  have q3 := dbg_of q3
  refine peI (pe_var (i := i) (by rw [g.hN]; exact q1) (by rw [g.hsc]; exact vis_of q2) q3.1 q3.2.1) fun σV H Q h => ?_
  obtain ⟨w, σ, κ, hw, hs, p⟩ := h
  unfold ev at p
  split at p
  · rename_i o eo
    obtain ⟨v, ev', hv⟩ := hs.at_ i o eo
    refine ⟨v, ev', p.ok hw v (hv.retag i) (fun j e => ?_) fun e pl => ?_⟩
    · have : j = i := by cases o <;> simp [O.read, O.tag] at e <;> exact e.symm
      subst this
      exact ev'
    · cases o <;> simp [O.read, O.tag, O.place] at e pl
  · exact p.elim
theorem pe_cst_ok (d : D) : PEok T S Γ N n (.cst d) := by
  intro sc x X W q g tk
  cases x <;> simp only [isE, Bool.false_eq_true] at q
  rename_i c j pos
  have fin : ∀ {v : V}, (∀ w, RV T w v d) → ∀ σV H Q, tE T Γ (.cst d) W σV H Q → tC v σV H Q := fun {v} hv σV H Q h => by
    obtain ⟨w, σ, κ, hw, hs, p⟩ := h
    exact GE.fz (p.ok hw) (hv w)
  cases d <;> cases c <;> simp only [constB, beq_iff_eq, decide_eq_true_eq, Bool.false_eq_true] at q
  · exact peI pe_non (fin fun _ => .non)
  · subst q; exact peI pe_bl (fin fun _ => .bl _)
  · subst q; exact peI pe_int (fin fun _ => .int _)
  · subst q; exact peI pe_str (fin fun _ => .str _)
theorem pe_gcn_ok (i : Nat) : PEok T S Γ N n (.gcn i) := by
  intro sc x X W q g tk
  cases x <;> simp only [isE, Bool.and_eq_true, decide_eq_true_eq, Bool.false_eq_true] at q
  obtain ⟨⟨q1, q2⟩, q3⟩ := q
  have q3 := dbg_of q3
  cases ed : Γ.gl[i]? with
  | none =>
    refine ⟨fun pins s σV H Q I h => ?_⟩
    obtain ⟨w, σ, κ, hw, hs, p⟩ := h
    unfold ev at p
    rw [ed] at p
    exact p.elim
  | some d =>
    obtain ⟨u, v, hm, r, hv⟩ := g.gl i _ d q1 ed
    refine peI (pe_glob (gl_of q2 g.hsc) hm r q3.1) fun σV H Q h => ?_
    obtain ⟨w, σ, κ, hw, hs, p⟩ := h
    unfold ev at p
    rw [ed] at p
    exact GE.fz (Post.ok (r := (O.fz d, κ)) p hw) (hv w)
theorem pa_nil_ok : PAok T S Γ N n .nil := by
  intro sc xs X W q g tk
  cases xs with
  | cons _ _ => simp [isEs] at q
  | nil =>
    refine paI pa_nil fun σV H Q h => ?_
    obtain ⟨w, σ, κ, hw, hs, p⟩ := h
    unfold evs at p
    exact p.ok hw [] .nil
theorem pa_cons_ok {e es : E} (he : PEok T S Γ N n e) (hes : PAok T S Γ N n es) : PAok T S Γ N n (.cons e es) := by
  intro sc xs X W q g tk
  cases xs with
  | nil => simp [isEs] at q
  | cons x xs =>
    simp only [isEs, Bool.and_eq_true] at q
    refine paI (pa_cons (he sc x X W q.1 g tk) (hes sc xs X W q.2 g tk) (notStar q.1 X.env xs)) fun σV H Q h => ?_
    obtain ⟨w, σ, κ, hw, hs, p⟩ := h
    unfold evs at p
    refine tE_bind hw hs p fun r w1 H1 v er e k hs1 hv hb hy p => ?_
    obtain ⟨d, ed, p⟩ := p.opt
    have ht : r.1.tag = none := by
      obtain ⟨o, κ'⟩ := r
      cases o with
      | fz d => rfl
      | ol b xs => cases b with | none => rfl | some i => simp [O.frz] at ed
      | od b xs => cases b with | none => rfl | some i => simp [O.frz] at ed
      | ot b xs => cases b with | none => rfl | some i => simp [O.frz] at ed
    obtain ⟨w2, k2, e2, l2, rv⟩ := hv.give k ed e (hy ht)
    refine ⟨w2, σ, r.2, k2, hs.ext e2, (p.step e2).bind.imp fun r2 w3 H3 er2 e3 k3 p3 vs hvs => ?_⟩
    split at p3
    · exact Post.ok (r := (d :: r2.1, r2.2)) p3 k3 _ (.cons (rv.mono e3.le) hvs)
    · exact p3.elim
end
end R

/-! R9: expressions, continued. -/
namespace R
open L2 PyProof.Rows PySem.Spec PySem
section
variable {T : Tb} {S : Sg} {Γ : Cxt} {N : List Str} {n : Nat}
/-- from a list's parts -/
theorem tA_bind {es : E} {σV : L2.St} {H : Hp} {w : Wd} {σ : Sl} {κ : Cells} {W : WX} {α : Type} {f : List D × Cells → Out (α × Cells)} {G : α × Cells → Wd → Hp → Prop} {Q : List V → Hp → Prop}
    (hw : Wok T w H κ) (hs : RS T w H σV σ) (p : Post T w H ((evs Γ es σ κ).bind f) (fun c d H' => W c d σV H') G)
    (h : ∀ r w' H' vs, evs Γ es σ κ = .ok r → Ext w H w' H' → Wok T w' H' r.2 → RS T w' H' σV σ → RVs T w' vs r.1 → Post T w H (f r) (fun c d H' => W c d σV H') G → Q vs H') : tA T Γ es W σV H Q := by
  refine ⟨w, σ, κ, hw, hs, ?_⟩
  cases er : evs Γ es σ κ with
  | ok r => rw [er] at p; exact fun w' H' e k vs hv => h r w' H' vs er e k (hs.ext e) hv p
  | exc c fs k => rw [er] at p; exact p
  | bad => rw [er] at p; exact p
theorem evs_len : ∀ {e : E} {σ : Sl} {κ : Cells} {r : List D × Cells}, evs Γ e σ κ = .ok r → r.1.length ≤ sizeLine := by
  intro e
  induction e with
  | nil => intro σ κ r h; unfold evs at h; cases h; exact Nat.zero_le _
  | cons e es _ ih =>
    intro σ κ r h
    unfold evs at h
    cases e1 : ev Γ e σ κ with
    | ok x =>
      rw [e1] at h
      simp only [Out.bind] at h
      cases e2 : x.1.frz with
      | none => rw [e2] at h; cases h
      | some d =>
        rw [e2] at h
        simp only [opt] at h
        cases e3 : evs Γ es σ x.2 with
        | ok y =>
          rw [e3] at h
          simp only at h
          split at h
          · cases h; show y.1.length + 1 ≤ sizeLine; omega
          · cases h
        | exc c fs k => rw [e3] at h; cases h
        | bad => rw [e3] at h; cases h
    | exc c fs k => rw [e1] at h; cases h
    | bad => rw [e1] at h; cases h
  | _ => intro σ κ r h; unfold evs at h; cases h
theorem pe_tup_ok {es : E} (hes : PAok T S Γ N n es) : PEok T S Γ N n (.tup es) := by
  intro sc x X W q g tk
  cases x <;> simp only [isE, Bool.false_eq_true] at q
  refine peI (pe_tup (hes sc _ X W q g tk)) fun σV H Q h => ?_
  obtain ⟨w, σ, κ, hw, hs, p⟩ := h
  unfold ev at p
  refine tA_bind hw hs p fun r w1 H1 vs er e k hs1 hv p => ⟨by rw [hv.length]; exact evs_len er, fun a ha => ?_⟩
  have z := k.laid (.tup vs) ha
  exact GE.fz (p _ _ (e.trans z.2) z.1) (.tup (.inl (.inl (by show upd _ _ _ _ = _; exact upd_same))) (hv.mono (le_put _ (k.noF ha))))
theorem pe_lst_ok {es : E} (hes : PAok T S Γ N n es) : PEok T S Γ N n (.lst es) := by
  intro sc x X W q g tk
  cases x <;> simp only [isE, Bool.false_eq_true] at q
  refine peI (pe_lst (hes sc _ X W q g tk)) fun σV H Q h => ?_
  obtain ⟨w, σ, κ, hw, hs, p⟩ := h
  unfold ev at p
  refine tA_bind hw hs p fun r w1 H1 vs er e k hs1 hv p => ⟨by rw [hv.length]; exact evs_len er, fun a ha => ?_⟩
  have z := k.own (.lst vs) ha
  exact GE.own (p _ _ (e.trans z.2) z.1) upd_same hv (k.offθ ha) (k.noF ha) (e.dom a ha)
theorem bin_tag {op : Bop} {x y : D} {o : O} (h : binD op x y = some o) : o.tag = none := by
  unfold binD at h
  split at h <;> first | (cases h; rfl) | (split at h <;> first | (cases h; rfl) | cases h) | cases h
theorem pe_bin_ok (op : Bop) {a b : E} (ha : PEok T S Γ N n a) (hb : PEok T S Γ N n b) : PEok T S Γ N n (.bin op a b) := by
  intro sc x X W q g tk
  cases x <;> simp only [isE, Bool.and_eq_true, decide_eq_true_eq, Bool.false_eq_true] at q
  obtain ⟨⟨rfl, q1⟩, q2⟩ := q
  refine peI (pe_op (op_bin g.hK op) (ha sc _ X W q1 g tk) (hb sc _ X W q2 g tk)) fun σV H Q h => ?_
  obtain ⟨w, σ, κ, hw, hs, p⟩ := h
  unfold ev at p
  refine tE_bind hw hs p fun r w1 H1 v er e k hs1 hv hbr hy p => ?_
  refine tE_bind k hs1 (p.step e) fun r2 w2 H2 v2 er2 e2 k2 hs2 hv2 hbr2 hy2 p2 => ?_
  obtain ⟨o, eo, p3⟩ := (p2.step e2).opt
  exact ⟨w2, r2.2, r.1, r2.1, o, k2, hv.ext e2, hv2, eo, go_of (e.trans e2) p3 (bin_tag eo)⟩
theorem pe_neg_ok {a : E} (ha : PEok T S Γ N n a) : PEok T S Γ N n (.neg a) := by
  intro sc x X W q g tk
  cases x <;> try (simp [isE] at q; done)
  rename_i op y pos
  cases op <;> try (simp [isE] at q; done)
  refine peI (pe_un un_neg (ha sc _ X W q g tk)) fun σV H Q h => ?_
  obtain ⟨w, σ, κ, hw, hs, p⟩ := h
  unfold ev at p
  refine tE_bind hw hs p fun r w1 H1 v er e k hs1 hv hbr hy p => ?_
  obtain ⟨d, ed, p3⟩ := (p.step e).opt
  generalize ex : r.1.d = dx at ed
  unfold negD at ed
  split at ed
  · cases ed; cases rd_int hv ex
    exact ⟨_, rfl, GE.fz (p3.ok k) (.int _)⟩
  · cases ed
theorem pe_not_ok {a : E} (ha : PEok T S Γ N n a) : PEok T S Γ N n (.not a) := by
  intro sc x X W q g tk
  cases x <;> try (simp [isE] at q; done)
  rename_i op y pos
  cases op <;> try (simp [isE] at q; done)
  refine peI (pe_notT (ha sc _ X W q g tk)) fun σV H Q h => ?_
  obtain ⟨w, σ, κ, hw, hs, p⟩ := h
  unfold ev at p
  refine tE_bind hw hs p fun r w1 H1 v er e k hs1 hv hbr hy p => ?_
  obtain ⟨b, eb, p3⟩ := (p.step e).opt
  exact ⟨b, tru_D g.hK k hv eb, GE.fz (p3.ok k) (.bl _)⟩
/-- and, or: by the list's length -/
theorem pe_and_ok {a b : E} (ha : PEok T S Γ N n a) (hb : PEok T S Γ N n b) : PEok T S Γ N n (.and a b) := by
  intro sc x X W q g tk
  have fin : ∀ {tb : TE}, (∀ σ H Q, tE T Γ b W σ H Q → tb σ H Q) → ∀ σV H Q, tE T Γ (.and a b) W σV H Q → tAndT X.K (tE T Γ a W) tb σV H Q := fun {tb} hm σV H Q h => by
    obtain ⟨w, σ, κ, hw, hs, p⟩ := h
    unfold ev at p
    refine tE_bind hw hs p fun r w1 H1 v er e k hs1 hv hbr hy p => ?_
    obtain ⟨c, ec, p3⟩ := p.opt
    refine ⟨c, tru_D g.hK k hv ec, ?_⟩
    cases c with
    | true => exact hm _ _ _ ⟨w1, σ, r.2, k, hs1, (p3.step e).imp fun r2 w2 H2 er2 e2 k2 g2 v2 hv2 hb2 hy2 => g2 v2 hv2 hb2 fun ht pl a' ea => e.dom a' (hy2 ht pl a' ea)⟩
    | false => exact (p3.step e).ok k v hv hbr hy
  cases x <;> try (simp [isE] at q; done)
  rename_i op ys pos
  cases op <;> try (simp [isE] at q; done)
  match ys, q with
  | [x1, y1], q =>
    simp only [isE, Bool.and_eq_true] at q
    exact peI (pe_andT (ha sc _ X W q.1 g tk) (pe_one (hb sc _ X W q.2 g tk))) (fin fun _ _ _ z => z)
  | x1 :: y1 :: z1 :: r, q =>
    simp only [isE, Bool.and_eq_true] at q
    exact peI (pe_andT (ha sc _ X W q.1 g tk) (hb sc _ X W q.2 g tk)) (fin fun _ _ _ z => z)
  | [], q => simp [isE] at q
  | [_], q => simp [isE] at q
theorem pe_or_ok {a b : E} (ha : PEok T S Γ N n a) (hb : PEok T S Γ N n b) : PEok T S Γ N n (.or a b) := by
  intro sc x X W q g tk
  have fin : ∀ {tb : TE}, (∀ σ H Q, tE T Γ b W σ H Q → tb σ H Q) → ∀ σV H Q, tE T Γ (.or a b) W σV H Q → tOrT X.K (tE T Γ a W) tb σV H Q := fun {tb} hm σV H Q h => by
    obtain ⟨w, σ, κ, hw, hs, p⟩ := h
    unfold ev at p
    refine tE_bind hw hs p fun r w1 H1 v er e k hs1 hv hbr hy p => ?_
    obtain ⟨c, ec, p3⟩ := p.opt
    refine ⟨c, tru_D g.hK k hv ec, ?_⟩
    cases c with
    | false => exact hm _ _ _ ⟨w1, σ, r.2, k, hs1, (p3.step e).imp fun r2 w2 H2 er2 e2 k2 g2 v2 hv2 hb2 hy2 => g2 v2 hv2 hb2 fun ht pl a' ea => e.dom a' (hy2 ht pl a' ea)⟩
    | true => exact (p3.step e).ok k v hv hbr hy
  cases x <;> try (simp [isE] at q; done)
  rename_i op ys pos
  cases op <;> try (simp [isE] at q; done)
  match ys, q with
  | [x1, y1], q =>
    simp only [isE, Bool.and_eq_true] at q
    exact peI (pe_orT (ha sc _ X W q.1 g tk) (pe_one (hb sc _ X W q.2 g tk))) (fin fun _ _ _ z => z)
  | x1 :: y1 :: z1 :: r, q =>
    simp only [isE, Bool.and_eq_true] at q
    exact peI (pe_orT (ha sc _ X W q.1 g tk) (hb sc _ X W q.2 g tk)) (fin fun _ _ _ z => z)
  | [], q => simp [isE] at q
  | [_], q => simp [isE] at q
theorem notSet_of {e : E} {sc : Scope} {x : Expr} {h : Option (Str × List Str)} (q : isE S N h e sc x = true) : notSet x = true := by
  cases x <;> first | rfl | (cases e <;> simp [isE] at q)
theorem marks_of {op : CmpOp} {x : Expr} (h : notSet x = true) : behindInMarks op x = false := by
  cases x <;> first | rfl | cases h
theorem pe_cmp_ok (op : Cop) {a b : E} (ha : PEok T S Γ N n a) (hb : PEok T S Γ N n b) : PEok T S Γ N n (.cmp op a b) := by
  intro sc x X W q g tk
  cases x <;> try (simp [isE] at q; done)
  rename_i l ops cs pos
  match ops, cs, q with
  | [o], [r], q =>
    simp only [isE, Bool.and_eq_true, decide_eq_true_eq] at q
    obtain ⟨⟨rfl, q1⟩, q2⟩ := q
    refine peI (pe_cmpR (op_cmp g.hK g.hu op) (ha sc _ X W q1 g tk) (hb sc _ X W q2 g tk) (marks_of (notSet_of q2))) fun σV H Q h => ?_
    obtain ⟨w, σ, κ, hw, hs, p⟩ := h
    unfold ev at p
    refine tE_bind hw hs p fun r w1 H1 v er e k hs1 hv hbr hy p => ?_
    refine tE_bind k hs1 (p.step e) fun r2 w2 H2 v2 er2 e2 k2 hs2 hv2 hbr2 hy2 p2 => ?_
    obtain ⟨o, eo, p3⟩ := (p2.step e2).opt
    exact ⟨w2, r2.2, r.1, r2.1, o, k2, hv.ext e2, hv2, eo, GE.fz (p3.ok k2) (.bl _)⟩
  | [], _, q => simp [isE] at q
  | _ :: _ :: _, _, q => simp [isE] at q
  | [_], [], q => simp [isE] at q
  | [_], _ :: _ :: _, q => simp [isE] at q
theorem pe_ite_ok {c a b : E} (hc : PTok T S Γ N n c) (ha : PEok T S Γ N n a) (hb : PEok T S Γ N n b) : PEok T S Γ N n (.ite c a b) := by
  intro sc x X W q g tk
  cases x <;> simp only [isE, Bool.and_eq_true, Bool.false_eq_true] at q
  obtain ⟨⟨q0, q1⟩, q2⟩ := q
  refine peI (pe_ifExp (hc sc _ X W q0 g tk) (ha sc _ X W q1 g tk) (hb sc _ X W q2 g tk)) fun σV H Q h => ?_
  obtain ⟨w, σ, κ, hw, hs, p⟩ := h
  unfold ev at p
  refine tT_bind hw hs (fun t r => if t then ev Γ a σ r.2 else ev Γ b σ r.2) (fun r => rfl) p fun r t w1 H1 er et e k hs1 p => ?_
  cases t with
  | true => exact ⟨w1, σ, r.2, k, hs1, Post.imp p fun r2 w2 H2 er2 e2 k2 g2 v2 hv2 hb2 hy2 => g2 v2 hv2 hb2 fun ht pl a' ea => e.dom a' (hy2 ht pl a' ea)⟩
  | false => exact ⟨w1, σ, r.2, k, hs1, Post.imp p fun r2 w2 H2 er2 e2 k2 g2 v2 hv2 hb2 hy2 => g2 v2 hv2 hb2 fun ht pl a' ea => e.dom a' (hy2 ht pl a' ea)⟩
theorem plainIx_of {e : E} {sc : Scope} {x : Expr} {h : Option (Str × List Str)} (q : isE S N h e sc x = true) : PlainIx x := by
  cases x <;> first | (intro o i; rfl) | (cases e <;> simp [isE] at q)
theorem pe_idx_ok {a i : E} (ha : PEok T S Γ N n a) (hi : PEok T S Γ N n i) : PEok T S Γ N n (.idx a i) := by
  intro sc x X W q g tk
  cases x <;> simp only [isE, Bool.and_eq_true, Bool.false_eq_true] at q
  have hu := g.hu
  refine peI (pe_ix (ix_D g.hK (by omega)) (ha sc _ X W q.1 g tk) (hi sc _ X W q.2 g tk) (plainIx_of q.2)) fun σV H Q h => ?_
  obtain ⟨w, σ, κ, hw, hs, p⟩ := h
  unfold ev at p
  refine tE_bind hw hs p fun r w1 H1 v er e k hs1 hv hbr hy p => ?_
  refine tE_bind k hs1 (p.step e) fun r2 w2 H2 v2 er2 e2 k2 hs2 hv2 hbr2 hy2 p2 => ?_
  obtain ⟨d, ed, p3⟩ := (p2.step e2).opt
  exact ⟨w2, r2.2, r.1, r2.1, d, k2, hv.ext e2, hv2, ed, fun z hz => GE.fz (p3.ok k2) hz⟩
/-! ### slices -/
/-- a part: left out, or an int, or None -/
theorem po_any {X : Cx} {e : Expr} {te : TE} (h : PE X e te) : PO X (some e) (fun σ H Q => te σ H fun x H1 => (∃ i, x = .int i ∧ Q (some i) H1) ∨ (x = .non ∧ Q none H1)) := by
  refine (⟨fun pins s σ H Q I hw => ?_⟩)
  rw [evalPart_some]
  refine (thn (h.run pins s σ H _ I hw) fun u s1 ⟨x, H1, I1, r1, q1⟩ => ?_)
  rcases q1 with ⟨i, rfl, q⟩ | ⟨rfl, q⟩
  · obtain ⟨t, rfl⟩ := r1
    exact (⟨some i, H1, I1, .int i t, q⟩)
  · cases r1
    exact ⟨none, H1, I1, .none, q⟩
def tO (T : Tb) (Γ : Cxt) (e : E) (W : WX) : TO := fun σV H Q => ∃ w σ κ, Wok T w H κ ∧ RS T w H σV σ ∧ Post T w H (ev Γ e σ κ) (fun c d H' => W c d σV H') (fun r w' H' => ∃ o, boundD r.1 = some o ∧ Q o H')
theorem po_ok {e : E} (he : PEok T S Γ N n e) {sc : Scope} {l : Option Expr} {X : Cx} {W : WX} (q : (match l with | none => noPart e | some y => isE S N none e sc y) = true) (g : XG T S Γ N n sc X) (tk : Takes X W) : PO X l (tO T Γ e W) := by
  cases l with
  | none =>
    cases e <;> simp only [noPart, Bool.false_eq_true] at q
    rename_i d
    cases d <;> simp only [noPart, Bool.false_eq_true] at q
    refine ⟨fun pins s σV H Q I h => po_none.run pins s σV H Q I ?_⟩
    obtain ⟨w, σ, κ, hw, hs, p⟩ := h
    unfold ev at p
    obtain ⟨o, eo, qo⟩ := p.ok hw
    cases eo
    exact qo
  | some y =>
    refine ⟨fun pins s σV H Q I h => (po_any (he sc y X W q g tk)).run pins s σV H Q I ?_⟩
    obtain ⟨w, σ, κ, hw, hs, p⟩ := h
    refine ⟨w, σ, κ, hw, hs, p.imp fun r w1 H1 er e k go v hv _ _ => ?_⟩
    obtain ⟨o, eo, qo⟩ := go
    generalize ex : r.1 = ox at eo hv
    unfold boundD at eo
    split at eo
    · cases eo; cases hv; exact .inr ⟨rfl, qo⟩
    · cases eo; cases hv; exact .inl ⟨_, rfl, qo⟩
    · cases eo
theorem slc_tag {lo hi : Option Int} {x : D} {o : O} (h : slcD lo hi x = some o) : o.tag = none := by
  unfold slcD at h
  split at h <;> first | (cases h; rfl) | (split at h <;> first | (cases h; rfl) | cases h) | cases h
theorem pe_slc_ok {a lo hi : E} (ha : PEok T S Γ N n a) (hl : PEok T S Γ N n lo) (hh : PEok T S Γ N n hi) : PEok T S Γ N n (.slc a lo hi) := by
  intro sc x X W q g tk
  cases x <;> try (simp [isE] at q; done)
  rename_i y sl pos
  cases sl <;> try (simp [isE] at q; done)
  rename_i l u st p2
  cases st <;> try (simp [isE] at q; done)
  simp only [isE, Bool.and_eq_true] at q
  obtain ⟨⟨q0, q1⟩, q2⟩ := q
  refine peI (pe_slice (sl_D g.hK) (ha sc _ X W q0 g tk) (po_ok hl q1 g tk) (po_ok hh q2 g tk)) fun σV H Q h => ?_
  obtain ⟨w, σ, κ, hw, hs, p⟩ := h
  unfold ev at p
  refine tE_bind hw hs p fun r w1 H1 v er e k hs1 hv hbr hy p => ?_
  refine ⟨w1, σ, r.2, k, hs1, (p.step e).bind.imp fun r2 w2 H2 er2 e2 k2 p2 => ?_⟩
  obtain ⟨o1, eo1, p3⟩ := p2.opt
  refine ⟨o1, eo1, w2, σ, r2.2, k2, hs1.ext e2, p3.bind.imp fun r3 w3 H3 er3 e3 k3 p3 => ?_⟩
  obtain ⟨o2, eo2, p4⟩ := p3.opt
  obtain ⟨o3, eo3, p5⟩ := p4.opt
  exact ⟨o2, eo2, w3, r3.2, r.1, o3, k3, (hv.ext e2).ext e3, eo3, go_of ((e.trans e2).trans e3) p5 (slc_tag eo3)⟩
/-! ### built-ins -/
theorem XG.bi_of {X : Cx} {sc : Scope} (g : XG T S Γ N n sc X) (x : Str) (h : x ∈ biNames := by decide +kernel) : X.mg x = none := g.bi x h
theorem map_tag {α : Type} {f : α → O} {x : Option α} {o : O} (h : x.map f = some o) (hf : ∀ a, (f a).tag = none) : o.tag = none := by
  rw [Option.map_eq_some_iff] at h
  obtain ⟨a, _, rfl⟩ := h
  exact hf a
theorem blt_tag {b : Blt} {x o : O} (h : blt1D b x = some o) : o.tag = none := by
  generalize ed : x.d = dx at *
  have key : ∀ dx', x.d = dx' → o.tag = none := fun dx' e' => by
    cases b <;> simp only [blt1D, e'] at h <;> cases dx' <;> (try simp only [reduceCtorEq] at h) <;> first
      | (cases h; rfl)
      | exact map_tag h fun _ => rfl
      | (split at h <;> first | (cases h; rfl) | cases h)
      | (injection h with h; subst h; rfl)
  exact key _ ed
theorem pe_blt1_ok (b : Blt) {a : E} (ha : PEok T S Γ N n a) : PEok T S Γ N n (.blt1 b a) := by
  intro sc x X W q g tk
  have hu := g.hu
  cases x <;> try (simp [isE] at q; done)
  rename_i fn args kws pos
  cases fn <;> try (simp [isE] at q; done)
  rename_i nm np
  match args, kws, q with
  | [y], [], q =>
    simp only [isE, Bool.and_eq_true, decide_eq_true_eq] at q
    obtain ⟨⟨⟨rfl, q1⟩, q2⟩, q9⟩ := q
    have hgl := gl_of q1 g.hsc
    have hpa : PA X [y] (tCons (tE T Γ a W) tNil) := pa_cons (ha sc _ X W q2 g tk) pa_nil (notStar q2 X.env [])
    have fin : ∀ σV H Q, tE T Γ (.blt1 b a) W σV H Q → tCB (rB1 T b) (tCons (tE T Γ a W) tNil) σV H Q := fun σV H Q h => by
      obtain ⟨w, σ, κ, hw, hs, p⟩ := h
      unfold ev at p
      refine tE_bind hw hs p fun r w1 H1 v er e k hs1 hv hbr hy p => ?_
      obtain ⟨o, eo, p3⟩ := (p.step e).opt
      exact ⟨v, w1, r.2, r.1, o, rfl, k, hv, eo, go_of e p3 (blt_tag eo)⟩
    have st : starEach (y :: []) X.env = (false, eval y X.env) :: starEach [] X.env := notStar q2 X.env []
    cases b with
    | len => exact peI (pe_callB (cr_lenD g.hK) hgl (g.bi_of _) boot_len hpa (by decide) (by decide) st) fin
    | all => exact peI (pe_callB (cr_allD g.calm) hgl (g.bi_of _) (by decide +kernel) hpa (by decide) (by decide) st) fin
    | any => exact peI (pe_callB (cr_anyD g.calm) hgl (g.bi_of _) (by decide +kernel) hpa (by decide) (by decide) st) fin
    | tuple => exact peI (pe_callTy (cr_tupleD g.hK) hgl (g.bi_of _) (by decide +kernel) hpa (by decide) (by decide) st) fin
    | list => exact peI (pe_callTy (cr_listD g.hK) hgl (g.bi_of _) (by decide +kernel) hpa (by decide) (by decide) st) fin
    | repr => exact peI (pe_callB (cr_reprD g.hK g.gd hu) hgl (g.bi_of _) (by decide +kernel) hpa (by decide) (by decide) st) fin
    | abs => exact peI (pe_callB cr_absD hgl (g.bi_of _) (by decide +kernel) hpa (by decide) (by decide) st) fin
    | int => exact peI (pe_callTy cr_intD hgl (g.bi_of _) (by decide +kernel) hpa (by decide) (by decide) st) fin
    | str => exact peI (pe_callTy cr_strD hgl (g.bi_of _) (by decide +kernel) hpa (by decide) (by decide) st) fin
    | sum => exact peI (pe_callB (cr_sumD g.calm) hgl (g.bi_of _) (by decide +kernel) hpa (by decide) (by decide) st) fin
    | _ => cases q9
  | [], _, q => simp [isE] at q
  | _ :: _ :: _, _, q => simp [isE] at q
  | [_], _ :: _, q => simp [isE] at q
theorem pe_blt2_ok (b : Blt) {a a' : E} (ha : PEok T S Γ N n a) (ha' : PEok T S Γ N n a') : PEok T S Γ N n (.blt2 b a a') := by
  intro sc x X W q g tk
  cases x <;> try (simp [isE] at q; done)
  rename_i fn args kws pos
  cases fn <;> try (simp [isE] at q; done)
  rename_i nm np
  match args, kws, q with
  | [y, z], [], q =>
    simp only [isE, Bool.and_eq_true, decide_eq_true_eq] at q
    obtain ⟨⟨⟨⟨⟨rfl, q1⟩, q2⟩, q3⟩, q4⟩, q9⟩ := q
    have hgl := gl_of q1 g.hsc
    have st2 := notStar q3 X.env []
    have hpa : PA X [y, z] (tCons (tE T Γ a W) (tCons (tE T Γ a' W) tNil)) := pa_cons (ha sc _ X W q2 g tk) (pa_cons (ha' sc _ X W q3 g tk) pa_nil st2) (notStar q2 X.env [z])
    have fin : ∀ σV H Q, tE T Γ (.blt2 b a a') W σV H Q → tCB (rB2 T b) (tCons (tE T Γ a W) (tCons (tE T Γ a' W) tNil)) σV H Q := fun σV H Q h => by
      obtain ⟨w, σ, κ, hw, hs, p⟩ := h
      unfold ev at p
      refine tE_bind hw hs p fun r w1 H1 v er e k hs1 hv hbr hy p => ?_
      refine tE_bind k hs1 (p.step e) fun r2 w2 H2 v2 er2 e2 k2 hs2 hv2 hbr2 hy2 p2 => ?_
      obtain ⟨d, ed, p3⟩ := (p2.step e2).opt
      exact ⟨v, v2, w2, r2.2, r.1, r2.1, d, rfl, k2, hv.ext e2, hv2, ed, fun z hz => GE.fz (p3.ok k2) hz⟩
    have st : starEach (y :: [z]) X.env = (false, eval y X.env) :: starEach [z] X.env := notStar q2 X.env [z]
    have pl : (backTo pos (starEach [z] X.env)).any (·.1) = false := by rw [st2]; rfl
    cases b with
    | max => exact peI (pe_callB (cr_maxD g.calm) hgl (g.bi_of _) (by decide +kernel) hpa (by decide) (by decide) st pl) fin
    | min => exact peI (pe_callB (cr_minD g.calm) hgl (g.bi_of _) (by decide +kernel) hpa (by decide) (by decide) st pl) fin
    | gcd =>
      have q5 : S.gcd = true := by simpa using q4
      exact peI (pe_callBfun cr_gcdD hgl (g.gcd q5) hpa (by decide) st pl) fin
    | _ => cases q9
  | [], _, q => simp [isE] at q
  | [_], _, q => simp [isE] at q
  | _ :: _ :: _ :: _, _, q => simp [isE] at q
  | [_, _], _ :: _, q => simp [isE] at q
end
end R

/-! R10: walks, comprehensions. -/
namespace R
open L2 PyProof.Rows PySem.Spec PySem
/-- J walks the values xs, wherever Keep holds -/
def WalkD (T : Tb) (J : It) (xs : List D) (Keep : Wd → Hp → Prop) : Prop := ∀ w H κ, Wok T w H κ → Keep w H →
  (∀ i, i < xs.length → J.go i H ∧ ∀ v H2, J.yld i H v H2 → ∃ w2 d, xs[i]? = some d ∧ Ext w H w2 H2 ∧ Wok T w2 H2 κ ∧ RV T w2 v d) ∧ J.stop xs.length H
/-- Keep lasts: by expressions; where the borrowed slots are only read -/
structure Lasts (T : Tb) (w : Wd) (H : Hp) (σV : L2.St) (σ : Sl) (bs : List Nat) (Keep : Wd → Hp → Prop) : Prop where
  ext : ∀ w' H', Ext w H w' H' → Same w'.F H' → Keep w' H'
  slots : ∀ w' H' σV' σ', Le w w' → Same w'.F H' → RS T w' H' σV' σ' → (∀ i ∈ bs, σV'[i]? = σV[i]? ∧ ∃ o, σ[i]? = some (some o) ∧ σ'[i]? = some (some (o.read i))) → Keep w' H'
def GI (T : Tb) (σV : L2.St) (σ : Sl) (R : It → Hp → Prop) : (List D × List Nat) × Cells → Wd → Hp → Prop := fun r w H => ∀ J Keep, Keep w H → WalkD T J r.1.1 Keep → Lasts T w H σV σ r.1.2 Keep → R J H
def tI (T : Tb) (Γ : Cxt) (e : E) (W : WX) : TI := fun σV H R => ∃ w σ κ, Wok T w H κ ∧ RS T w H σV σ ∧ Post T w H (evIt Γ e σ κ) (fun c d H' => W c d σV H') (GI T σV σ R)
theorem PI.or {X : Cx} {tg e : Expr} {a b : TI} (h : PI X tg e a) (k : PI X tg e b) : PI X tg e (fun σ H R => a σ H R ∨ b σ H R) := ⟨fun pins s σ H R I q => q.elim (h.run pins s σ H R I) (k.run pins s σ H R I)⟩
section
variable {T : Tb} {S : Sg} {Γ : Cxt} {N : List Str} {n : Nat} {w : Wd} {H : Hp} {κ : Cells} {σV : L2.St} {σ : Sl}
/-- a list or tuple, as it is read -/
structure SqRd (T : Tb) (k : Bool) (w : Wd) (H : Hp) (a : Addr) (ds : List D) : Prop where
  at_ : ∃ vs, SqA k T.K H a vs ∧ RVs T w vs ds
theorem sq_fz {v : V} {d : D} {ds : List D} (le : Same w.F H) (h : RV T w v d) (e : seqD d = some ds) : ∃ a k, v = .ref a ∧ SqRd T k w H a ds ∧ ∀ w' H', Le w w' → Same w'.F H' → SqRd T k w' H' a ds := by
  cases d <;> simp only [seqD, reduceCtorEq, Option.some.injEq] at e
  · subst e
    cases h with
    | tup q r => exact ⟨_, false, rfl, ⟨_, sqT_mono le q, r⟩, fun w' H' l sm => ⟨_, sqT_mono (l.F.trans sm) q, r.mono l⟩⟩
  · subst e
    cases h with
    | lst q r => exact ⟨_, true, rfl, ⟨_, SqL.of (le _ _ q), r⟩, fun w' H' l sm => ⟨_, SqL.of (sm _ _ (l.F _ _ q)), r.mono l⟩⟩
  · subst e
    cases h with
    | scr q r => exact ⟨_, true, rfl, ⟨_, le.seq q, r⟩, fun w' H' l sm => ⟨_, (l.F.trans sm).seq q, r.mono l⟩⟩
/-- giving away changes no other value -/
theorem RO.give2 {v : V} {o : O} {d : D} (h : RO T w H v o) (k : Wok T w H κ) (e : o.frz = some d) {w₀ : Wd} {H₀ : Hp} (x : Ext w₀ H₀ w H) (y : Young H₀ v o) :
    ∃ w', Wok T w' H κ ∧ Ext w₀ H₀ w' H ∧ (Le w w' ∧ w'.θ = w.θ) ∧ RV T w' v d ∧ ∀ v' o', RO T w H v' o' → (o.place = true → o'.place = true → v' ≠ v) → RO T w' H v' o' := by
  cases hp : o.place with
  | false =>
    cases o with
    | fz d' => cases e; exact ⟨w, k, x, ⟨Le.rfl' w, rfl⟩, h, fun v' o' h' _ => h'⟩
    | _ => cases hp
  | true =>
    obtain ⟨a, u, rfl, h1, n1, f1⟩ := h.addr hp
    have key : ∀ {c : HO}, H a = some c → RV T (w.put a c) (.ref a) d → ∃ w', Wok T w' H κ ∧ Ext w₀ H₀ w' H ∧ (Le w w' ∧ w'.θ = w.θ) ∧ RV T w' (.ref a) d ∧ ∀ v' o', RO T w H v' o' → (true = true → o'.place = true → v' ≠ V.ref a) → RO T w' H v' o' := fun {c} hc rv =>
      ⟨w.put a c, k.give hc n1 f1, x.give (y hp a rfl) f1, ⟨le_put _ f1, rfl⟩, rv, fun v' o' h' ne => h'.move (le_put _ f1) fun a' u' ev pl hu => by
        obtain ⟨a2, u2, e2, h2, n2, f2⟩ := h'.addr pl
        rw [ev] at e2; cases e2
        refine ⟨hu, n2, ?_⟩
        show upd w.F a c a' = none
        rw [upd_ne (fun z => ne rfl pl (by rw [ev, z]))]
        exact f2⟩
    cases o with
    | fz d' => cases hp
    | ol b xs =>
      cases b with
      | some i => cases e
      | none =>
        cases e
        obtain ⟨a', vs, ea, h1, r, n, f⟩ := h
        cases ea
        exact key h1 (.lst (by show upd _ _ _ _ = _; exact upd_same) (r.mono (le_put _ f)))
    | od b xs =>
      cases b with
      | some i => cases e
      | none =>
        cases e
        obtain ⟨a', vs, ea, h1, r, n, f⟩ := h
        cases ea
        obtain ⟨ks, us, es, rfl, rfl, el, r⟩ := r.unzip
        exact key h1 (.dK (by show upd _ _ _ _ = _; exact upd_same) el (r.mono (le_put _ f)))
    | ot b xs =>
      cases b with
      | some i => cases e
      | none =>
        cases e
        obtain ⟨a', vs, ea, h1, r, n, f⟩ := h
        cases ea
        obtain ⟨ks, us, es, rfl, rfl, el, r⟩ := r.unzip
        exact key h1 (.dT (by show upd _ _ _ _ = _; exact upd_same) el (r.mono (le_put _ f)))
/-- where a value came from: the slot that it is borrowed from -/
def Src (σ : Sl) (o : O) : Prop := ∀ i, o.tag = some i → ∃ o', σ[i]? = some (some o') ∧ o = o'.read i
/-- what lies at a through all that is to come -/
structure Stays (T : Tb) (k : Bool) (σV : L2.St) (σ : Sl) (bs : List Nat) (w : Wd) (H : Hp) (a : Addr) (ds : List D) : Prop where
  now : SqRd T k w H a ds
  ext : ∀ w' H', Le w w' → Same w'.F H' → (∀ a o, H a = some o → a ∉ w.θ → H' a = some o) → SqRd T k w' H' a ds
  slots : ∀ w' H' σV' σ', Le w w' → Same w'.F H' → RS T w' H' σV' σ' → (∀ i ∈ bs, σV'[i]? = σV[i]? ∧ ∃ o, σ[i]? = some (some o) ∧ σ'[i]? = some (some (o.read i))) → SqRd T k w' H' a ds
theorem Stays.fz {v : V} {d : D} {ds : List D} {bs : List Nat} (le : Same w.F H) (h : RV T w v d) (e : seqD d = some ds) : ∃ a k, v = .ref a ∧ Stays T k σV σ bs w H a ds := by
  obtain ⟨a, k, ea, rd, last⟩ := sq_fz le h e
  exact ⟨a, k, ea, rd, fun w' H' l sm _ => last w' H' l sm, fun w' H' _ _ l sm _ _ => last w' H' l sm⟩
theorem Stays.later {k : Bool} {bs : List Nat} {a : Addr} {ds : List D} {w' : Wd} (h : Stays T k σV σ bs w H a ds) (l : Le w w') (e : w'.θ = w.θ) (sm : Same w'.F H) : Stays T k σV σ bs w' H a ds :=
  ⟨h.ext _ _ l sm fun _ _ q _ => q, fun w2 H2 l2 sm2 kp => h.ext _ _ (l.trans l2) sm2 fun a o q n => kp a o q (by rw [e]; exact n), fun w2 H2 a b l2 => h.slots w2 H2 a b (l.trans l2)⟩
theorem Stays.lasts {k : Bool} {bs bs' : List Nat} {a : Addr} {ds : List D} (h : Stays T k σV σ bs w H a ds) (hb : ∀ i ∈ bs, i ∈ bs') : Lasts T w H σV σ bs' fun w H => SqRd T k w H a ds :=
  ⟨fun w' H' x sm => h.ext w' H' x.le sm x.keep, fun w' H' σV' σ' l sm rs hl => h.slots w' H' σV' σ' l sm rs fun i hi => hl i (hb i hi)⟩
theorem Lasts.and {bs : List Nat} {Ka Kb : Wd → Hp → Prop} (h : Lasts T w H σV σ bs Ka) (k : Lasts T w H σV σ bs Kb) : Lasts T w H σV σ bs fun w H => Ka w H ∧ Kb w H :=
  ⟨fun w' H' x sm => ⟨h.ext w' H' x sm, k.ext w' H' x sm⟩, fun w' H' σV' σ' l sm rs hl => ⟨h.slots w' H' σV' σ' l sm rs hl, k.slots w' H' σV' σ' l sm rs hl⟩⟩
/-- a sequence that is to be walked: what is one's own is given away, what is borrowed stays in its slot -/
theorem seq_walk {w₀ : Wd} {H₀ : Hp} {v : V} {o : O} {ds : List D} (x0 : Ext w₀ H₀ w H) (hw : Wok T w H κ) (h : RO T w H v o) (hb : Bor σV v o) (hy : o.tag = none → Young H₀ v o) (hsrc : Src σ o) (e : seqD o.d = some ds) :
    ∃ w2 a k, v = .ref a ∧ Ext w₀ H₀ w2 H ∧ Wok T w2 H κ ∧ (Le w w2 ∧ w2.θ = w.θ) ∧ Stays T k σV σ o.bor w2 H a ds ∧ ∀ v' o', RO T w H v' o' → (o.tag = none → o.place = true → o'.place = true → v' ≠ v) → RO T w2 H v' o' := by
  have frozen : ∀ d : D, o.frz = some d → seqD d = some ds → o.tag = none → ∃ w2 a k, v = .ref a ∧ Ext w₀ H₀ w2 H ∧ Wok T w2 H κ ∧ (Le w w2 ∧ w2.θ = w.θ) ∧ Stays T k σV σ o.bor w2 H a ds ∧ ∀ v' o', RO T w H v' o' → (o.tag = none → o.place = true → o'.place = true → v' ≠ v) → RO T w2 H v' o' := fun d ef es et => by
    obtain ⟨w2, k2, e2, l2, rv, oth⟩ := h.give2 hw ef x0 (hy et)
    obtain ⟨a, k, ea, st⟩ := Stays.fz (σV := σV) (σ := σ) (bs := o.bor) k2.le rv es
    exact ⟨w2, a, k, ea, e2, k2, l2, st, fun v' o' h' ne => oth v' o' h' (ne et)⟩
  cases o with
  | fz d => exact frozen d rfl e rfl
  | ol b xs =>
    cases b with
    | none => exact frozen _ rfl e rfl
    | some i =>
      simp only [O.d, seqD, Option.some.injEq] at e
      subst e
      obtain ⟨a, vs, rfl, h1, r, n1, n2⟩ := id h
      refine ⟨w, a, true, rfl, x0, hw, ⟨Le.rfl' w, rfl⟩, ⟨⟨vs, SqL.of h1, r⟩, fun w' H' l sm kp => ⟨vs, SqL.of (kp _ _ h1 n1), r.mono l⟩, fun w' H' σV' σ' l sm rs hl => ?_⟩, fun v' o' h' _ => h'⟩
      obtain ⟨e1, o', e2, e3⟩ := hl i (by simp [O.bor])
      obtain ⟨o'', e4, e5⟩ := hsrc i rfl
      rw [e2] at e4
      cases e4
      obtain ⟨v', g1, g2⟩ := rs.at_ i _ e3
      rw [e1, hb i rfl] at g1
      cases g1
      rw [← e5] at g2
      obtain ⟨a', vs', ea, h1', r', _⟩ := g2
      cases ea
      exact ⟨vs', SqL.of h1', r'⟩
  | od b xs => simp [O.d, seqD] at e
  | ot b xs => simp [O.d, seqD] at e
/-- the walk of a list, of a tuple -/
def Jk (k : Bool) (K : PySem.W.Frag) (a : Addr) : It := match k with
  | true => Itl K a
  | false => Itt K a
theorem walk_seq {k : Bool} {a : Addr} {ds : List D} {Keep : Wd → Hp → Prop} (h : ∀ w H, Keep w H → SqRd T k w H a ds) : WalkD T (Jk k T.K a) ds Keep := by
  intro w H κ hw hk
  obtain ⟨vs, q, r⟩ := h w H hk
  cases k
  · refine ⟨fun i hi => ?_, ⟨vs, q, by rw [r.length]; exact Nat.le_refl _⟩⟩
    have hiv : i < vs.length := by rw [r.length]; exact hi
    refine ⟨⟨vs, vs[i], q, by simp [hiv]⟩, fun v H2 y => ?_⟩
    obtain ⟨rfl, y⟩ := y
    have := y vs q
    obtain ⟨d, e, rv⟩ := r.get' this
    exact ⟨w, d, e, Ext.rfl' w _, hw, rv⟩
  · refine ⟨fun i hi => ?_, ⟨vs, q, by rw [r.length]; exact Nat.le_refl _⟩⟩
    have hiv : i < vs.length := by rw [r.length]; exact hi
    refine ⟨⟨vs, vs[i], q, by simp [hiv]⟩, fun v H2 y => ?_⟩
    obtain ⟨rfl, y⟩ := y
    have := y vs q
    obtain ⟨d, e, rv⟩ := r.get' this
    exact ⟨w, d, e, Ext.rfl' w _, hw, rv⟩
end
/-! ### what is borrowed comes of a name -/
theorem obind_ok {α β : Type} {m : Out α} {f : α → Out β} {r : β} (h : m.bind f = .ok r) : ∃ a, m = .ok a ∧ f a = .ok r := by
  cases m with
  | ok a => exact ⟨a, rfl, h⟩
  | exc c fs k => cases h
  | bad => cases h
theorem opt_ok {α : Type} {o : Option α} {a : α} (h : opt o = .ok a) : o = some a := by
  cases o with
  | none => cases h
  | some b => cases h; rfl
def NT (m : Out (O × Cells)) : Prop := ∀ r, m = .ok r → r.1.tag = none
theorem NT.bind {α : Type} {m : Out α} {f : α → Out (O × Cells)} (h : ∀ a, m = .ok a → NT (f a)) : NT (m.bind f) := fun r e => by
  obtain ⟨a, e1, e2⟩ := obind_ok e
  exact h a e1 r e2
theorem NT.ok {o : O} {κ : Cells} (h : o.tag = none) : NT (.ok (o, κ)) := fun r e => by cases e; exact h
theorem NT.bad : NT .bad := fun r e => by cases e
theorem rev_tag {x : D} {o : O} (h : revD x = some o) : o.tag = none := by
  unfold revD at h
  split at h <;> (cases h <;> rfl)
theorem ev_src (Γ : Cxt) : ∀ (e : E) (σ : Sl) (κ : Cells) (r : O × Cells), ev Γ e σ κ = .ok r → Src σ r.1 := by
  have nt : ∀ {e : E} {σ : Sl} {κ : Cells}, NT (ev Γ e σ κ) → ∀ (r : O × Cells), ev Γ e σ κ = .ok r → Src σ r.1 := fun h r e i z => by rw [h r e] at z; cases z
  intro e
  induction e with
  | var j =>
    intro σ κ r h i ht
    unfold ev at h
    split at h
    · cases h
      rename_i o eo
      have : i = j := by cases o <;> simp [O.read, O.tag] at ht <;> exact ht.symm
      subst this
      exact ⟨o, eo, rfl⟩
    · cases h
  | and a b ha hb =>
    intro σ κ r h
    unfold ev at h
    obtain ⟨x, e1, h⟩ := obind_ok h
    obtain ⟨c, e2, h⟩ := obind_ok h
    cases c with
    | true => exact hb _ _ _ h
    | false => cases h; exact ha _ _ _ e1
  | or a b ha hb =>
    intro σ κ r h
    unfold ev at h
    obtain ⟨x, e1, h⟩ := obind_ok h
    obtain ⟨c, e2, h⟩ := obind_ok h
    cases c with
    | false => exact hb _ _ _ h
    | true => cases h; exact ha _ _ _ e1
  | ite c a b hc ha hb =>
    intro σ κ r h
    unfold ev at h
    obtain ⟨x, e1, h⟩ := obind_ok h
    obtain ⟨t, e2, h⟩ := obind_ok h
    cases t with
    | false => exact hb _ _ _ h
    | true => exact ha _ _ _ h
  | bin op a b => exact fun σ κ => nt (by unfold ev; exact NT.bind fun x _ => NT.bind fun y _ => NT.bind fun o eo => NT.ok (bin_tag (opt_ok eo)))
  | slc a lo hi => exact fun σ κ => nt (by unfold ev; exact NT.bind fun x _ => NT.bind fun y _ => NT.bind fun _ _ => NT.bind fun _ _ => NT.bind fun _ _ => NT.bind fun o eo => NT.ok (slc_tag (opt_ok eo)))
  | rev a => exact fun σ κ => nt (by unfold ev; exact NT.bind fun x _ => NT.bind fun o eo => NT.ok (rev_tag (opt_ok eo)))
  | blt1 b a => exact fun σ κ => nt (by unfold ev; exact NT.bind fun x _ => NT.bind fun o eo => NT.ok (blt_tag (opt_ok eo)))
  | cst d => exact fun σ κ => nt (by unfold ev; exact NT.ok rfl)
  | gcn g => exact fun σ κ => nt (by unfold ev; exact NT.bind fun _ _ => NT.ok rfl)
  | exf g => exact fun σ κ => nt (by unfold ev; exact NT.bind fun _ _ => NT.ok rfl)
  | tup es => exact fun σ κ => nt (by unfold ev; exact NT.bind fun _ _ => NT.ok rfl)
  | lst es => exact fun σ κ => nt (by unfold ev; exact NT.bind fun _ _ => NT.ok rfl)
  | make c es => exact fun σ κ => nt (by unfold ev; exact NT.bind fun _ _ => NT.ok rfl)
  | neg a => exact fun σ κ => nt (by unfold ev; exact NT.bind fun _ _ => NT.bind fun _ _ => NT.ok rfl)
  | not a => exact fun σ κ => nt (by unfold ev; exact NT.bind fun _ _ => NT.bind fun _ _ => NT.ok rfl)
  | call f es => exact fun σ κ => nt (by unfold ev; exact NT.bind fun _ _ => NT.bind fun _ _ => NT.ok rfl)
  | cmp op a b => exact fun σ κ => nt (by unfold ev; exact NT.bind fun _ _ => NT.bind fun _ _ => NT.bind fun _ _ => NT.ok rfl)
  | idx a b => exact fun σ κ => nt (by unfold ev; exact NT.bind fun _ _ => NT.bind fun _ _ => NT.bind fun _ _ => NT.ok rfl)
  | blt2 op a b => exact fun σ κ => nt (by unfold ev; exact NT.bind fun _ _ => NT.bind fun _ _ => NT.bind fun _ _ => NT.ok rfl)
  | chain op op' a b c => exact fun σ κ => nt (by
      unfold ev
      refine NT.bind fun _ _ => NT.bind fun _ _ => NT.bind fun t _ => ?_
      cases t with
      | true => exact NT.bind fun _ _ => NT.bind fun _ _ => NT.ok rfl
      | false => exact NT.ok rfl)
  | fld a m => exact fun σ κ => nt (by
      unfold ev
      refine NT.bind fun x _ => ?_
      show NT (match x.1.d with | .ins c fs => _ | _ => _)
      split
      · exact NT.bind fun _ _ => NT.ok rfl
      · exact NT.bad)
  | isi a tys many => exact fun σ κ => nt (by
      unfold ev
      refine NT.bind fun x _ => ?_
      show NT (if _ then _ else _)
      split
      · exact NT.ok rfl
      · exact NT.bad)
  | eqo a b => exact fun σ κ => nt (by
      unfold ev
      refine NT.bind fun x _ => NT.bind fun y _ => NT.bind fun xd _ => NT.bind fun yd _ => ?_
      cases xd with
      | ins c fs =>
        refine NT.bind fun _ _ => ?_
        show NT (if eqoOk c yd = true then _ else _)
        split
        · refine NT.bind fun r _ => ?_
          generalize r.1 = rd
          cases rd with
          | bl t => exact NT.ok rfl
          | _ => exact NT.bad
        · exact NT.bad
      | _ => exact NT.bad)
  | cell ks es => exact fun σ κ => nt (by
      unfold ev
      refine NT.bind fun x _ => ?_
      show NT (if _ then _ else _)
      split
      · exact NT.ok rfl
      · exact NT.bad)
  | lrng it => exact fun σ κ => nt (by
      unfold ev
      refine NT.bind fun x _ => ?_
      show NT (if _ then _ else _)
      split
      · exact NT.ok rfl
      · exact NT.bad)
  | comp own tg it ifs elt => exact fun σ κ => nt (by
      unfold ev
      refine NT.bind fun x _ => NT.bind fun r _ => ?_
      show NT (if _ then _ else _)
      split
      · exact NT.ok rfl
      · exact NT.bad)
  | _ => exact fun σ κ => nt (by unfold ev; exact NT.bad)
end R

/-! R11: what a loop or a comprehension walks. -/
namespace R
open L2 PyProof.Rows PySem.Spec PySem
section
variable {T : Tb} {S : Sg} {Γ : Cxt} {N : List Str} {n : Nat}
abbrev PIok (T : Tb) (S : Sg) (Γ : Cxt) (N : List Str) (n : Nat) (e : E) : Prop := ∀ sc tg x X W, isIt S N none e sc x = true → itTg e tg = true → XG T S Γ N n sc X → Takes X W → PI X tg x (tI T Γ e W)
/-- from a state further on than the ground that the end is told from -/
theorem tE_bindB {α : Type} {W : WX} {e : E} {σV : L2.St} {H H₀ : Hp} {w w₀ : Wd} {σ : Sl} {κ : Cells} {f : O × Cells → Out (α × Cells)} {G : α × Cells → Wd → Hp → Prop} {Q : V → Hp → Prop} (x0 : Ext w₀ H₀ w H)
    (hw : Wok T w H κ) (hs : RS T w H σV σ) (p : Post T w₀ H₀ ((ev Γ e σ κ).bind f) (fun c d H' => W c d σV H') G)
    (h : ∀ r w' H' v, ev Γ e σ κ = .ok r → Ext w H w' H' → Wok T w' H' r.2 → RS T w' H' σV σ → RO T w' H' v r.1 → Bor σV v r.1 → (r.1.tag = none → Young H v r.1) → Post T w₀ H₀ (f r) (fun c d H' => W c d σV H') G → Q v H') : tE T Γ e W σV H Q := by
  refine ⟨w, σ, κ, hw, hs, ?_⟩
  cases er : ev Γ e σ κ with
  | ok r =>
    rw [er] at p
    exact fun w' H' e k v hv hb hy => h r w' H' v er e k (hs.ext e) hv hb hy p
  | exc c fs k =>
    rw [er] at p
    exact fun w' H' cls d e k r => (show Post T w₀ H₀ (.exc c fs _) _ G from p) w' H' cls d (x0.trans e) k r
  | bad => rw [er] at p; exact p
/-- what is never come to -/
theorem pi_bad {X : Cx} {tg x : Expr} {e : E} {W : WX} (h : ∀ σ κ, evIt Γ e σ κ = .bad) : PI X tg x (tI T Γ e W) :=
  ⟨fun pins s σV H R I q => by obtain ⟨w, σ, κ, hw, hs, p⟩ := q; rw [h] at p; exact p.elim⟩
theorem pe_bad {X : Cx} {x : Expr} {e : E} {W : WX} (h : ∀ σ κ, ev Γ e σ κ = .bad) : PE X x (tE T Γ e W) :=
  ⟨fun pins s σV H R I q => by obtain ⟨w, σ, κ, hw, hs, p⟩ := q; rw [h] at p; exact p.elim⟩
def iSq (K : PySem.W.Frag) (tl : TE) : TI := fun σ H R => tl σ H fun x H1 => ∃ a k xs, x = .ref a ∧ SqA k K H1 a xs ∧ R (Jk k K a) H1
theorem pi_sq {X : Cx} {tg l : Expr} {tl : TE} (hl : PE X l tl) : PI X tg l (iSq X.K tl) := by
  refine (⟨fun pins s σ H R I h => ?_⟩)
  refine (thn (hl.run pins s σ H _ I h) fun v s1 ⟨x, H1, I1, r1, q1⟩ => ?_)
  obtain ⟨a, k, xs, e, hq, q⟩ := q1
  subst e
  cases r1
  have fp : ∀ b ∈ [s1.heap.objs.size], FpOk X pins H1 b := fun b hb => by
    have e : (b = s1.heap.objs.size) := by simpa using hb
    subst e
    exact (I1.fpOk (Nat.le_refl _) (I1.hok.fresh (Nat.le_refl _)))
  cases k with
  | true =>
    obtain ⟨its, rv, p, hz⟩ := (I1.list hq)
    exact wpAny_pyIter_list p.isList ⟨s1.heap.objs.size, [s1.heap.objs.size], _, _, H1, rfl, I1.kept (t' := s1.toks) fun b o e => Heap.get?_push_of_some _ e, turn_list a _, ⟨_, Heap.get?_push_size _ rfl, rfl, rfl⟩, fp, q⟩
  | false =>
    obtain ⟨its, rv, p, hz⟩ := (I1.tuple hq)
    exact wpAny_pyIter_tuple (show s1.heap.IsTuple a its.toArray from p) ⟨s1.heap.objs.size, [s1.heap.objs.size], _, _, H1, rfl, I1.kept (t' := s1.toks) fun b o e => Heap.get?_push_of_some _ e, turn_tuple a _, ⟨_, Heap.get?_push_size _ rfl, rfl, rfl⟩, fp, q⟩
theorem pi_walk_ok {a : E} (ha : PEok T S Γ N n a) : PIok T S Γ N n (.walk a) := by
  intro sc tg x X W q _ g tk
  simp only [isIt] at q
  refine piI (pi_sq (ha sc x X W q g tk)) fun σV H R h => ?_
  obtain ⟨w, σ, κ, hw, hs, p⟩ := h
  unfold evIt at p
  refine tE_bind hw hs p fun r w1 H1 v er e k hs1 hv hb hy p => ?_
  obtain ⟨ds, eds, p2⟩ := p.opt
  obtain ⟨w2, a', kk, ea, e2, k2, l2, st, _⟩ := seq_walk e k hv hb hy (ev_src Γ a σ κ r er) eds
  obtain ⟨vs, q1, r1⟩ := st.now.at_
  exact ⟨a', kk, vs, ea, by rw [g.hK]; exact q1, by rw [g.hK]; exact p2 w2 H1 e2 k2 _ _ st.now (walk_seq fun w H h => h) (st.lasts fun _ h => h)⟩
/-- lo, lo + 1, .. -/
theorem walk_rng {lo hi : Int} {ds : List D} (h : rangeD lo hi = some ds) : WalkD T (Itr lo (hi - lo).toNat) ds fun _ _ => True := by
  unfold rangeD at h
  split at h
  · cases h
    intro w H κ hw _
    simp only [List.length_range, List.length_map]
    refine ⟨fun i hi' => ⟨hi', fun v H2 y => ?_⟩, Nat.le_refl _⟩
    obtain ⟨rfl, rfl⟩ := y
    refine ⟨w, .int (lo + i), ?_, Ext.rfl' w _, hw, .int _⟩
    rw [List.getElem?_map, List.getElem?_range hi']
    rfl
  · cases h
theorem rng_small {lo hi : Int} {ds : List D} (h : rangeD lo hi = some ds) : -(2 ^ 62) ≤ lo ∧ lo < 2 ^ 62 ∧ -(2 ^ 62) ≤ hi ∧ hi < 2 ^ 62 := by
  unfold rangeD at h
  split at h
  · rename_i q
    simp only [decide_eq_true_eq, Bool.and_eq_true] at q
    exact ⟨q.1.1.1, q.1.1.2, q.1.2, q.2⟩
  · cases h
theorem Lasts.all {w : Wd} {H : Hp} {σV : L2.St} {σ : Sl} {bs : List Nat} : Lasts T w H σV σ bs fun _ _ => True := ⟨fun _ _ _ _ => trivial, fun _ _ _ _ _ _ _ _ => trivial⟩
theorem pi_rng1_ok {a : E} (ha : PEok T S Γ N n a) : PIok T S Γ N n (.rng1 a) := by
  intro sc tg x X W q _ g tk
  cases x <;> try (simp [isIt] at q; done)
  rename_i fn args kws pos
  cases fn <;> try (simp [isIt] at q; done)
  rename_i nm np
  match args, kws, q with
  | [y], [], q =>
    simp only [isIt, Bool.and_eq_true, decide_eq_true_eq] at q
    obtain ⟨⟨rfl, q1⟩, q2⟩ := q
    refine piI (pi_range1 (gl_of q1 g.hsc) (g.bi_of _) (pa_cons (ha sc _ X W q2 g tk) pa_nil (notStar q2 X.env [])) (notStar q2 X.env [])) fun σV H R h => ?_
    obtain ⟨w, σ, κ, hw, hs, p⟩ := h
    unfold evIt at p
    refine tE_bind hw hs p fun r w1 H1 v er e k hs1 hv hb hy p => ?_
    generalize ed : r.1.d = dx at p
    have p := p.step e
    cases dx with
    | int j =>
      obtain ⟨ds, eds, p2⟩ := (show Post T w1 H1 ((opt (rangeD 0 j)).bind fun xs => _) _ _ from p).opt
      cases rd_int hv ed
      have sm := rng_small eds
      exact ⟨j, rfl, sm.2.2.1, sm.2.2.2, by simpa using p2.ok k _ _ trivial (walk_rng eds) Lasts.all⟩
    | _ => exact p.elim
  | [], _, q => simp [isIt] at q
  | _ :: _ :: _, _, q => simp [isIt] at q
  | [_], _ :: _, q => simp [isIt] at q
theorem pi_rng2_ok {a b : E} (ha : PEok T S Γ N n a) (hb' : PEok T S Γ N n b) : PIok T S Γ N n (.rng2 a b) := by
  intro sc tg x X W q _ g tk
  cases x <;> try (simp [isIt] at q; done)
  rename_i fn args kws pos
  cases fn <;> try (simp [isIt] at q; done)
  rename_i nm np
  match args, kws, q with
  | [y, z], [], q =>
    simp only [isIt, Bool.and_eq_true, decide_eq_true_eq] at q
    obtain ⟨⟨⟨rfl, q1⟩, q2⟩, q3⟩ := q
    have st2 := notStar q3 X.env []
    refine piI (pi_range2 (gl_of q1 g.hsc) (g.bi_of _) (pa_cons (ha sc _ X W q2 g tk) (pa_cons (hb' sc _ X W q3 g tk) pa_nil st2) (notStar q2 X.env [z])) (by rw [notStar q2 X.env [z], st2]; rfl) st2) fun σV H R h => ?_
    obtain ⟨w, σ, κ, hw, hs, p⟩ := h
    unfold evIt at p
    refine tE_bind hw hs p fun r w1 H1 v er e k hs1 hv hb hy p => ?_
    refine tE_bind k hs1 (p.step e) fun r2 w2 H2 v2 er2 e2 k2 hs2 hv2 hbr2 hy2 p2 => ?_
    have p2 := p2.step e2
    generalize ed : r.1.d = dx at p2
    generalize ed2 : r2.1.d = dy at p2
    cases dx with
    | int i =>
      cases dy with
      | int j =>
        obtain ⟨ds, eds, p3⟩ := (show Post T w2 H2 ((opt (rangeD i j)).bind fun xs => _) _ _ from p2).opt
        cases rd_int hv ed
        cases rd_int hv2 ed2
        have sm := rng_small eds
        exact ⟨i, j, rfl, ⟨sm.1, sm.2.1, sm.2.2.1, sm.2.2.2⟩, p3.ok k2 _ _ trivial (walk_rng eds) Lasts.all⟩
      | _ => exact p2.elim
    | _ => exact p2.elim
  | [], _, q => simp [isIt] at q
  | [_], _, q => simp [isIt] at q
  | _ :: _ :: _ :: _, _, q => simp [isIt] at q
  | [_, _], _ :: _, q => simp [isIt] at q
/-! ### zip -/
theorem zipD_get : ∀ {xs ys : List D} {i : Nat}, i < (zipD xs ys).length → ∃ x y, xs[i]? = some x ∧ ys[i]? = some y ∧ (zipD xs ys)[i]? = some (.tup [x, y])
  | [], _, _, h => by simp [zipD] at h
  | _ :: _, [], _, h => by simp [zipD] at h
  | x :: xs, y :: ys, 0, _ => ⟨x, y, rfl, rfl, rfl⟩
  | x :: xs, y :: ys, i + 1, h => by
    obtain ⟨a, b, h1, h2, h3⟩ := zipD_get (xs := xs) (ys := ys) (i := i) (by simpa [zipD] using h)
    exact ⟨a, b, by simpa using h1, by simpa using h2, by simpa [zipD] using h3⟩
theorem zipD_len : ∀ (xs ys : List D), (zipD xs ys).length = min xs.length ys.length
  | [], _ => by simp [zipD]
  | _ :: _, [] => by simp [zipD]
  | x :: xs, y :: ys => by simp [zipD, zipD_len xs ys]
theorem walk_zip {k1 k2 : Bool} {a b : Addr} {xs ys : List D} : WalkD T (Itzk k1 k2 T.K a b) (zipD xs ys) fun w H => SqRd T k1 w H a xs ∧ SqRd T k2 w H b ys := by
  intro w H κ hw hk
  obtain ⟨⟨vs, q1, r1⟩, ⟨us, q2, r2⟩⟩ := And.intro hk.1.at_ hk.2.at_
  refine ⟨fun i hi => ?_, ⟨vs, us, q1, q2, ?_⟩⟩
  · obtain ⟨x, y, ex, ey, ez⟩ := zipD_get hi
    obtain ⟨v, ev', rv⟩ := r1.get ex
    obtain ⟨u, eu', ru⟩ := r2.get ey
    refine ⟨⟨vs, us, v, u, q1, q2, ev', eu'⟩, fun t H2 yl => ?_⟩
    obtain ⟨p, v', u', rfl, hp, rfl, h1, h2⟩ := yl
    have e1 := h1 vs q1
    have e2 := h2 us q2
    rw [ev'] at e1; rw [eu'] at e2
    cases e1; cases e2
    have z := hw.laid (.tup [v, u]) hp
    have le := le_put (w := w) (.tup [v, u]) (hw.noF hp)
    exact ⟨_, _, ez, z.2, z.1, .tup (.inl (.inl (by show upd _ _ _ _ = _; exact upd_same))) (.cons (rv.mono le) (.one (ru.mono le)))⟩
  · rw [zipD_len, r1.length, r2.length]; omega
theorem pi_zip_ok {a b : E} (ha : PEok T S Γ N n a) (hb' : PEok T S Γ N n b) : PIok T S Γ N n (.zip a b) := by
  intro sc tg x X W q qt g tk
  cases x <;> try (simp [isIt] at q; done)
  rename_i fn args kws pos
  cases fn <;> try (simp [isIt] at q; done)
  rename_i nm np
  cases tg <;> try (simp [itTg] at qt; done)
  match args, kws, q with
  | [y, z], [], q =>
    simp only [isIt, Bool.and_eq_true, decide_eq_true_eq] at q
    obtain ⟨⟨⟨rfl, q1⟩, q2⟩, q3⟩ := q
    have st2 := notStar q3 X.env []
    refine piI (pi_zipK (gl_of q1 g.hsc) (g.bi_of _) (pa_cons (ha sc _ X W q2 g tk) (pa_cons (hb' sc _ X W q3 g tk) pa_nil st2) (notStar q2 X.env [z])) (notStar q2 X.env [z]) (by rw [st2]; rfl)) fun σV H R h => ?_
    obtain ⟨w, σ, κ, hw, hs, p⟩ := h
    unfold evIt at p
    refine tE_bind hw hs p fun r w1 H1 v er e k hs1 hv hb hy p => ?_
    refine tE_bindB e k hs1 p fun r2 w2 H2 v2 er2 e2 k2 hs2 hv2 hbr2 hy2 p2 => ?_
    obtain ⟨xs, exs, p3⟩ := p2.opt
    obtain ⟨ys, eys, p4⟩ := p3.opt
    obtain ⟨w3, a1, k1, rfl, e3, kk3, l3, st1, oth⟩ := seq_walk (e.trans e2) k2 (hv.ext e2) hb hy (ev_src Γ a σ κ r er) exs
    have hv3 : RO T w3 H2 v2 r2.1 := oth v2 r2.1 hv2 fun t pl pl2 z => by
      obtain ⟨a', u, ea, ha', _⟩ := hv.addr pl
      cases ea
      cases ht : r2.1.tag with
      | none => rw [hy2 ht pl2 _ z] at ha'; cases ha'
      | some i =>
        obtain ⟨o', eo, eo2⟩ := ev_src Γ b σ r.2 r2 er2 i ht
        obtain ⟨v', ev', rv'⟩ := hs.at_ i o' eo
        rw [hbr2 i ht] at ev'
        cases ev'
        rw [eo2] at pl2
        obtain ⟨a'', u', ea', ha'', _⟩ := (rv'.retag i).addr pl2
        rw [z] at ea'; cases ea'
        rw [hy t pl _ rfl] at ha''; cases ha''
    obtain ⟨w4, a2, kb, rfl, e4, kk4, l4, st2, _⟩ := seq_walk e3 kk3 hv3 hbr2 (fun t pl a' ea => e.dom a' (hy2 t pl a' ea)) (ev_src Γ b σ r.2 r2 er2) eys
    have st1' := st1.later l4.1 l4.2 kk4.le
    obtain ⟨vs1, q1', _⟩ := st1'.now.at_
    obtain ⟨vs2, q2', _⟩ := st2.now.at_
    refine ⟨a1, a2, vs1, vs2, k1, kb, rfl, by rw [g.hK]; exact q1', by rw [g.hK]; exact q2', ?_⟩
    rw [g.hK]
    exact p4 w4 H2 e4 kk4 _ _ ⟨st1'.now, st2.now⟩ walk_zip ((st1'.lasts fun i h => List.mem_append_left _ h).and (st2.lasts fun i h => List.mem_append_right _ h))
  | [], _, q => simp [isIt] at q
  | [_], _, q => simp [isIt] at q
  | _ :: _ :: _ :: _, _, q => simp [isIt] at q
  | [_, _], _ :: _, q => simp [isIt] at q
end
end R

/-! R12: slots that are stored, targets, comprehensions. -/
namespace R
open L2 PyProof.Rows PySem.Spec PySem
theorem get_set {α : Type} {l : List α} {i j : Nat} {a b : α} (h : (l.set i a)[j]? = some b) : (j = i ∧ a = b ∧ i < l.length) ∨ (j ≠ i ∧ l[j]? = some b) := by
  by_cases e : i = j
  · subst e
    by_cases hl : i < l.length
    · rw [List.getElem?_set_self hl] at h
      cases h
      exact .inl ⟨rfl, rfl, hl⟩
    · rw [List.getElem?_eq_none (by simpa using hl)] at h; cases h
  · rw [List.getElem?_set_ne e] at h
    exact .inr ⟨fun z => e z.symm, h⟩
section
variable {T : Tb} {w : Wd} {H : Hp} {σV : L2.St} {σ : Sl}
theorem RS.set {i : Nat} {v : Option V} {o : Option O} (h : RS T w H σV σ)
    (ho : ∀ u, o = some u → ∃ x, v = some x ∧ RO T w H x u ∧ (∀ j, u.tag = some j → j = i) ∧ ∀ j o', j ≠ i → σ[j]? = some (some o') → σV[j]? = some (some x) → u.place = false ∨ o'.place = false) : RS T w H (σV.set i v) (σ.set i o) := by
  refine ⟨by simp [h.len], fun j u q => ?_, fun j k u u' x ne q q' p p' => ?_, fun j k u q t => ?_⟩
  · rcases get_set q with ⟨rfl, e, hl⟩ | ⟨ne, q⟩
    · obtain ⟨x, rfl, r, _⟩ := ho u e
      exact ⟨x, by rw [List.getElem?_set_self (by rw [h.len]; exact hl)], r⟩
    · obtain ⟨x, e, r⟩ := h.at_ j u q
      exact ⟨x, by rw [List.getElem?_set_ne (fun z => ne z.symm)]; exact e, r⟩
  · rcases get_set q with ⟨rfl, e, hl⟩ | ⟨n1, q1⟩
    · obtain ⟨y, rfl, r, _, ap⟩ := ho u e
      rcases get_set q' with ⟨rfl, _, _⟩ | ⟨n2, q2⟩
      · exact absurd rfl ne
      · rcases get_set p with ⟨_, z, _⟩ | ⟨n3, _⟩
        · cases z
          rcases get_set p' with ⟨z, _, _⟩ | ⟨_, p2⟩
          · exact absurd z n2
          · exact ap k u' n2 q2 p2
        · exact absurd rfl n3
    · rcases get_set q' with ⟨rfl, e, hl⟩ | ⟨n2, q2⟩
      · obtain ⟨y, rfl, r, _, ap⟩ := ho u' e
        rcases get_set p' with ⟨_, z, _⟩ | ⟨n3, _⟩
        · cases z
          rcases get_set p with ⟨z, _, _⟩ | ⟨_, p2⟩
          · exact absurd z n1
          · exact (ap j u n1 q1 p2).symm
        · exact absurd rfl n3
      · rcases get_set p with ⟨z, _, _⟩ | ⟨_, p1⟩
        · exact absurd z n1
        · rcases get_set p' with ⟨z, _, _⟩ | ⟨_, p2⟩
          · exact absurd z n2
          · exact h.apart j k u u' x ne q1 q2 p1 p2
  · rcases get_set q with ⟨rfl, e, hl⟩ | ⟨ne, q⟩
    · obtain ⟨x, _, _, tg, _⟩ := ho u e
      exact tg k t
    · exact h.tag j k u q t
theorem RS.setFz {i : Nat} {v : V} {d : D} (h : RS T w H σV σ) (r : RV T w v d) : RS T w H (σV.set i (some v)) (σ.set i (some (.fz d))) :=
  h.set fun u e => by cases e; exact ⟨v, rfl, r, (fun j z => by cases z), fun _ _ _ _ _ => .inl rfl⟩
theorem RS.setNo {i : Nat} (h : RS T w H σV σ) : RS T w H (σV.set i none) (σ.set i none) := h.set fun u e => by cases e
theorem RS.wiped (h : RS T w H σV σ) : ∀ vs : List Nat, RS T w H (wipe σV vs) (wipeS σ vs)
  | [] => h
  | v :: vs => (h.wiped vs).setNo
/-- what is read alone stays; nothing but is has changed -/
structure Chg (is : List Nat) (σV : L2.St) (σ : Sl) (σV' : L2.St) (σ' : Sl) : Prop where
  len : σV'.length = σV.length
  lock : ∀ (i : Nat) (o : O) (j : Nat), σ[i]? = some (some o) → o.tag = some j → σ'[i]? = some (some o) ∧ σV'[i]? = σV[i]?
  only : ∀ i, i ∉ is → σV'[i]? = σV[i]?
theorem Chg.rfl' {is : List Nat} : Chg is σV σ σV σ := ⟨rfl, fun _ _ _ h _ => ⟨h, rfl⟩, fun _ _ => rfl⟩
theorem Chg.trans {is js : List Nat} {σV1 σV2 : L2.St} {σ1 σ2 : Sl} (h : Chg is σV σ σV1 σ1) (k : Chg js σV1 σ1 σV2 σ2) : Chg (is ++ js) σV σ σV2 σ2 :=
  ⟨k.len.trans h.len, fun i o j e t => by
    obtain ⟨a, b⟩ := h.lock i o j e t
    obtain ⟨c, d⟩ := k.lock i o j a t
    exact ⟨c, d.trans b⟩, fun i n => by
    simp only [List.mem_append, not_or] at n
    exact (k.only i n.2).trans (h.only i n.1)⟩
theorem unlocked_tag {i : Nat} {o : O} (h : unlocked σ i = true) (e : σ[i]? = some (some o)) : o.tag = none := by
  unfold unlocked at h
  rw [e] at h
  cases o with
  | fz d => rfl
  | ol b xs => cases b with | none => rfl | some j => cases h
  | od b xs => cases b with | none => rfl | some j => cases h
  | ot b xs => cases b with | none => rfl | some j => cases h
theorem Chg.set {i : Nat} {v : Option V} {o : Option O} (h : ∀ u, σ[i]? = some (some u) → u.tag = none) : Chg [i] σV σ (σV.set i v) (σ.set i o) :=
  ⟨by simp, fun j u k e t => by
    have ne : i ≠ j := fun z => by subst z; rw [h u e] at t; cases t
    exact ⟨by rw [List.getElem?_set_ne ne]; exact e, by rw [List.getElem?_set_ne ne]⟩, fun j n => by
    have ne : i ≠ j := fun z => n (by simp [z])
    rw [List.getElem?_set_ne ne]⟩
theorem setAt_ok {i : Nat} {o : Option O} {σ' : Sl} (h : setAt σ i o = some σ') : unlocked σ i = true ∧ σ' = σ.set i o := by
  unfold setAt at h
  split at h
  · rename_i q; cases h; exact ⟨q, rfl⟩
  · cases h
theorem wipe_get (σV : L2.St) (i : Nat) : ∀ vs : List Nat, (wipe σV vs)[i]? = if i ∈ vs ∧ i < σV.length then some none else σV[i]?
  | [] => by simp [wipe]
  | v :: vs => by
    unfold wipe
    by_cases e : v = i
    · subst e
      by_cases hl : v < σV.length
      · rw [List.getElem?_set_self (by rw [wipe_length]; exact hl), if_pos ⟨by simp, hl⟩]
      · rw [if_neg (fun z => hl z.2), List.getElem?_eq_none (by rw [List.length_set, wipe_length]; omega), List.getElem?_eq_none (by omega)]
    · rw [List.getElem?_set_ne e, wipe_get σV i vs]
      have : (i ∈ v :: vs) ↔ i ∈ vs := by
        rw [List.mem_cons]
        exact ⟨fun z => z.elim (fun q => absurd q.symm e) id, .inr⟩
      simp only [this]
theorem wipe_back {vs is : List Nat} {σV' : L2.St} {σ1 σ' : Sl} (h : Chg is (wipe σV vs) σ1 σV' σ') (hs : ∀ i ∈ is, i ∈ vs) : wipe σV' vs = wipe σV vs := by
  refine List.ext_getElem? fun i => ?_
  have hl : σV'.length = σV.length := by rw [h.len, wipe_length]
  rw [wipe_get, wipe_get, hl]
  by_cases e : i ∈ vs ∧ i < σV.length
  · rw [if_pos e, if_pos e]
  · rw [if_neg e, if_neg e]
    by_cases hi : i < σV.length
    · have : i ∉ vs := fun z => e ⟨z, hi⟩
      rw [h.only i fun z => this (hs i z), wipe_get, if_neg e]
    · rw [List.getElem?_eq_none (by omega), List.getElem?_eq_none (by omega)]
end
/-! ### targets -/
section
variable {T : Tb} {N : List Str} {sc orig : Scope} {X : Cx} {w : Wd} {H : Hp}
def gNames : List Nat → TGs
  | [] => gNil
  | i :: is => gCons (gName i) (gNames is)
structure Sto (N : List Str) (sc orig : Scope) (X : Cx) : Prop where
  hN : X.N = N
  nd : N.Nodup
  hsc : X.env.scope = sc
  fn : ∀ x, orig.names.lookup x = some .cell → X.fn x = true
theorem sto_of {i : Nat} {x : Str} (h : stoB N sc orig i x = true) (g : Sto N sc orig X) : X.N[i]? = some x ∧ L2.Loc X.env.scope x ∧ (X.fn x = true ∨ X.env.scope.names.lookup x = some .local) := by
  unfold stoB at h
  simp only [decide_eq_true_eq, Bool.and_eq_true] at h
  obtain ⟨h1, h2⟩ := h
  refine ⟨by rw [g.hN]; exact h1, ?_⟩
  rw [g.hsc]
  unfold L2.Loc
  cases e : sc.names.lookup x with
  | none => (rw [e] at h2; cases h2)
  | some k =>
    rw [e] at h2
    cases k <;> try (cases h2; done)
    · exact ⟨.inl rfl, .inr rfl⟩
    · refine ⟨.inr rfl, .inl (g.fn x ?_)⟩
      cases e2 : orig.names.lookup x with
      | none => (rw [e2] at h2; cases h2)
      | some k2 => rw [e2] at h2; cases k2 <;> first | rfl | cases h2
theorem pg_nm {i : Nat} {x : Str} {p : Pos} (h : stoB N sc orig i x = true) (g : Sto N sc orig X) : PG X (.Name x p) (gName i) := by
  obtain ⟨h1, h2, h3⟩ := sto_of h g
  exact pg_name (by rw [g.hN]; exact g.nd) h1 h2 h3
theorem pgs_nms (g : Sto N sc orig X) : ∀ {is : List Nat} {es : List Expr}, tgsB N sc orig is es = true → PGs X es (gNames is) ∧ (assignEach es X.env).length = is.length ∧ (assignEach es X.env).findIdx? (·.1) = none
  | [], [], _ => ⟨pgs_nil, rfl, rfl⟩
  | [], _ :: _, h => by simp [tgsB] at h
  | _ :: _, [], h => by simp [tgsB] at h
  | i :: is, e :: es, h => by
    cases e <;> try (simp [tgsB] at h; done)
    simp only [tgsB, Bool.and_eq_true] at h
    obtain ⟨a, b, c⟩ := pgs_nms g h.2
    refine ⟨pgs_cons (pg_nm h.1 g) a, congrArg (· + 1) b, ?_⟩
    show List.findIdx? _ ((false, _) :: assignEach es X.env) = none
    rw [List.findIdx?_cons]
    simp [c]
theorem names_sem {Q : L2.St → Hp → Prop} : ∀ {is : List Nat} {vs : List V} {ds : List D} {σV : L2.St} {σ σ' : Sl}, RS T w H σV σ → RVs T w vs ds → assign1 is ds σ = some σ' → (∀ σV', RS T w H σV' σ' → Chg is σV σ σV' σ' → Q σV' H) → gNames is vs σV H Q
  | [], _, [], σV, σ, σ', hs, r, e, h => by
    cases r
    simp only [assign1, Option.some.injEq] at e
    subst e
    exact ⟨rfl, h σV hs Chg.rfl'⟩
  | [], _, _ :: _, _, _, _, _, _, e, _ => by simp [assign1] at e
  | _ :: _, _, [], _, _, _, _, _, e, _ => by simp [assign1] at e
  | i :: is, _, d :: ds, σV, σ, σ', hs, .cons (v := v) (vs := vs) a r, e, h => by
    simp only [assign1] at e
    cases e1 : setAt σ i (some (.fz d)) with
    | none => rw [e1] at e; cases e
    | some σ1 =>
      rw [e1] at e
      obtain ⟨ul, rfl⟩ := setAt_ok e1
      refine ⟨v, vs, rfl, ?_⟩
      refine names_sem (hs.setFz a) r e fun σV' hs' c => h σV' hs' ?_
      exact (Chg.set fun u q => unlocked_tag ul q).trans c
def Tg.ix : Tg → List Nat
  | .v i => [i]
  | .t is => is
/-- a target's end: the value stored -/
def gT (T : Tb) (tg : Tg) : TG := fun v σV H Q => ∃ w σ κ d σ', Wok T w H κ ∧ RS T w H σV σ ∧ RV T w v d ∧ assignT tg d σ = some σ' ∧ ∀ σV', RS T w H σV' σ' → Chg tg.ix σV σ σV' σ' → Q σV' H
theorem pgI {X : Cx} {e : Expr} {t t' : TG} (h : PG X e t) (k : ∀ v σ H Q, t' v σ H Q → t v σ H Q) : PG X e t' := ⟨fun pins s σ H v u Q I r q => h.run pins s σ H v u Q I r (k _ _ _ _ q)⟩
theorem pg_ok {tg : Tg} {t : Expr} (h : tgB N sc orig tg t = true) (g : Sto N sc orig X) (hK : X.K = T.K) (hc : X.calm = true) : PG X t (gT T tg) := by
  cases tg with
  | v i =>
    cases t <;> try (simp [tgB] at h; done)
    refine pgI (pg_nm h g) fun v σV H Q q => ?_
    obtain ⟨w, σ, κ, d, σ', hw, hs, r, e, k⟩ := q
    obtain ⟨ul, rfl⟩ := setAt_ok (show setAt σ i (some (.fz d)) = some σ' from e)
    exact k _ (hs.setFz r) (Chg.set fun u q => unlocked_tag ul q)
  | t is =>
    cases t <;> try (simp [tgB] at h; done)
    obtain ⟨a, b, c⟩ := pgs_nms g h
    refine pgI (pg_tup hc a b c) fun v σV H Q q => ?_
    obtain ⟨w, σ, κ, d, σ', hw, hs, r, e, k⟩ := q
    cases d with
    | tup ds =>
      have e : assign1 is ds σ = some σ' := e
      cases r with
      | tup q r =>
        have ln : ∀ {is : List Nat} {ds : List D} {σ : Sl}, assign1 is ds σ = some σ' → ds.length = is.length := by
          intro is
          induction is with
          | nil => intro ds σ e; cases ds with | nil => rfl | cons _ _ => simp [assign1] at e
          | cons i is ih =>
            intro ds σ e
            cases ds with
            | nil => simp [assign1] at e
            | cons d ds =>
              simp only [assign1] at e
              cases e1 : setAt σ i (some (.fz d)) with
              | none => rw [e1] at e; cases e
              | some σ1 => rw [e1] at e; simp [ih e]
        refine ⟨_, _, rfl, by rw [hK]; exact sqT_mono hw.le q, by rw [r.length]; exact ln e, names_sem hs r e k⟩
    | _ => cases e
end
end R

/-! R13: tests; comprehensions. -/
namespace R
open L2 PyProof.Rows PySem.Spec PySem
theorem pwI {X : Cx} {e : Expr} {t t' : TT} (h : PW X e t) (k : ∀ σ H Q, t' σ H Q → t σ H Q) : PW X e t' := ⟨fun wh pins s σ H Q I q => h.run wh pins s σ H Q I (k _ _ _ q)⟩
section
variable {T : Tb} {S : Sg} {Γ : Cxt} {N : List Str} {n : Nat}
/-- an expression whose test is its value's truth -/
def PlainT (x : Expr) : Prop := ∀ (env : Env) (whole : Sem Value), isTrue x env whole = (do let v ← whole; standAt x.pos; holding [v] (truthy v))
theorem pt_plain {e : E} (he : PEok T S Γ N n e) {sc : Scope} {x : Expr} {X : Cx} {W : WX} (q : isE S N none e sc x = true) (g : XG T S Γ N n sc X) (tk : Takes X W) (hx : PlainT x) : PT X x (tT T Γ e W) := by
  refine ptI (pt_truth (he sc x X W q g tk) fun wh => hx X.env wh) fun σV H Q h => ?_
  obtain ⟨w, σ, κ, hw, hs, p⟩ := h
  unfold evT at p
  refine tE_bind hw hs p fun r w1 H1 v er e k hs1 hv hbr hy p => ?_
  obtain ⟨b, eb, p2⟩ := (p.step e).opt
  exact ⟨b, tru_D g.hK k hv eb, p2.ok k⟩
theorem evT_def (e : E) (σ : Sl) (κ : Cells) : evT Γ e σ κ = (ev Γ e σ κ).bind fun x => (opt (truD x.1.d)).bind fun b => .ok (b, x.2) := rfl
theorem evT_not (a : E) (σ : Sl) (κ : Cells) : evT Γ (.not a) σ κ = (evT Γ a σ κ).bind fun t => .ok (!t.1, t.2) := by
  unfold evT
  conv => lhs; unfold ev
  cases ev Γ a σ κ with
  | ok r =>
    simp only [Out.bind]
    cases eb : truD r.1.d with
    | none => rfl
    | some t => rfl
  | _ => rfl
theorem evT_and (a b : E) (σ : Sl) (κ : Cells) : evT Γ (.and a b) σ κ = (evT Γ a σ κ).bind fun t => if t.1 = true then evT Γ b σ t.2 else .ok (false, t.2) := by
  unfold evT
  conv => lhs; unfold ev
  cases ev Γ a σ κ with
  | ok r =>
    simp only [Out.bind]
    cases eb : truD r.1.d with
    | none => rfl
    | some t => cases t <;> simp [opt, eb]
  | _ => rfl
theorem evT_or (a b : E) (σ : Sl) (κ : Cells) : evT Γ (.or a b) σ κ = (evT Γ a σ κ).bind fun t => if t.1 = true then .ok (true, t.2) else evT Γ b σ t.2 := by
  unfold evT
  conv => lhs; unfold ev
  cases ev Γ a σ κ with
  | ok r =>
    simp only [Out.bind]
    cases eb : truD r.1.d with
    | none => rfl
    | some t => cases t <;> simp [opt, eb]
  | _ => rfl
theorem evT_ite (c a b : E) (σ : Sl) (κ : Cells) : evT Γ (.ite c a b) σ κ = (evT Γ c σ κ).bind fun t => if t.1 = true then evT Γ a σ t.2 else evT Γ b σ t.2 := by
  unfold evT
  conv => lhs; unfold ev
  cases ev Γ c σ κ with
  | ok r =>
    simp only [Out.bind]
    cases eb : truD r.1.d with
    | none => rfl
    | some t => cases t <;> simp [opt]
  | _ => rfl
/-- tests, one behind another -/
theorem tT_step {e : E} {W : WX} {σV : L2.St} {H : Hp} {w : Wd} {σ : Sl} {κ : Cells} {f : Bool × Cells → Out (Bool × Cells)} {Q Q' : Bool → Hp → Prop} (hw : Wok T w H κ) (hs : RS T w H σV σ)
    (p : Post T w H ((evT Γ e σ κ).bind f) (fun c d H' => W c d σV H') (GT Q)) (h : ∀ t w' H', Wok T w' H' t.2 → RS T w' H' σV σ → Post T w' H' (f t) (fun c d H' => W c d σV H') (GT Q) → Q' t.1 H') : tT T Γ e W σV H Q' :=
  ⟨w, σ, κ, hw, hs, p.bind.imp fun t w1 H1 _ e k p2 => h t w1 H1 k (hs.ext e) p2⟩
theorem pt_not_ok {a : E} (ha : PTok T S Γ N n a) : PTok T S Γ N n (.not a) := by
  intro sc x X W q g tk
  cases x <;> try (simp [isE] at q; done)
  rename_i op y pos
  cases op <;> try (simp [isE] at q; done)
  refine ptI (pt_not (ha sc _ X W q g tk)) fun σV H Q h => ?_
  obtain ⟨w, σ, κ, hw, hs, p⟩ := h
  rw [evT_not] at p
  exact tT_step hw hs p fun t w1 H1 k hs1 p2 => Post.ok (r := (!t.1, t.2)) p2 k
abbrev PWok (T : Tb) (S : Sg) (Γ : Cxt) (N : List Str) (n : Nat) (e : E) : Prop := ∀ sc op xs pos X W, isE S N none e sc (.BoolOp op xs pos) = true → XG T S Γ N n sc X → Takes X W → PW X (.BoolOp op xs pos) (tT T Γ e W)
theorem pw_and_ok {a b : E} (ha : PTok T S Γ N n a) (hb : PTok T S Γ N n b) (hb' : PWok T S Γ N n b) : PWok T S Γ N n (.and a b) := by
  intro sc op ys pos X W q g tk
  have fin : ∀ {tb : TT}, (∀ σ H Q, tT T Γ b W σ H Q → tb σ H Q) → ∀ σV H Q, tT T Γ (.and a b) W σV H Q → tAnd (tT T Γ a W) tb σV H Q := fun {tb} hm σV H Q h => by
    obtain ⟨w, σ, κ, hw, hs, p⟩ := h
    rw [evT_and] at p
    refine tT_step hw hs p fun t w1 H1 k hs1 p2 => ?_
    cases ht : t.1 with
    | true => rw [if_pos rfl]; rw [if_pos ht] at p2; exact hm _ _ _ ⟨w1, σ, t.2, k, hs1, p2⟩
    | false => rw [if_neg (by simp)]; rw [if_neg (by simp [ht])] at p2; exact Post.ok (r := (false, t.2)) p2 k
  cases op <;> try (simp [isE] at q; done)
  match ys, q with
  | [x1, y1], q =>
    simp only [isE, Bool.and_eq_true] at q
    exact pwI (pw_and (ha sc _ X W q.1 g tk) (pw_and1 (hb sc _ X W q.2 g tk))) (fin fun _ _ _ z => z)
  | x1 :: y1 :: z1 :: r, q =>
    simp only [isE, Bool.and_eq_true] at q
    exact pwI (pw_and (ha sc _ X W q.1 g tk) (hb' sc _ _ _ X W q.2 g tk)) (fin fun _ _ _ z => z)
  | [], q => simp [isE] at q
  | [_], q => simp [isE] at q
theorem pw_or_ok {a b : E} (ha : PTok T S Γ N n a) (hb : PTok T S Γ N n b) (hb' : PWok T S Γ N n b) : PWok T S Γ N n (.or a b) := by
  intro sc op ys pos X W q g tk
  have fin : ∀ {tb : TT}, (∀ σ H Q, tT T Γ b W σ H Q → tb σ H Q) → ∀ σV H Q, tT T Γ (.or a b) W σV H Q → tOr (tT T Γ a W) tb σV H Q := fun {tb} hm σV H Q h => by
    obtain ⟨w, σ, κ, hw, hs, p⟩ := h
    rw [evT_or] at p
    refine tT_step hw hs p fun t w1 H1 k hs1 p2 => ?_
    cases ht : t.1 with
    | false => rw [if_neg (by simp)]; rw [if_neg (by simp [ht])] at p2; exact hm _ _ _ ⟨w1, σ, t.2, k, hs1, p2⟩
    | true => rw [if_pos rfl]; rw [if_pos ht] at p2; exact Post.ok (r := (true, t.2)) p2 k
  cases op <;> try (simp [isE] at q; done)
  match ys, q with
  | [x1, y1], q =>
    simp only [isE, Bool.and_eq_true] at q
    exact pwI (pw_or (ha sc _ X W q.1 g tk) (pw_or1 (hb sc _ X W q.2 g tk))) (fin fun _ _ _ z => z)
  | x1 :: y1 :: z1 :: r, q =>
    simp only [isE, Bool.and_eq_true] at q
    exact pwI (pw_or (ha sc _ X W q.1 g tk) (hb' sc _ _ _ X W q.2 g tk)) (fin fun _ _ _ z => z)
  | [], q => simp [isE] at q
  | [_], q => simp [isE] at q
theorem pt_and_ok {a b : E} (h : PWok T S Γ N n (.and a b)) : PTok T S Γ N n (.and a b) := by
  intro sc x X W q g tk
  cases x <;> try (simp [isE] at q; done)
  exact (h sc _ _ _ X W q g tk).pt
theorem pt_or_ok {a b : E} (h : PWok T S Γ N n (.or a b)) : PTok T S Γ N n (.or a b) := by
  intro sc x X W q g tk
  cases x <;> try (simp [isE] at q; done)
  exact (h sc _ _ _ X W q g tk).pt
def tIfT (t u v : TT) : TT := fun σ H Q => t σ H fun c H1 => if c = true then u σ H1 Q else v σ H1 Q
theorem pt_ifx {X : Cx} {c a b : Expr} {pos : Pos} {t u v : TT} (hc : PT X c t) (ha : PT X a u) (hb : PT X b v) : PT X (.IfExp c a b pos) (tIfT t u v) := by
  refine (⟨fun pins s σ H Q I h => ?_⟩)
  have e : ∀ wh, isTrue (.IfExp c a b pos) X.env wh = (do if ← isTrue c X.env (eval c X.env) then isTrue a X.env (eval a X.env) else isTrue b X.env (eval b X.env)) := fun _ => rfl
  rw [e]
  refine wpAny_bind (thn (hc.run pins s σ H _ I h) fun k s1 ⟨H1, I1, q1⟩ => ?_)
  cases k with
  | true => (exact ha.run pins s1 σ H1 Q I1 q1)
  | false => (exact hb.run pins s1 σ H1 Q I1 q1)
theorem pt_ite_ok {c a b : E} (hc : PTok T S Γ N n c) (ha : PTok T S Γ N n a) (hb : PTok T S Γ N n b) : PTok T S Γ N n (.ite c a b) := by
  intro sc x X W q g tk
  cases x <;> simp only [isE, Bool.and_eq_true, Bool.false_eq_true] at q
  obtain ⟨⟨q0, q1⟩, q2⟩ := q
  refine ptI (pt_ifx (hc sc _ X W q0 g tk) (ha sc _ X W q1 g tk) (hb sc _ X W q2 g tk)) fun σV H Q h => ?_
  obtain ⟨w, σ, κ, hw, hs, p⟩ := h
  rw [evT_ite] at p
  refine tT_step hw hs p fun t w1 H1 k hs1 p2 => ?_
  cases ht : t.1 with
  | true => rw [if_pos rfl]; rw [if_pos ht] at p2; exact ⟨w1, σ, t.2, k, hs1, p2⟩
  | false => rw [if_neg (by simp)]; rw [if_neg (by simp [ht])] at p2; exact ⟨w1, σ, t.2, k, hs1, p2⟩
theorem pt_cmp_ok (op : Cop) {a b : E} (ha : PEok T S Γ N n a) (hb : PEok T S Γ N n b) : PTok T S Γ N n (.cmp op a b) := by
  intro sc x X W q g tk
  cases x <;> try (simp [isE] at q; done)
  rename_i l ops cs pos
  match ops, cs, q with
  | [o], [r], q =>
    simp only [isE, Bool.and_eq_true, decide_eq_true_eq] at q
    obtain ⟨⟨rfl, q1⟩, q2⟩ := q
    refine ptI (pt_cmpR (op_cmp g.hK g.hu op) (ha sc _ X W q1 g tk) (hb sc _ X W q2 g tk) (marks_of (notSet_of q2))) fun σV H Q h => ?_
    obtain ⟨w, σ, κ, hw, hs, p⟩ := h
    unfold evT ev at p
    simp only [tTest, tOp]
    have p' : Post T w H ((ev Γ a σ κ).bind fun x => (ev Γ b σ x.2).bind fun y => (opt (cmpD op x.1.d y.1.d)).bind fun c => .ok (c, y.2)) (fun c d H' => W c d σV H') (GT Q) := by
      cases er : ev Γ a σ κ with
      | ok r =>
        rw [er] at p
        simp only [Out.bind] at p ⊢
        cases er2 : ev Γ b σ r.2 with
        | ok r2 =>
          rw [er2] at p
          simp only [Out.bind] at p ⊢
          cases ec : cmpD op r.1.d r2.1.d with
          | none => rw [ec] at p; exact p
          | some c => rw [ec] at p; exact p
        | _ => rw [er2] at p; exact p
      | _ => rw [er] at p; exact p
    refine tE_bind hw hs p' fun r w1 H1 v er e k hs1 hv hbr hy p => ?_
    refine tE_bind k hs1 (p.step e) fun r2 w2 H2 v2 er2 e2 k2 hs2 hv2 hbr2 hy2 p2 => ?_
    obtain ⟨o, eo, p3⟩ := (p2.step e2).opt
    exact ⟨w2, r2.2, r.1, r2.1, o, k2, hv.ext e2, hv2, eo, o, rfl, p3.ok k2⟩
  | [], _, q => simp [isE] at q
  | _ :: _ :: _, _, q => simp [isE] at q
  | [_], [], q => simp [isE] at q
  | [_], _ :: _ :: _, q => simp [isE] at q
end
end R

/-! R14: comprehensions. -/
namespace R
open L2 PyProof.Rows PySem.Spec PySem
/-- no exception is taken -/
def W0 : WX := fun _ _ _ _ => False
def tIf (T : Tb) (Γ : Cxt) (e : E) : TT := fun σV H Q => ∃ w σ κ, Wok T w H κ ∧ RS T w H σV σ ∧ Post T w H (evIf Γ e σ κ) (fun _ _ _ => False) (GT Q)
section
variable {T : Tb} {S : Sg} {Γ : Cxt} {N : List Str} {n : Nat} {w w' : Wd} {H H' : Hp} {κ : Cells}
/-- a place that the ground does not know is written -/
theorem Wok.poke (k : Wok T w H κ) {p : Addr} (o : HO) (n : p ∉ w.θ) (f : w.F p = none) : Wok T w (upd H p o) κ := by
  refine ⟨fun a u e => ?_, k.nd, k.off, k.len, fun m a e => ?_⟩
  · rw [upd_ne (fun z => by rw [z, f] at e; cases e)]
    exact k.le a u e
  · obtain ⟨vs, ds, e1, e3, r⟩ := k.cell m a e
    exact ⟨vs, ds, e1, by rw [upd_ne (fun z => n (by rw [← z]; exact List.mem_of_getElem? e))]; exact e3, r⟩
theorem Ext.poke (x : Ext w H w' H') {p : Addr} (o : HO) (h : H p = none) : Ext w H w' (upd H' p o) := by
  refine ⟨fun a u e q => ?_, fun a e => ?_, x.F, x.new, x.θ⟩
  · rw [upd_ne (ne_of_none e h)]
    exact x.keep a u e q
  · unfold upd at e
    split at e
    · cases e
    · exact x.dom a e
theorem frz_tag {o : O} {d : D} (h : o.frz = some d) : o.tag = none := by
  cases o with
  | fz d => rfl
  | ol b xs => cases b with | none => rfl | some i => simp [O.frz] at h
  | od b xs => cases b with | none => rfl | some i => simp [O.frz] at h
  | ot b xs => cases b with | none => rfl | some i => simp [O.frz] at h
theorem noexc_ok {α β : Type} {m : Out α} {f : α → Out β} {r : β} (h : (noexc m).bind f = .ok r) : ∃ a, m = .ok a ∧ f a = .ok r := by
  cases m with
  | ok a => exact ⟨a, rfl, h⟩
  | exc c fs k => cases h
  | bad => cases h
theorem Post.noexc {α β : Type} {m : Out α} {f : α → Out (β × Cells)} {X : XW} {G : β × Cells → Wd → Hp → Prop} (p : Post T w H ((R.noexc m).bind f) X G) : ∃ a, m = .ok a ∧ Post T w H (f a) X G := by
  cases m with
  | ok a => exact ⟨a, rfl, p⟩
  | exc c fs k => exact p.elim
  | bad => exact p.elim
abbrev stepC (Γ : Cxt) (own : List Nat) (tg : Tg) (ifs elt : E) (σ : Sl) : D → Cells → Out (List D × Cells) := fun x κ => (opt (assignT tg x (wipeS σ own))).bind fun σ' => (noexc (evIf Γ ifs σ' κ)).bind fun t =>
  if t.1 then (noexc (ev Γ elt σ' t.2)).bind fun y => (opt y.1.frz).bind fun d => .ok ([d], y.2) else .ok ([], t.2)
theorem post_ok {α : Type} {m : Out (α × Cells)} {r : α × Cells} {X : XW} {G : α × Cells → Wd → Hp → Prop} (h : m = .ok r) (g : ∀ w' H', Ext w H w' H' → Wok T w' H' r.2 → G r w' H') : Post T w H m X G := by
  rw [h]; exact g
theorem comp_sem {own : List Nat} {tg : Tg} {it ifs elt : E} {W : WX} (hin : tgIn own tg = true) : ∀ σV H Q, tE T Γ (.comp own tg it ifs elt) W σV H Q → tLc (tI T Γ it W) (gT T tg) (tIf T Γ ifs) (tE T Γ elt W0) own σV H Q := by
  intro σV H Q h
  obtain ⟨w, σ, κ, hw, hs, p⟩ := h
  unfold ev at p
  refine ⟨w, σ, κ, hw, hs, ?_⟩
  cases er : evIt Γ it σ κ with
  | bad => rw [er] at p; exact p
  | exc c fs k => rw [er] at p; exact p
  | ok r =>
    rw [er] at p
    intro w1 H1 e1 k1 J Keep hk wd la D hD
    obtain ⟨rr, er2, p2⟩ := (show Post T w H ((noexc (compLoop (stepC Γ own tg ifs elt σ) r.1.1 r.2)).bind _) _ _ from p).noexc
    have hlen : rr.1.length < sizeLine ∧ Post T w H (.ok (O.ol none rr.1, rr.2)) (fun c d H' => W c d σV H') (GE T H σV Q) := by
      by_cases z : rr.1.length < sizeLine
      · rw [if_pos z] at p2; exact ⟨z, p2⟩
      · rw [if_neg z] at p2; exact p2.elim
    obtain ⟨hlen, p3⟩ := hlen
    have hD0 : H D = none := e1.dom D hD
    refine ⟨fun i m H' => m = r.1.1.length - i ∧ i ≤ r.1.1.length ∧ ∃ w2 κ2 accD accV zs, Ext w1 H1 w2 H' ∧ Wok T w2 H' κ2 ∧ H' D = some (.lst accV) ∧ RVs T w2 accV accD ∧ D ∉ w2.θ ∧ w2.F D = none ∧ compLoop (stepC Γ own tg ifs elt σ) (r.1.1.drop i) κ2 = .ok (zs, rr.2) ∧ rr.1 = accD ++ zs, ⟨r.1.1.length, ?_⟩, ?_⟩
    · have z := k1.own (.lst []) hD
      exact ⟨by simp, Nat.zero_le _, w1, r.2, [], [], rr.1, z.2, z.1, upd_same, .nil, k1.offθ hD, k1.noF hD, by simpa using er2, rfl⟩
    · intro i m H' inv
      obtain ⟨rfl, hi, w2, κ2, accD, accV, zs, x2, k2, hDl, rv, nθ, nF, ez, eq⟩ := inv
      have hkeep := la.ext w2 H' x2 k2.le
      obtain ⟨walk, stop⟩ := wd w2 H' κ2 k2 hkeep
      by_cases hlt : i < r.1.1.length
      · obtain ⟨go, yld⟩ := walk i hlt
        refine .inr ⟨go, fun H'' => (∃ w2 κ2 accD accV zs, Ext w1 H1 w2 H'' ∧ Wok T w2 H'' κ2 ∧ H'' D = some (.lst accV) ∧ RVs T w2 accV accD ∧ D ∉ w2.θ ∧ w2.F D = none ∧ compLoop (stepC Γ own tg ifs elt σ) (r.1.1.drop (i + 1)) κ2 = .ok (zs, rr.2) ∧ rr.1 = accD ++ zs), fun H'' q => ⟨r.1.1.length - (i + 1), by omega, rfl, by omega, q⟩, fun v H3 y => ?_⟩
        obtain ⟨w3, d, ed, x3, k3, rd⟩ := yld v H3 y
        have hdrop : r.1.1.drop i = d :: r.1.1.drop (i + 1) := by
          rw [(List.drop_eq_getElem_cons hlt)]
          rw [List.getElem?_eq_getElem hlt] at ed
          cases ed
          rfl
        rw [hdrop] at ez
        simp only [compLoop] at ez
        obtain ⟨y1, ey1, ez⟩ := obind_ok ez
        obtain ⟨z1, ez1, ez⟩ := obind_ok ez
        simp only [Out.ok.injEq, Prod.mk.injEq] at ez
        obtain ⟨rfl, ez2⟩ := ez
        have ez1 : compLoop (stepC Γ own tg ifs elt σ) (r.1.1.drop (i + 1)) y1.2 = .ok (z1.1, rr.2) := by rw [← ez2]; exact ez1
        obtain ⟨σ', eσ, ey1⟩ := obind_ok ey1
        have eσ := opt_ok eσ
        obtain ⟨t, et, ey1⟩ := noexc_ok ey1
        have x13 := x2.trans x3
        refine ⟨w3, wipeS σ own, κ2, d, σ', k3, ((hs.ext e1).ext x13).wiped own, rd, eσ, fun σ2V hs2 chg => ⟨wipe_back chg fun j hj => ?_, ?_⟩⟩
        · cases tg with
          | v j' =>
            have : j = j' := by simpa [Tg.ix] using hj
            subst this
            simpa [tgIn] using hin
          | t is =>
            simp only [tgIn, List.all_eq_true, decide_eq_true_eq] at hin
            exact hin j hj
        refine ⟨w3, σ', κ2, k3, hs2, post_ok et fun w4 H4 e4 k4 => ?_⟩
        have x14 := x13.trans e4
        have hD4 : H4 D = some (.lst accV) := (x3.trans e4).keep D _ hDl nθ
        have nθ4 : D ∉ w4.θ := (x3.trans e4).offθ hDl nθ
        have nF4 : w4.F D = none := (x3.trans e4).offF hDl nF
        have rv4 := rv.mono (x3.trans e4).le
        show if t.1 = true then _ else _
        cases ht : t.1 with
        | false =>
          rw [if_neg (by simp [ht])] at ey1
          cases ey1
          rw [if_neg (by simp)]
          exact ⟨w4, t.2, accD, accV, z1.1, x14, k4, hD4, rv4, nθ4, nF4, ez1, by simpa using eq⟩
        | true =>
          rw [if_pos ht] at ey1
          obtain ⟨y5, ey5, ey1⟩ := noexc_ok ey1
          obtain ⟨dy, edy, ey1⟩ := obind_ok ey1
          have edy := opt_ok edy
          cases ey1
          rw [if_pos rfl]
          refine ⟨w4, σ', t.2, k4, hs2.ext e4, post_ok ey5 fun w5 H5 e5 k5 v5 hv5 hb5 hy5 => ?_⟩
          obtain ⟨w6, k6, e6, l6, rv6⟩ := hv5.give k5 edy e5 (hy5 (frz_tag edy))
          have hD6 : H5 D = some (.lst accV) := e6.keep D _ hD4 nθ4
          have nθ6 := e6.offθ hD4 nθ4
          have nF6 := e6.offF hD4 nF4
          refine ⟨accV, hD6, ?_, w6, y5.2, accD ++ [dy], accV ++ [v5], z1.1, (x14.trans e6).poke _ hD, k6.poke _ nθ6 nF6, upd_same, (rv4.mono e6.le).append (.one rv6), nθ6, nF6, ez1, by rw [eq]; simp⟩
          have := rv.length
          have : rr.1.length = accD.length + (1 + z1.1.length) := by rw [eq]; simp; omega
          omega
      · have e : i = r.1.1.length := by omega
        subst e
        refine .inl ⟨stop, ?_⟩
        rw [List.drop_length] at ez
        cases ez
        rw [List.append_nil] at eq
        rw [eq] at p3
        exact GE.own (p3 w2 H' (e1.trans x2) k2) hDl rv nθ nF hD0
/-! ### the block's context -/
theorem XG.blk {sc : Scope} {X : Cx} (g : XG T S Γ N n sc X) (s : Shared) (H : Hp) (scope : Scope) (C : Addr) (cl : List (Str × Addr)) (fp : List Addr) : XG T S Γ N n (relS scope sc) (X.blk s H scope (compEnvC scope cl C X.env) fp) where
  hK := g.hK
  hN := g.hN
  nd := g.nd
  hsc := by rw [← g.hsc]; rfl
  calm := g.calm
  gd := g.gd
  room := g.room
  lv := g.lv
  bi := g.bi
  gcd := g.gcd
  gl := g.gl
  call := g.call
  ins := g.ins
  ins2 := g.ins2
  insAll := g.insAll
  mkC := g.mkC
  eqF := g.eqF
theorem takes0 {X : Cx} : Takes X W0 := fun u s' ⟨a, B, sI, pins, σ, H, cls, d, e, I, nb, up, sky, na, os, ag, w⟩ => w.elim
abbrev PFok (T : Tb) (S : Sg) (Γ : Cxt) (N : List Str) (n : Nat) (e : E) : Prop := ∀ sc xs X, isEs S N none e sc xs = true → XG T S Γ N n sc X → PTs X xs (tIf T Γ e)
theorem ptsI {X : Cx} {e : List Expr} {t t' : TT} (h : PTs X e t) (k : ∀ σ H Q, t' σ H Q → t σ H Q) : PTs X e t' := ⟨fun pins s σ H Q I q => h.run pins s σ H Q I (k _ _ _ q)⟩
theorem pf_nil_ok : PFok T S Γ N n .nil := by
  intro sc xs X q g
  cases xs with
  | cons _ _ => simp [isEs] at q
  | nil =>
    refine ptsI pts_nil fun σV H Q h => ?_
    obtain ⟨w, σ, κ, hw, hs, p⟩ := h
    unfold evIf at p
    exact p.ok hw
theorem pts_bad {X : Cx} {e : E} {xs : List Expr} (h : ∀ σ κ, evIf Γ e σ κ = .bad) : PTs X xs (tIf T Γ e) :=
  ⟨fun pins s σV H Q I q => by obtain ⟨w, σ, κ, hw, hs, p⟩ := q; rw [h] at p; exact p.elim⟩
theorem pf_cons_ok {e es : E} (he : PTok T S Γ N n e) : PFok T S Γ N n (.cons e es) := by
  intro sc xs X q g
  cases es with
  | nil =>
    match xs, q with
    | [x], q =>
      simp only [isEs, Bool.and_eq_true] at q
      refine ptsI (pts_one (he sc x X W0 q.1 g takes0)) fun σV H Q h => ?_
      obtain ⟨w, σ, κ, hw, hs, p⟩ := h
      unfold evIf at p
      exact ⟨w, σ, κ, hw, hs, p⟩
    | [], q => simp [isEs] at q
    | _ :: _ :: _, q => simp [isEs] at q
  | _ => exact pts_bad fun σ κ => by unfold evIf; rfl
theorem folded_of {e : E} {sc : Scope} {x : Expr} (q : isIt S N none e sc x = true) (hn : notSet x = true) (env : Env) (v : Value) : foldedSetIterable x env v = pure v := by
  cases x <;> first | rfl | cases hn
theorem fn_blk {X : Cx} {s : Shared} {H : Hp} {scope : Scope} {cenv : Env} {fp : List Addr} : ∀ x, scope.names.lookup x = some .cell → (X.blk s H scope cenv fp).fn x = true := fun x h => by
  show (scope.names.lookup x == some .cell) = true
  rw [h]; rfl
theorem pe_comp_ok {own : List Nat} {tg : Tg} {it ifs elt : E} (hit : PIok T S Γ N n it) (hif : PFok T S Γ N n ifs) (hel : PEok T S Γ N n elt) : PEok T S Γ N n (.comp own tg it ifs elt) := by
  intro sc x X W q g tk
  cases x <;> try (simp [isE] at q; done)
  rename_i x gens scope pos
  cases gens with
  | nil => simp [isE] at q
  | cons gn rest =>
  cases rest with
  | cons _ _ => simp [isE] at q
  | nil =>
  obtain ⟨t, i, is, asy⟩ := gn
  by_cases hz : asy = 0
  case neg => simp [isE, hz] at q
  subst hz
  simp only [isE, Bool.and_eq_true, decide_eq_true_eq] at q
  obtain ⟨⟨⟨⟨⟨⟨⟨⟨q1, q2⟩, q3⟩, q4⟩, q5⟩, q6⟩, q7⟩, q8⟩, q9⟩ := q
  have ok : BlkOk X.N X.env.scope scope (ownN N own) := by rw [g.hN, g.hsc]; exact blkOk_by q1
  have hl := pe_lc (wi := tI T Γ it W) (g := gT T tg) (tt := tIf T Γ ifs) (te := tE T Γ elt W0) (pos := pos) g.calm (by rw [g.hN]; exact g.nd) (hit sc t i X W q4 q6 g tk) ok
    (fun s H C cl fp => pg_ok q3 ⟨g.hN, g.nd, (g.blk s H scope C cl fp).hsc, fn_blk⟩ g.hK g.calm) (fun s H C cl fp => hif _ is _ q8 (g.blk s H scope C cl fp)) (fun s H C cl fp => hel _ x _ W0 q9 (g.blk s H scope C cl fp) takes0) (folded_of q4 q5 X.env)
  rw [q2] at hl
  exact peI hl (comp_sem q7)
end
end R

/-! R15: fields, isinstance, own calls, making. -/
namespace R
open L2 PyProof.Rows PySem.Spec PySem
section
variable {T : Tb} {S : Sg} {Γ : Cxt} {N : List Str} {n : Nat}
theorem pe_rev_ok {a : E} (ha : PEok T S Γ N n a) : PEok T S Γ N n (.rev a) := by
  intro sc x X W q g tk
  cases x <;> try (simp [isE] at q; done)
  rename_i y sl pos
  cases sl <;> try (simp [isE] at q; done)
  rename_i l u st p2
  cases l <;> try (simp [isE] at q; done)
  cases u <;> try (simp [isE] at q; done)
  cases st <;> try (simp [isE] at q; done)
  rename_i st
  cases st <;> try (simp [isE] at q; done)
  rename_i op z p3
  cases op <;> try (simp [isE] at q; done)
  cases z <;> try (simp [isE] at q; done)
  rename_i c kk p4
  cases c <;> try (simp [isE] at q; done)
  rename_i i
  by_cases hi : i = 1
  case neg => simp [isE, hi] at q
  subst hi
  simp only [isE] at q
  refine peI (pe_revA (ha sc _ X W q g tk)) fun σV H Q h => ?_
  obtain ⟨w, σ, κ, hw, hs, p⟩ := h
  unfold ev at p
  refine tE_bind hw hs p fun r w1 H1 v er e k hs1 hv hb hy p => ?_
  obtain ⟨o, eo, p2⟩ := p.opt
  generalize ed : r.1.d = dx at eo
  unfold revD at eo
  rw [g.hK]
  split at eo
  · cases eo
    obtain ⟨a', vs, rfl, qt, rv⟩ := rd_tup hv k ed
    refine ⟨a', vs, false, rfl, qt, fun p hp => ?_⟩
    have z := k.laid (.tup vs.reverse) hp
    exact GE.fz (p2 _ _ (e.trans z.2) z.1) (.tup (.inl (.inl (by show upd _ _ _ _ = _; exact upd_same))) (rv.reverse.mono (le_put _ (k.noF hp))))
  · cases eo
    obtain ⟨a', vs, rfl, qt, rv⟩ := rd_lst hv k ed
    refine ⟨a', vs, true, rfl, SqL.of qt, fun p hp => ?_⟩
    have z := k.own (.lst vs.reverse) hp
    exact GE.own (p2 _ _ (e.trans z.2) z.1) upd_same rv.reverse (k.offθ hp) (k.noF hp) (e.dom p hp)
  · cases eo
/-! ### fields -/
theorem look_zip {α : Type} {f : Str} : ∀ {nms : List Str} {vs : List α} {j : Nat} {v : α}, nms.Nodup → nms[j]? = some f → vs[j]? = some v → (nms.zip vs).lookup f = some v
  | [], _, _, _, _, h, _ => by (simp at h)
  | _ :: _, [], _, _, _, _, h => by (simp at h)
  | a :: nms, b :: vs, 0, v, nd, h, k => by
    simp at h k
    subst h k
    simp [List.lookup]
  | a :: nms, b :: vs, j + 1, v, nd, h, k => by
    have h' : nms[j]? = some f := by simpa using h
    have k' : vs[j]? = some v := by simpa using k
    obtain ⟨n1, n2⟩ := (List.nodup_cons.mp nd)
    have ne : f ≠ a := fun z => n1 (by rw [← z]; exact List.mem_of_getElem? h')
    rw [List.zip_cons_cons, List.lookup_cons]
    rw [show (f == a) = false from by simpa using ne]
    exact look_zip n2 h' k'
theorem lookup_mem {c j : Nat} : ∀ {m : List (Nat × Nat)}, m.lookup c = some j → (c, j) ∈ m
  | [], h => by simp at h
  | (a, b) :: m, h => by
    rw [List.lookup_cons] at h
    cases e : (c == a) with
    | true =>
      rw [e] at h
      have e := eq_of_beq e
      simp only [Option.some.injEq, id] at h
      subst e h
      exact List.mem_cons_self
    | false => rw [e] at h; exact List.mem_cons_of_mem _ (lookup_mem h)
theorem base_of {x : Expr} (h : notCall x = true) (f : Str) (env : Env) : attributeBase x f env (eval x env) = eval x env := by
  cases x <;> first | rfl | cases h
theorem pe_fld_ok {a : E} {m : List (Nat × Nat)} (ha : PEok T S Γ N n a) : PEok T S Γ N n (.fld a m) := by
  intro sc x X W q g tk
  cases x <;> try (simp [isE] at q; done)
  rename_i y f pos
  simp only [isE, Bool.and_eq_true, List.all_eq_true] at q
  obtain ⟨⟨q1, q2⟩, q3⟩ := q
  refine peI (pe_fld (ha sc y X W q1 g tk) (base_of q2 f X.env)) fun σV H Q h => ?_
  obtain ⟨w, σ, κ, hw, hs, p⟩ := h
  unfold ev at p
  refine tE_bind hw hs p fun r w1 H1 v er e k hs1 hv hb hy p => ?_
  have p := p.step e
  generalize ed : r.1.d = dx at p
  cases dx with
  | ins c fs =>
    obtain ⟨d, ed2, p2⟩ := (show Post T w1 H1 ((opt ((m.lookup c).bind fun j => fs[j]?)).bind fun d => _) _ _ from p).opt
    rw [Option.bind_eq_some_iff] at ed2
    obtain ⟨j, ej, efs⟩ := ed2
    have hv : RV T w1 v (.ins c fs) := rd_fz hv ed (by cases ho : r.1 <;> simp_all [O.d, O.place])
    cases hv with
    | @ins a' _ C dx nms vs _ hc hF hl rs =>
      obtain ⟨ok, ⟨xn, hx, _⟩, nd, na⟩ := g.ins c C nms hc
      obtain ⟨u, eu, ru⟩ := rs.get efs
      have q4 := q3 (c, j) (lookup_mem ej)
      simp only [hx, decide_eq_true_eq] at q4
      rw [g.hK]
      exact ⟨a', C, dx, _, u, rfl, k.le _ _ hF, ok.cl, na f (List.mem_of_getElem? q4), look_zip nd q4 eu, GE.fz (p2.ok k) ru⟩
  | _ => exact p.elim
/-! ### isinstance -/
theorem pe_bty {X : Cx} {x : Str} {ty : String} {pos : Pos} (hg : Gl X x) (hm : X.mg x = none) (hv : bootBuiltins x = some (.type ty)) (hn : x ≠ "__name__") (hd : (x == ("__debug__" : Str)) = false) : PE X (.Name x pos) (tC (.ty ty)) :=
  ⟨fun pins s σ H Q I h => ld_blt I hg hm hv ⟨.ty ty, H, I, rfl, h⟩ hn hd⟩
/-- the type's name; the object of an own class -/
def tyV (T : Tb) : Ty → Option V
  | .int => some (.ty "int") | .bool => some (.ty "bool") | .str => some (.ty "str") | .tuple => some (.ty "tuple") | .list => some (.ty "list")
  | .cls c => (T.ins c).map fun p => .ref p.1
theorem pe_ty {sc : Scope} {X : Cx} {ty : Ty} {x : Str} {pos : Pos} (g : XG T S Γ N n sc X) (h : ty.okB S x = true) (hg : glB sc x = true) (hd : notDbg x = true) : ∃ v, tyV T ty = some v ∧ PE X (.Name x pos) (tC v) := by
  have hgl := gl_of hg g.hsc
  cases ty <;> simp only [Ty.okB, decide_eq_true_eq] at h
  · subst h; exact ⟨_, rfl, pe_bty hgl (g.bi_of _) (by decide +kernel) (by decide) (by decide)⟩
  · subst h; exact ⟨_, rfl, pe_bty hgl (g.bi_of _) (by decide +kernel) (by decide) (by decide)⟩
  · subst h; exact ⟨_, rfl, pe_bty hgl (g.bi_of _) (by decide +kernel) (by decide) (by decide)⟩
  · subst h; exact ⟨_, rfl, pe_bty hgl (g.bi_of _) (by decide +kernel) (by decide) (by decide)⟩
  · subst h; exact ⟨_, rfl, pe_bty hgl (g.bi_of _) (by decide +kernel) (by decide) (by decide)⟩
  · rename_i c
    cases ec : S.cls[c]? with
    | none => rw [ec] at h; cases h
    | some p =>
      rw [ec] at h
      simp only [decide_eq_true_eq, Bool.and_eq_true] at h
      obtain ⟨C, nms, hc⟩ := g.insAll c h.2
      obtain ⟨_, ⟨xn, hx, hm⟩, _⟩ := g.ins c C nms hc
      rw [ec] at hx
      cases hx
      simp only at h
      rw [h.1] at hm
      exact ⟨.ref C, by simp [tyV, hc], pe_glob hgl hm rfl (dbg_of hd).1⟩
/-- the built-in types' own table -/
theorem kit_tab {K : PySem.W.Frag} : PySem.W.kitOne K (.type "NoneType") (.type "int") = some false := kit_ty (by decide +kernel)
theorem isi_D {sc : Scope} {X : Cx} {w : Wd} {H : Hp} {κ : Cells} {v vt : V} {d : D} {ty : Ty} (g : XG T S Γ N n sc X) (k : Wok T w H κ) {o : O} (hv : RO T w H v o) (ed : o.d = d) (ht : hasTy d = true) (hty : tyV T ty = some vt) :
    ∃ (t u : Value), ClsV vt u ∧ TyX T.K H v t ∧ PySem.W.kitOne T.K t u = some (isTy d ty) := by
  have ok : ∀ c C nms, T.ins c = some (C, nms) → InsOk T.K C := fun c C nms h => (g.ins c C nms h).1
  have base : ∀ (t : String), t ∈ (["NoneType", "int", "bool", "str", "tuple", "list"] : List String) → TyX T.K H v (.type t) → (∀ u, tyV T ty = some (.ty u) → kitB t u = some (isTy d ty)) → (∀ c, ty = .cls c → isTy d ty = false) → ∃ (t u : Value), ClsV vt u ∧ TyX T.K H v t ∧ PySem.W.kitOne T.K t u = some (isTy d ty) := fun t hm hx h1 h2 => by
    cases ty with
    | cls c =>
      simp only [tyV, Option.map_eq_some_iff] at hty
      obtain ⟨⟨C, nms⟩, hc, rfl⟩ := hty
      exact ⟨_, _, .own C, hx, by rw [h2 c rfl]; exact (ok c C nms hc).of t hm⟩
    | _ => cases hty; exact ⟨_, _, .ty _, hx, kit_ty (h1 _ rfl)⟩
  have fz : o.place = false → RV T w v d := rd_fz hv ed
  cases d with
  | non =>
    have hv := fz (by cases o <;> simp_all [O.d, O.place])
    cases hv
    exact base "NoneType" (by decide) (.base .non) (fun u e => by cases ty <;> simp [tyV] at e <;> subst e <;> first | exact (show kitB _ _ = some false by decide +kernel) | exact (show kitB _ _ = some true by decide +kernel)) fun c e => rfl
  | bl b =>
    have hv := fz (by cases o <;> simp_all [O.d, O.place])
    cases hv
    exact base "bool" (by decide) (.base (.bl b)) (fun u e => by cases ty <;> simp [tyV] at e <;> subst e <;> first | exact (show kitB _ _ = some false by decide +kernel) | exact (show kitB _ _ = some true by decide +kernel)) fun c e => by subst e; rfl
  | int i =>
    have hv := fz (by cases o <;> simp_all [O.d, O.place])
    cases hv
    exact base "int" (by decide) (.base (.int i)) (fun u e => by cases ty <;> simp [tyV] at e <;> subst e <;> first | exact (show kitB _ _ = some false by decide +kernel) | exact (show kitB _ _ = some true by decide +kernel)) fun c e => by subst e; rfl
  | str x =>
    have hv := fz (by cases o <;> simp_all [O.d, O.place])
    cases hv
    exact base "str" (by decide) (.base (.str x)) (fun u e => by cases ty <;> simp [tyV] at e <;> subst e <;> first | exact (show kitB _ _ = some false by decide +kernel) | exact (show kitB _ _ = some true by decide +kernel)) fun c e => by subst e; rfl
  | tup xs =>
    obtain ⟨a, vs, rfl, qt, _⟩ := rd_tup hv k ed
    have hx : TyX T.K H (.ref a) (.type "tuple") := by
      rcases qt with (h | ⟨o, h⟩) | ⟨o, its, m, h, c, _⟩
      · exact .base (.tup h)
      · exact .fTuple h
      · exact .kTuple h c
    exact base "tuple" (by decide) hx (fun u e => by cases ty <;> simp [tyV] at e <;> subst e <;> first | exact (show kitB _ _ = some false by decide +kernel) | exact (show kitB _ _ = some true by decide +kernel)) fun c e => by subst e; rfl
  | lst xs =>
    obtain ⟨a, vs, rfl, qt, _⟩ := rd_lst hv k ed
    exact base "list" (by decide) (.base (.lst qt)) (fun u e => by cases ty <;> simp [tyV] at e <;> subst e <;> first | exact (show kitB _ _ = some false by decide +kernel) | exact (show kitB _ _ = some true by decide +kernel)) fun c e => by subst e; rfl
  | ins c fs =>
    have hv := fz (by cases o <;> simp_all [O.d, O.place])
    cases hv with
    | @ins a _ C dx nms vs _ hc hF hl rs =>
      have kk := ok c C nms hc
      have hx : TyX T.K H (.ref a) (.ref C) := .base (.ins (k.le _ _ hF) kk.cl kk.ha kk.hn kk.htk kk.hm)
      cases ty with
      | cls c' =>
        simp only [tyV, Option.map_eq_some_iff] at hty
        obtain ⟨⟨C', nms'⟩, hc', rfl⟩ := hty
        refine ⟨_, _, .own C', hx, ?_⟩
        by_cases hcc : c = c'
        · subst hcc
          rw [hc] at hc'
          cases hc'
          rw [kk.self]
          simp [isTy]
        · rw [g.ins2 c c' C C' nms nms' hcc hc hc']
          simp [isTy, hcc]
      | _ => cases hty; exact ⟨_, _, .ty _, hx, kk.to _ (by decide)⟩
  | _ => cases ht
theorem pe_isi_ok {a : E} {tys : List Ty} {many : Bool} (ha : PEok T S Γ N n a) : PEok T S Γ N n (.isi a tys many) := by
  intro sc x X W q g tk
  cases x <;> try (simp [isE] at q; done)
  rename_i fn args kws pos
  cases fn <;> try (simp [isE] at q; done)
  rename_i nm np
  match args, kws, q with
  | [y, t], [], q =>
    simp only [isE, Bool.and_eq_true, decide_eq_true_eq] at q
    obtain ⟨⟨⟨rfl, q1⟩, q2⟩, q3⟩ := q
    cases many with
    | true => cases t <;> simp [tysOne] at q3
    | false =>
      cases t <;> try (simp [tysOne] at q3; done)
      rename_i tn tp
      simp only [tysOne, Bool.and_eq_true, beq_iff_eq] at q3
      obtain ⟨q3, q4⟩ := q3
      match tys, q3 with
      | [ty], _ =>
        simp only [tysB, Bool.and_eq_true, Bool.and_true] at q4
        obtain ⟨⟨h1, h2⟩, h3⟩ := q4
        obtain ⟨vt, hvt, hpt⟩ := pe_ty (pos := tp) g h1 h2 h3
        refine peI (pe_callB call_isi (gl_of q1 g.hsc) (g.bi_of _) (by decide +kernel) (pa_cons (ha sc y X W q2 g tk) (pa_cons hpt pa_nil rfl) (notStar q2 X.env _)) (by decide) (by decide) (notStar q2 X.env _) rfl) fun σV H Q h => ?_
        obtain ⟨w, σ, κ, hw, hs, p⟩ := h
        unfold ev at p
        refine tE_bind hw hs p fun r w1 H1 v er e k hs1 hv hb hy p => ?_
        have p := p.step e
        by_cases ht : hasTy r.1.d = true
        · rw [if_pos ht] at p
          obtain ⟨t, u, c1, c2, c3⟩ := isi_D g k hv rfl ht hvt
          have z : ([ty].any (isTy r.1.d)) = isTy r.1.d ty := by simp
          rw [z] at p
          exact ⟨v, vt, t, u, _, rfl, c1, by rw [g.hK]; exact c2, by rw [g.hK]; exact c3, GE.fz (p.ok k) (.bl _)⟩
        · rw [if_neg ht] at p; exact p.elim
  | [], _, q => simp [isE] at q
  | [_], _, q => simp [isE] at q
  | _ :: _ :: _ :: _, _, q => simp [isE] at q
  | [_, _], _ :: _, q => simp [isE] at q
end
end R

/-! R16: own calls, making. -/
namespace R
open L2 PyProof.Rows PySem.Spec PySem
section
variable {X : Cx} {k : Nat} {f C : Addr} {fd : FuncData} {ps : List Str} {sp : Sp} {W : WX} {pins : List (Addr × Obj)} {σ : L2.St} {H : Hp} {s : Shared} {Q : VK} {us : List Value} {vs : List V}
/-- the callee runs -/
theorem run_G (F : FnG X.prog X.w X.K X.mg X.base k f fd ps sp) (hr : Room k X.A) (hgd : X.A.guards = some []) (hb : Binds X.K fd ps []) (tk : Takes X W) (I : Inv X pins σ H s) (r : Vals vs us) (h : sp vs H Q (fun c d H' => W c d σ H')) :
    (wpAny (model X.prog X.w) X.A (call (.ref f) us) (EP X pins σ Q) X.xe s) := by
  have hl : (us.length = ps.length) := by rw [← r.length]; exact F.len _ _ _ _ h
  have hb' := hb s us I.kIn (by rw [List.append_nil]; exact hl)
  rw [List.append_nil] at hb'
  refine wpAny_call (codeAny_mono (F.run X.A X.stack s H ⟨us, []⟩ us vs Q _ hr hgd I.env0 hb' r h) fun z s' hq => ?_)
  cases z with
  | error e => exact tk e s' (XE.of_call I (fun _ _ _ h => h) hq)
  | ok fl =>
    cases fl with
    | ret u => exact I.after hq
    | next => exact hq.elim
    | brk => exact hq.elim
    | cont => exact hq.elim
def tCallG (sp : Sp) (W : WX) (t : TA) : TE := fun σ H Q => t σ H fun vs H1 => sp vs H1 Q (fun c d H' => W c d σ H')
theorem pe_callG {S : Sg} {N : List Str} {es : E} {sc : Scope} {x : Str} {p pos : Pos} {xs : List Expr} {t : TA} (F : FnG X.prog X.w X.K X.mg X.base k f fd ps sp) (hr : Room k X.A) (hgd : X.A.guards = some []) (hg : Gl X x) (hm : X.mg x = some (.ref f)) (hk : PySem.W.keepIn X.K (.ref f) = true) (hb : Binds X.K fd ps [])
    (tk : Takes X W) (ha : PA X xs t) (hs : ∀ env y ys, xs = y :: ys → starEach xs env = (false, eval y env) :: starEach ys env ∧ (backTo pos (starEach ys env)).any (·.1) = false) (hdb : (x == ("__debug__" : Str)) = false) (h0 : ∀ σ H Q, xs = [] → t σ H Q → Q [] H) :
    PE X (.Call (.Name x p) xs [] pos) (tCallG sp W t) := by
  refine (⟨fun pins s σ H Q I h => ?_⟩)
  refine (wpAny_Call_Name_kw (ld_glob I hg hm ?_ hdb))
  cases xs with
  | nil => exact PySem.W.callWith_K0 I.kIn hk (run_G (us := []) F hr hgd hb tk I .nil (h0 _ _ _ rfl h))
  | cons y ys =>
    obtain ⟨h1, h2⟩ := hs X.env y ys rfl
    exact PySem.W.callWith_K (h₀ := X.base) I.ok.mod.kin hk (thn (ha.run pos pins s σ H _ I h) fun us s1 ⟨vs, H1, I1, r, q⟩ => ⟨I1.kIn, run_G F hr hgd hb tk I1 r q⟩) h1 h2
theorem run_mkG (M : Mk X.K C f) (F : FnG X.prog X.w X.K X.mg X.base 1 f fd ps sp) (hr : Room 2 X.A) (hgd : X.A.guards = some []) (hb : Binds X.K fd ps []) (tk : Takes X W) (I : Inv X pins σ H s) (r : Vals vs us)
    (h : ∀ x dx, H x = none → H dx = none → dx ≠ x → sp (.ref x :: vs) (upd (upd H dx (.own x)) x (.ins C dx [])) (fun v H2 => v = .non ∧ Q (.ref x) H2) (fun c d H' => W c d σ H')) :
    (wpAny (model X.prog X.w) X.A (call (.ref C) us) (EP X pins σ Q) X.xe s) := by
  have hq := (h (s.heap.objs.size + 1) s.heap.objs.size (I.hok.fresh (Nat.le_succ _)) (I.hok.fresh (Nat.le_refl _)) (Nat.ne_of_lt (Nat.lt_succ_self _)))
  have I2 := (Inv.made (C := C) I)
  have r2 : Vals (V.ref (s.heap.objs.size + 1) :: vs) (Value.ref (s.heap.objs.size + 1) :: us) := (.cons rfl r)
  have hl : (Value.ref (s.heap.objs.size + 1) :: us).length = ps.length := by rw [← r2.length]; exact F.len _ _ _ _ hq
  have hb' := hb _ (Value.ref (s.heap.objs.size + 1) :: us) I2.kIn (by rw [List.append_nil]; exact hl)
  rw [List.append_nil] at hb'
  refine wpAny_call (make_map (f := f) I.kIn M.makes M.init (beq_iff_eq.mp M.fn) (codeAny_mono (F.run _ X.stack _ _ ⟨Value.ref (s.heap.objs.size + 1) :: us, []⟩ (Value.ref (s.heap.objs.size + 1) :: us) _ _ _ (hr.make C us [])
    (by exact hgd) (I2.env0.make C us []) hb' r2 hq) fun z s' hq' => ?_))
  cases z with
  | error e => exact tk e s' (XE.of_call I2 (fun _ _ _ h => h) hq')
  | ok fl =>
    cases fl with
    | ret u =>
      obtain ⟨v, H', I3, rv, ev, q3⟩ := (I2.after hq')
      subst ev
      exact (⟨rv, ⟨V.ref (s.heap.objs.size + 1), H', I3, rfl, q3⟩⟩)
    | next => exact hq'.elim
    | brk => exact hq'.elim
    | cont => exact hq'.elim
def tMakeG (C : Addr) (sp : Sp) (W : WX) (t : TA) : TE := fun σ H Q => t σ H fun vs H1 => ∀ x dx, H1 x = none → H1 dx = none → dx ≠ x → sp (.ref x :: vs) (upd (upd H1 dx (.own x)) x (.ins C dx [])) (fun v H2 => v = .non ∧ Q (.ref x) H2) (fun c d H' => W c d σ H')
theorem pe_makeG {x : Str} {p pos : Pos} {y : Expr} {ys : List Expr} {t : TA} (M : Mk X.K C f) (F : FnG X.prog X.w X.K X.mg X.base 1 f fd ps sp) (hr : Room 2 X.A) (hgd : X.A.guards = some []) (hg : Gl X x) (hm : X.mg x = some (.ref C)) (hb : Binds X.K fd ps [])
    (tk : Takes X W) (ha : PA X (y :: ys) t) (hs : starEach (y :: ys) X.env = (false, eval y X.env) :: starEach ys X.env) (hpl : (backTo pos (starEach ys X.env)).any (·.1) = false) (hdb : (x == ("__debug__" : Str)) = false) : PE X (.Call (.Name x p) (y :: ys) [] pos) (tMakeG C sp W t) := by
  refine (⟨fun pins s σ H Q I h => ?_⟩)
  refine (wpAny_Call_Name_kw (ld_glob I hg hm ?_ hdb))
  exact PySem.W.callWith_K (h₀ := X.base) I.ok.mod.kin M.kp (thn (ha.run pos pins s σ H _ I h) fun us s1 ⟨vs, H1, I1, r, q⟩ => ⟨I1.kIn, run_mkG M F hr hgd hb tk I1 r q⟩) hs hpl
end
section
variable {T : Tb} {S : Sg} {Γ : Cxt} {N : List Str} {n : Nat}
theorem isEs_cons {e : E} {sc : Scope} {y : Expr} {ys : List Expr} (h : isEs S N none e sc (y :: ys) = true) : ∃ a b, e = .cons a b ∧ isE S N none a sc y = true ∧ isEs S N none b sc ys = true := by
  cases e <;> try (simp [isEs] at h; done)
  rename_i a b
  simp only [isEs, Bool.and_eq_true] at h
  exact ⟨a, b, rfl, h.1, h.2⟩
theorem star_of {e : E} {sc : Scope} {xs : List Expr} {pos : Pos} (h : isEs S N none e sc xs = true) : ∀ env y ys, xs = y :: ys → starEach xs env = (false, eval y env) :: starEach ys env ∧ (backTo pos (starEach ys env)).any (·.1) = false := fun env y ys z => by
  subst z
  obtain ⟨a, b, rfl, h1, h2⟩ := isEs_cons h
  exact ⟨notStar h1 env ys, plain_star h2⟩
theorem evs_nil {es : E} {sc : Scope} {W : WX} (h : isEs S N none es sc [] = true) : ∀ σ H Q, tA T Γ es W σ H Q → Q [] H := fun σV H Q q => by
  cases es <;> try (simp [isEs] at h; done)
  obtain ⟨w, σ, κ, hw, hs, p⟩ := q
  unfold evs at p
  exact p.ok hw [] .nil
theorem pe_call_ok {f : Nat} {es : E} (hes : PAok T S Γ N n es) : PEok T S Γ N n (.call f es) := by
  intro sc x X W q g tk
  cases x <;> try (simp [isE] at q; done)
  rename_i fn xs kws pos
  cases fn <;> try (simp [isE] at q; done)
  rename_i nm np
  cases kws with
  | cons _ _ => simp [isE] at q
  | nil =>
  simp only [isE, Bool.and_eq_true, decide_eq_true_eq] at q
  obtain ⟨⟨⟨⟨q1, q2⟩, q3⟩, q4⟩, q0⟩ := q
  obtain ⟨a, fd, ps, hm, hk, F, hb⟩ := g.call f nm q1 q0
  refine peI (pe_callG (S := S) (N := N) (es := es) (sc := sc) F g.room g.gd (gl_of q2 g.hsc) hm hk hb tk (hes sc xs X W q4 g tk) (star_of q4) (dbg_of q3).1 fun σ H Q z => by subst z; exact evs_nil q4 σ H Q) fun σV H Q h => ?_
  obtain ⟨w, σ, κ, hw, hs, p⟩ := h
  unfold ev at p
  refine tA_bind hw hs p fun r w1 H1 vs er e k hs1 hv p => ⟨w1, r.2, r.1, hv, k, (p.step e).bind.imp fun r2 w2 H2 _ e2 k2 p2 v rv => ?_⟩
  exact GE.fz (σV := σV) (H₀ := H) (Post.ok (r := (O.fz r2.1, r2.2)) p2 k2) rv
theorem evs_count {e : E} : ∀ {sc : Scope} {xs : List Expr} {σ : Sl} {κ : Cells} {r : List D × Cells}, isEs S N none e sc xs = true → evs Γ e σ κ = .ok r → r.1.length = xs.length := by
  induction e with
  | nil =>
    intro sc xs σ κ r h er
    cases xs with
    | nil => unfold evs at er; cases er; rfl
    | cons _ _ => simp [isEs] at h
  | cons a b _ ih =>
    intro sc xs σ κ r h er
    cases xs with
    | nil => simp [isEs] at h
    | cons y ys =>
      simp only [isEs, Bool.and_eq_true] at h
      unfold evs at er
      obtain ⟨x, e1, er⟩ := obind_ok er
      obtain ⟨d, e2, er⟩ := obind_ok er
      obtain ⟨z, e3, er⟩ := obind_ok er
      have e4 := ih h.2 e3
      split at er
      · cases er
        simp [e4]
      · cases er
  | _ => intro sc xs σ κ r h er; simp [isEs] at h
theorem pe_make_ok {c : Nat} {es : E} (hes : PAok T S Γ N n es) : PEok T S Γ N n (.make c es) := by
  intro sc x X W q g tk
  cases x <;> try (simp [isE] at q; done)
  rename_i fn xs kws pos
  cases fn <;> try (simp [isE] at q; done)
  rename_i nm np
  cases kws with
  | cons _ _ => simp [isE] at q
  | nil =>
  simp only [isE, Bool.and_eq_true, decide_eq_true_eq] at q
  obtain ⟨⟨⟨q1, q2⟩, q3⟩, q4⟩ := q
  cases ec : S.cls[c]? with
  | none => rw [ec] at q1; cases q1
  | some pr =>
  rw [ec] at q1
  simp only [Bool.and_eq_true, decide_eq_true_eq] at q1
  obtain ⟨⟨⟨q5, q6⟩, q7⟩, q8⟩ := q1
  obtain ⟨C, nms, hc⟩ := g.insAll c q8
  obtain ⟨ok, ⟨xn, hx, hm⟩, nd, na⟩ := g.ins c C nms hc
  obtain ⟨fI, fd, ps, M, F, hb⟩ := g.mkC c C nms hc
  rw [ec] at hx
  cases hx
  simp only at q5 q6 q7
  subst q5
  cases xs with
  | nil => simp at q7; subst q7; simp at q6
  | cons y ys =>
  obtain ⟨s1, s2⟩ := star_of (pos := pos) q4 X.env y ys rfl
  refine peI (pe_makeG M F (g.room.mono g.lv) g.gd (gl_of q2 g.hsc) hm hb tk (hes sc _ X W q4 g tk) s1 s2 (dbg_of q3).1) fun σV H Q h => ?_
  obtain ⟨w, σ, κ, hw, hs, p⟩ := h
  unfold ev at p
  refine tA_bind hw hs p fun r w1 H1 vs er e k hs1 hv p x dx hx hdx ne => ?_
  have hl : vs.length = nms.length := by rw [hv.length, evs_count q4 er, q7]
  refine ⟨x, dx, vs, rfl, hl, upd_same, ne, rfl, ?_⟩
  have z1 := k.laid (.own x) hdx
  have hx2 : upd H1 dx (.own x) x = none := by rw [upd_ne (fun z => ne z.symm)]; exact hx
  have z2 := z1.1.laid (.ins C dx (nms.zip vs)) hx2
  have le := z1.2.le.trans z2.2.le
  rw [show upd (upd (upd H1 dx (.own x)) x (.ins C dx [])) x (.ins C dx (nms.zip vs)) = upd (upd H1 dx (.own x)) x (.ins C dx (nms.zip vs)) from by funext b; unfold upd; split <;> rfl]
  exact GE.fz (p _ _ ((e.trans z1.2).trans z2.2) z2.1) (.ins hc (by show upd _ _ _ _ = _; exact upd_same) hl.symm (hv.mono le))
end
end R

/-! R17: list(range(..)), dicts as cells, own ==. -/
namespace R
open L2 PyProof.Rows PySem.Spec PySem
section
variable {T : Tb} {S : Sg} {Γ : Cxt} {N : List Str} {n : Nat}
/-! ### list(range(..)) -/
theorem rvs_rg {w : Wd} {lo hi : Int} {ds : List D} (h : rangeD lo hi = some ds) : RVs T w (rgV lo hi) ds ∧ ds.length = (hi - lo).toNat := by
  unfold rangeD at h
  split at h
  · cases h
    refine ⟨?_, by simp⟩
    unfold rgV
    generalize (hi - lo).toNat = m
    have key : ∀ l : List Nat, RVs T w (l.map fun i => V.int (lo + (i : Nat))) (l.map fun (k : Nat) => D.int (lo + (k : Int))) := fun l => by
      induction l with
      | nil => exact .nil
      | cons a l ih => exact .cons (.int _) ih
    exact key _
  · cases h
theorem pe_lrng_ok {it : E} (h1 : ∀ a, it = .rng1 a → PEok T S Γ N n a) (h2 : ∀ a b, it = .rng2 a b → PEok T S Γ N n a ∧ PEok T S Γ N n b) : PEok T S Γ N n (.lrng it) := by
  intro sc x X W q g tk
  cases x <;> try (simp [isE] at q; done)
  rename_i fn xs kws pos
  cases fn <;> try (simp [isE] at q; done)
  rename_i nm np
  match xs, kws, q with
  | [y], [], q =>
    simp only [isE, Bool.and_eq_true, decide_eq_true_eq] at q
    obtain ⟨⟨⟨rfl, q1⟩, q2⟩, q3⟩ := q
    have fin : ∀ {lo hi : Int} {ds : List D} {w : Wd} {σ : Sl} {κ : Cells} {w1 : Wd} {H H1 : Hp} {σV : L2.St} {Q : VK}, rangeD lo hi = some ds → ds.length ≤ sizeLine → Ext w H w1 H1 → Wok T w1 H1 κ → Post T w H (.ok (O.ol none ds, κ)) (fun c d H' => W c d σV H') (GE T H σV Q) → RgOk lo hi ∧ ∀ q, H1 q = none → Q (.ref q) (upd H1 q (.lst (rgV lo hi))) := fun {lo hi ds w σ κ w1 H H1 σV Q} e1 e2 x k p => by
      have sm := rng_small e1
      obtain ⟨rv, hl⟩ := rvs_rg (T := T) (w := w1) e1
      rw [hl] at e2
      have e3 := sizeLine_eq
      refine ⟨⟨sm.1, sm.2.1, sm.2.2.1, sm.2.2.2, by omega⟩, fun p' hp => ?_⟩
      have z := k.own (.lst (rgV lo hi)) hp
      exact GE.own (p _ _ (x.trans z.2) z.1) upd_same rv (k.offθ hp) (k.noF hp) (x.dom p' hp)
    cases it <;> try (cases q3; done)
    · rename_i a
      cases y <;> try (simp [isIt] at q2; done)
      rename_i fn xs kws p2
      cases fn <;> try (simp [isIt] at q2; done)
      match xs, kws, q2 with
      | [z], [], q2 =>
        simp only [isIt, Bool.and_eq_true, decide_eq_true_eq] at q2
        obtain ⟨⟨rfl, q4⟩, q5⟩ := q2
        refine peI (pe_listRg g.calm (gl_of q1 g.hsc) (g.bi_of _) (prg_1 (gl_of q4 g.hsc) (g.bi_of _) (h1 a rfl sc z X W q5 g tk) (notStar q5 X.env [])) rfl) fun σV H Q h => ?_
        obtain ⟨w, σ, κ, hw, hs, p⟩ := h
        unfold ev evIt at p
        have p : Post T w H ((ev Γ a σ κ).bind fun x => (match x.1.d with | .int j => (opt (rangeD 0 j)).bind fun xs => Out.ok ((xs, ([] : List Nat)), x.2) | _ => .bad).bind fun r => if r.1.1.length ≤ sizeLine then .ok (O.ol none r.1.1, r.2) else .bad) (fun c d H' => W c d σV H') (GE T H σV Q) := by
          cases er : ev Γ a σ κ <;> rw [er] at p <;> exact p
        refine tE_bind hw hs p fun r w1 H1 v er e k hs1 hv hb hy p => ?_
        generalize ed : r.1.d = dx at p
        cases dx with
        | int j =>
          cases er2 : rangeD 0 j with
          | none => simp only [er2, opt, Out.bind] at p; exact p.elim
          | some ds =>
            simp only [er2, opt, Out.bind] at p
            by_cases hz : ds.length ≤ sizeLine
            · rw [if_pos hz] at p
              cases rd_int hv ed
              exact ⟨j, rfl, fin (σ := σ) er2 hz e k p⟩
            · rw [if_neg hz] at p; exact p.elim
        | _ => exact p.elim
      | [], _, q2 => simp [isIt] at q2
      | _ :: _ :: _, _, q2 => simp [isIt] at q2
      | [_], _ :: _, q2 => simp [isIt] at q2
    · rename_i a b
      cases y <;> try (simp [isIt] at q2; done)
      rename_i fn xs kws p2
      cases fn <;> try (simp [isIt] at q2; done)
      match xs, kws, q2 with
      | [z, z'], [], q2 =>
        simp only [isIt, Bool.and_eq_true, decide_eq_true_eq] at q2
        obtain ⟨⟨⟨rfl, q4⟩, q5⟩, q6⟩ := q2
        obtain ⟨ha, hb⟩ := h2 a b rfl
        have st2 := notStar q6 X.env []
        refine peI (pe_listRg g.calm (gl_of q1 g.hsc) (g.bi_of _) (prg_2 (gl_of q4 g.hsc) (g.bi_of _) (ha sc z X W q5 g tk) (hb sc z' X W q6 g tk) (notStar q5 X.env _) st2 (by rw [st2]; rfl)) rfl) fun σV H Q h => ?_
        obtain ⟨w, σ, κ, hw, hs, p⟩ := h
        unfold ev evIt at p
        have p : Post T w H ((ev Γ a σ κ).bind fun x => (ev Γ b σ x.2).bind fun y => (match x.1.d, y.1.d with | .int i, .int j => (opt (rangeD i j)).bind fun xs => Out.ok ((xs, ([] : List Nat)), y.2) | _, _ => .bad).bind fun r => if r.1.1.length ≤ sizeLine then .ok (O.ol none r.1.1, r.2) else .bad) (fun c d H' => W c d σV H') (GE T H σV Q) := by
          cases er : ev Γ a σ κ with
          | ok r =>
            rw [er] at p
            simp only [Out.bind] at p ⊢
            cases er2 : ev Γ b σ r.2 <;> rw [er2] at p <;> exact p
          | _ => rw [er] at p; exact p
        refine tE_bind hw hs p fun r w1 H1 v er e k hs1 hv hb hy p => ?_
        refine tE_bindB e k hs1 p fun r2 w2 H2 v2 er2 e2 k2 hs2 hv2 hb2 hy2 p => ?_
        generalize ed : r.1.d = dx at p
        generalize ed2 : r2.1.d = dy at p
        cases dx with
        | int i =>
          cases dy with
          | int j =>
            cases er3 : rangeD i j with
            | none => simp only [er3, opt, Out.bind] at p; exact p.elim
            | some ds =>
              simp only [er3, opt, Out.bind] at p
              by_cases hz : ds.length ≤ sizeLine
              · rw [if_pos hz] at p
                cases rd_int hv ed
                cases rd_int hv2 ed2
                exact ⟨i, j, rfl, rfl, fin (σ := σ) er3 hz (e.trans e2) k2 p⟩
              · rw [if_neg hz] at p; exact p.elim
          | _ => exact p.elim
        | _ => exact p.elim
      | [], _, q2 => simp [isIt] at q2
      | [_], _, q2 => simp [isIt] at q2
      | _ :: _ :: _ :: _, _, q2 => simp [isIt] at q2
      | [_, _], _ :: _, q2 => simp [isIt] at q2
  | [], _, q => simp [isE] at q
  | _ :: _ :: _, _, q => simp [isE] at q
  | [_], _ :: _, q => simp [isE] at q
end
end R

/-! R18: dicts as cells, own ==. -/
namespace R
open L2 PyProof.Rows PySem.Spec PySem
theorem obind_assoc {α β γ : Type} (m : Out α) (f : α → Out β) (g : β → Out γ) : (m.bind f).bind g = m.bind fun x => (f x).bind g := by cases m <;> rfl
section
variable {T : Tb} {S : Sg} {Γ : Cxt} {N : List Str} {n : Nat}
def cellT (T : Tb) (Γ : Cxt) (W : WX) : List Key → E → List (TE × TE)
  | k :: ks, .cons e es => (tC (kV k), tE T Γ e W) :: cellT T Γ W ks es
  | _, _ => []
abbrev PCok (T : Tb) (S : Sg) (Γ : Cxt) (N : List Str) (n : Nat) (e : E) : Prop := ∀ sc ks keys xs X W pos, keysB ks keys = true → keys.length = xs.length → isEs S N none e sc xs = true → XG T S Γ N n sc X → Takes X W → PPs X pos keys xs (cellT T Γ W ks e)
theorem keysB_cons {k : List Key} {keys : List (Option Expr)} (h : keysB k keys = true) : (k = [] ∧ keys = []) ∨ ∃ x ks c p rest, k = .inr x :: ks ∧ keys = some (.Constant (.str x) c p) :: rest ∧ keysB ks rest = true := by
  match k, keys, h with
  | [], [], _ => exact .inl ⟨rfl, rfl⟩
  | .inr x :: ks, some (.Constant (.str y) c p) :: rest, h =>
    simp only [keysB, Bool.and_eq_true, decide_eq_true_eq] at h
    obtain ⟨rfl, h⟩ := h
    exact .inr ⟨x, ks, c, p, rest, rfl, rfl, h⟩
theorem pc_nil_ok : PCok T S Γ N n .nil := by
  intro sc ks keys xs X W pos hk hl q g tk
  cases xs with
  | cons _ _ => simp [isEs] at q
  | nil =>
    cases keys with
    | cons _ _ => simp at hl
    | nil =>
      have : cellT T Γ W ks .nil = [] := by cases ks <;> rfl
      rw [this]
      exact pps_nil
theorem pc_cons_ok {e es : E} (he : PEok T S Γ N n e) (hes : PCok T S Γ N n es) : PCok T S Γ N n (.cons e es) := by
  intro sc ks keys xs X W pos hk hl q g tk
  cases xs with
  | nil => simp [isEs] at q
  | cons y ys =>
    simp only [isEs, Bool.and_eq_true] at q
    rcases keysB_cons hk with ⟨rfl, rfl⟩ | ⟨x, ks, c, p, rest, rfl, rfl, hk'⟩
    · simp at hl
    · exact pps_cons pe_str (he sc y X W q.1 g tk) (hes sc ks rest ys X W pos hk' (by simpa using hl) q.2 g tk)
def cnt : E → Nat
  | .cons _ es => cnt es + 1
  | _ => 0
theorem cnt_of {e : E} : ∀ {sc : Scope} {xs : List Expr}, isEs S N none e sc xs = true → cnt e = xs.length := by
  induction e with
  | nil => intro sc xs h; cases xs with | nil => rfl | cons _ _ => simp [isEs] at h
  | cons a b _ ih =>
    intro sc xs h
    cases xs with
    | nil => simp [isEs] at h
    | cons y ys => simp only [isEs, Bool.and_eq_true] at h; simp [cnt, ih h.2]
  | _ => intro sc xs h; simp [isEs] at h
theorem keysB_len : ∀ {ks : List Key} {keys : List (Option Expr)}, keysB ks keys = true → ks.length = keys.length := by
  intro ks
  induction ks with
  | nil => intro keys h; rcases keysB_cons h with ⟨_, rfl⟩ | ⟨_, _, _, _, _, e, _⟩ <;> first | rfl | cases e
  | cons k ks ih =>
    intro keys h
    rcases keysB_cons h with ⟨e, _⟩ | ⟨_, _, _, _, _, e, rfl, h'⟩
    · cases e
    · cases e; simp [ih h']
theorem cell_sem {W : WX} {es : E} : ∀ {ks : List Key} {σV : L2.St} {H H₀ : Hp} {w w₀ : Wd} {σ : Sl} {κ : Cells} {α : Type} {f : List D × Cells → Out (α × Cells)} {G : α × Cells → Wd → Hp → Prop} {Q : List (V × V) → Hp → Prop}, ks.length = cnt es → Ext w₀ H₀ w H → Wok T w H κ → RS T w H σV σ →
    Post T w₀ H₀ ((evs Γ es σ κ).bind f) (fun c d H' => W c d σV H') G →
    (∀ r vs w' H', vs.length = ks.length → Ext w H w' H' → Wok T w' H' r.2 → RVs T w' vs r.1 → Post T w₀ H₀ (f r) (fun c d H' => W c d σV H') G → Q ((ks.zip vs).map fun kv => (kV kv.1, kv.2)) H') → tPairs (cellT T Γ W ks es) σV H Q := by
  induction es with
  | nil =>
    intro ks σV H H₀ w w₀ σ κ α f G Q hl x0 hw hs p h
    cases ks with
    | cons _ _ => simp [cnt] at hl
    | nil =>
      unfold evs at p
      exact h ([], κ) [] w H rfl (Ext.rfl' w H) hw .nil p
  | cons e es _ ih =>
    intro ks σV H H₀ w w₀ σ κ α f G Q hl x0 hw hs p h
    cases ks with
    | nil => simp [cnt] at hl
    | cons k ks =>
      have hl : ks.length = cnt es := by simpa [cnt] using hl
      unfold evs at p
      rw [obind_assoc] at p
      simp only [obind_assoc] at p
      refine tE_bindB x0 hw hs p fun r w1 H1 v er e1 k1 hs1 hv hb hy p => ?_
      obtain ⟨d, ed, p⟩ := p.opt
      obtain ⟨w2, k2, e2, l2, rv⟩ := hv.give k1 ed e1 (hy (frz_tag ed))
      refine ih hl (x0.trans e2) k2 (hs.ext e2) p fun r2 vs w3 H3 hlen e3 k3 rvs p => ?_
      by_cases hz : r2.1.length < sizeLine
      · rw [if_pos hz] at p
        exact h (d :: r2.1, r2.2) (v :: vs) w3 H3 (by simp [hlen]) (e2.trans e3) k3 (.cons (rv.mono e3.le) rvs) p
      · rw [if_neg hz] at p; exact p.elim
  | _ =>
    intro ks σV H H₀ w w₀ σ κ α f G Q hl x0 hw hs p h
    unfold evs at p
    exact p.elim
theorem PR.merge {w : Wd} : ∀ {vs : List (Key × V)} {ds : List (Key × D)} {acc : List (Key × V)} {accd : List (Key × D)}, PR T w vs ds → PR T w acc accd → PR T w (mergeK acc vs) (ds.foldl (fun a kv => putP a kv.1 kv.2) accd)
  | _, _, _, _, .nil, q => q
  | _, _, acc, accd, .cons (k := k) (v := v) (d := d) a r, q => PR.merge (acc := putK acc k v) (accd := putP accd k d) r (q.put a k)
theorem pe_cell_ok {ks : List Key} {es : E} (hes : PCok T S Γ N n es) : PEok T S Γ N n (.cell ks es) := by
  intro sc x X W q g tk
  cases x <;> try (simp [isE] at q; done)
  rename_i keys vals pos
  simp only [isE, Bool.and_eq_true, decide_eq_true_eq, Bool.not_eq_true'] at q
  obtain ⟨⟨⟨⟨⟨q1, q2⟩, q3⟩, q4⟩, q5⟩, q6⟩ := q
  have hne : keys ≠ [] := fun z => by
    subst z
    have := keysB_len q1
    cases ks with
    | nil => simp at q2
    | cons _ _ => simp at this
  have hall : keys.all (·.isSome) = true := by
    have : ∀ {ks : List Key} {keys : List (Option Expr)}, keysB ks keys = true → keys.all (·.isSome) = true := by
      intro ks
      induction ks with
      | nil => intro keys h; rcases keysB_cons h with ⟨_, rfl⟩ | ⟨_, _, _, _, _, e, _⟩ <;> first | rfl | cases e
      | cons k ks ih =>
        intro keys h
        rcases keysB_cons h with ⟨e, _⟩ | ⟨_, _, _, _, _, e, rfl, h'⟩
        · cases e
        · cases e; simp [ih h']
    exact this q1
  refine peI (pe_disp (hes sc ks keys vals X W pos q1 q4 q6 g tk) hall q4 hne q5) fun σV H Q h => ?_
  obtain ⟨w, σ, κ, hw, hs, p⟩ := h
  unfold ev at p
  intro pa hp
  have z := hw.own (.dK []) hp
  refine cell_sem (by rw [q3, cnt_of q6]) z.2 z.1 (hs.ext z.2) p fun r vs w1 H1 hlen e1 k1 rvs p => ?_
  have nθ : pa ∉ w.θ := hw.offθ hp
  have nF : w.F pa = none := hw.noF hp
  have at1 : H1 pa = some (.dK []) := e1.keep pa _ upd_same nθ
  have nF1 : w1.F pa = none := e1.offF upd_same nF
  have nθ1 : pa ∉ w1.θ := e1.offθ (by exact upd_same) nθ
  refine ⟨at1, ks.zip vs, rfl, by have := keysB_len q1; simp; omega, ?_⟩
  split at p
  case isFalse => exact p.elim
  let w2 : Wd := ⟨w1.F, w1.θ ++ [pa]⟩
  have l2 : Le w1 w2 := ⟨Same.refl _, [pa], rfl⟩
  have pr : PR T w2 (mergeK [] (ks.zip vs)) ((ks.zip r.1).foldl (fun acc kv => putP acc kv.1 kv.2) []) := PR.merge (PR.zip hlen.symm (rvs.mono l2)) .nil
  have k2 : Wok T w2 (upd H1 pa (.dK (mergeK [] (ks.zip vs)))) (r.2 ++ [(ks.zip r.1).foldl (fun acc kv => putP acc kv.1 kv.2) []]) := by
    refine ⟨fun a u e => ?_, ?_, fun a ha => ?_, by simp [w2, k1.len], fun m a e => ?_⟩
    · have e : w1.F a = some u := e
      rw [upd_ne (fun z => by rw [z, nF1] at e; cases e)]
      exact k1.le a u e
    · show (w1.θ ++ [pa]).Nodup
      rw [List.nodup_append]
      exact ⟨k1.nd, by simp, fun a ha b hb => by simp at hb; subst hb; exact fun z => nθ1 (by rw [← z]; exact ha)⟩
    · show w1.F a = none
      rcases (List.mem_append.mp ha) with ha | ha
      · exact k1.off a ha
      · simp at ha; subst ha; exact nF1
    · have e : (w1.θ ++ [pa])[m]? = some a := e
      by_cases hm : m < w1.θ.length
      · rw [List.getElem?_append_left hm] at e
        obtain ⟨us, ds, e1, e2, r1⟩ := k1.cell m a e
        refine ⟨us, ds, by rw [List.getElem?_append_left (by rw [← k1.len]; exact hm)]; exact e1, ?_, r1.mono l2⟩
        rw [upd_ne (fun z => nθ1 (by rw [← z]; exact List.mem_of_getElem? e))]
        exact e2
      · have hm2 : m = w1.θ.length := by
          have := (List.getElem?_eq_some_iff.mp e).1
          simp at this; omega
        subst hm2
        simp at e
        subst e
        exact ⟨_, _, by rw [k1.len]; simp, upd_same, pr⟩
  have x2 : Ext w H w2 (upd H1 pa (.dK (mergeK [] (ks.zip vs)))) := by
    obtain ⟨l, el, hl⟩ := e1.θ
    refine ⟨fun a u e nn => ?_, fun a e => ?_, e1.F, fun a e k => ?_, l ++ [pa], by show w1.θ ++ [pa] = _; rw [el, List.append_assoc], fun a ha => ?_⟩
    · have ne := ne_of_none e hp
      rw [upd_ne ne]
      exact e1.keep a u (by rw [upd_ne ne]; exact e) nn
    · have ne : a ≠ pa := fun z => by rw [z, upd_same] at e; cases e
      rw [upd_ne ne] at e
      have := e1.dom a e
      rw [upd_ne ne] at this
      exact this
    · have ne : a ≠ pa := fun z => k (by rw [z]; exact nF1)
      have := e1.new a e k
      rw [upd_ne ne] at this
      exact this
    · rcases (List.mem_append.mp ha) with ha | ha
      · have := hl a ha
        have ne : a ≠ pa := fun z => by rw [z, upd_same] at this; cases this
        rw [upd_ne ne] at this
        exact this
      · simp at ha; subst ha; exact hp
  exact GE.fz (p _ _ x2 k2) (.obj (by show (w1.θ ++ [pa])[r.2.length]? = _; rw [← k1.len]; simp))
/-! ### own == -/
def rEqo (T : Tb) (Γ : Cxt) : R2 := fun x y H Q => ∃ w κ c fs yd f t κ', Wok T w H κ ∧ RV T w x (.ins c fs) ∧ RV T w y yd ∧ Γ.eqf c = some f ∧ eqoOk c yd = true ∧ Γ.calls f [.ins c fs, yd] κ = .ok (.bl t, κ') ∧ ∀ w' H', Ext w H w' H' → Wok T w' H' κ' → Q (.bl t) H'
theorem op_eqo {sc : Scope} {X : Cx} (g : XG T S Γ N n sc X) : OpR X (compareOp .Eq) (rEqo T Γ) := by
  intro pins; intro s σ H x y v u Q I rx ry h
  obtain ⟨w, κ, c, fs, yd, f, t, κ', hw, hx, hy, ef, ok, ec, q⟩ := h
  cases hx with
  | @ins a _ C dx nms vs _ hc hF hl rs =>
  obtain ⟨g1, fd, ps, hs, hf, F, hb, nf⟩ := g.eqF c f C nms ef hc
  cases (show (v = Value.ref a) from rx)
  have ha : H a = some (.ins C dx (nms.zip vs)) := hw.le _ _ hF
  obtain ⟨mA, J, _⟩ := (ins_get I.hok ha)
  obtain ⟨od, J, _⟩ := J.look
  obtain ⟨m, hFr⟩ := I.fr
  have run : ∀ {b : Addr} {tb : Value}, y = .ref b → PySem.W.Looks (model X.prog X.w) s.heap (typeOf (.ref b)) tb → PySem.W.notFirst X.K C tb = true → wpAny (model X.prog X.w) X.A (richCompare .Eq (.ref a) (.ref b)) (EP X pins σ Q) X.xe s := fun {b tb} ey lk nt => by
    subst ey
    refine PySem.W.cmp_K (op := .Eq) (tb := tb) g.room.units0 hFr I.ok.mod.kin J lk nt hs hf ?_
    have call := run_G (X := X) (pins := pins) (σ := σ) (H := H) (s := s) (us := [.ref a, .ref b]) (vs := [.ref a, .ref b]) (Q := Q) F g.room g.gd hb (takes0 (X := X)) I (.cons rfl (.cons rfl .nil)) ⟨w, κ, [.ins c fs, yd], .cons (.ins hc hF hl rs) (.one hy), hw, post_ok ec fun w' H' e k v rv => by cases rv; exact q w' H' e k⟩
    exact wpAny_mono call (fun z s' ⟨z', H', I', rz, qz⟩ => SlX.cmpback rz ⟨z', H', I', rz, qz⟩) fun _ _ x => x
  show wpAny (model X.prog X.w) X.A (richCompare .Eq (.ref a) u) (EP X pins σ Q) X.xe s
  cases yd with
  | ins c' gs =>
    simp only [eqoOk, decide_eq_true_eq] at ok
    subst ok
    cases hy with
    | @ins b _ C' dy nms' us _ hc' hF' hl' rs' =>
    rw [hc] at hc'
    cases hc'
    cases (show (u = Value.ref b) from ry)
    obtain ⟨mB, J', _⟩ := ins_get I.hok (hw.le _ _ hF')
    obtain ⟨od', J', _⟩ := (J'.look)
    exact run rfl J'.type (by simp [PySem.W.notFirst])
  | tup ds =>
    cases hy with
    | @tup b us _ qt rs' =>
    cases (show (u = Value.ref b) from ry)
    obtain ⟨its, r, ht, hz⟩ := I.tuple (a := b) (xs := us) (by rw [g.hK]; exact sqT_mono hw.le qt)
    obtain ⟨o, ho, hcl, _⟩ := id ht
    exact run rfl (hcl ▸ (PySem.W.Looks.ld ho).andThen .now) nf
  | _ => cases ok
theorem eqo_ev {a b : E} {σ : Sl} {κ : Cells} {w : Wd} {H : Hp} {XX : XW} {G : O × Cells → Wd → Hp → Prop} (p : Post T w H (ev Γ (.eqo a b) σ κ) XX G) : Post T w H ((ev Γ a σ κ).bind fun x => (ev Γ b σ x.2).bind fun y => (opt x.1.frz).bind fun xd => (opt y.1.frz).bind fun yd => match xd with
      | .ins c _ => (opt (Γ.eqf c)).bind fun f => if eqoOk c yd then (noexc (Γ.calls f [xd, yd] y.2)).bind fun r => (match r.1 with
        | .bl t => .ok (.fz (.bl t), r.2)
        | _ => .bad) else .bad
      | _ => .bad) XX G := by unfold ev at p; exact p
theorem eqo_fin {w0 w : Wd} {H0 H : Hp} {x y : O} {κ : Cells} {v v2 : V} {XX : XW} {G : O × Cells → Wd → Hp → Prop} {Q : VK} (x0 : Ext w0 H0 w H) (hw : Wok T w H κ) (hv : RO T w H v x) (hv2 : RO T w H v2 y) (hy : y.tag = none → Young H0 v2 y)
    (p : Post T w0 H0 ((opt x.frz).bind fun xd => (opt y.frz).bind fun yd => match xd with
      | .ins c _ => (opt (Γ.eqf c)).bind fun f => if eqoOk c yd then (noexc (Γ.calls f [xd, yd] κ)).bind fun r => (match r.1 with
        | .bl t => .ok (.fz (.bl t), r.2)
        | _ => .bad) else .bad
      | _ => .bad) XX G) (h : ∀ t κ' w' H', Ext w0 H0 w' H' → Wok T w' H' κ' → Post T w0 H0 (.ok (.fz (.bl t), κ')) XX G → Q (.bl t) H') : rEqo T Γ v v2 H Q := by
  obtain ⟨xd, ex, p⟩ := p.opt
  obtain ⟨yd, ey, p⟩ := p.opt
  cases xd with
  | ins c fs =>
    obtain ⟨f, ef, p⟩ := (show Post T w0 H0 ((opt (Γ.eqf c)).bind fun f => _) XX G from p).opt
    by_cases ok : eqoOk c yd = true
    · rw [if_pos ok] at p
      obtain ⟨r, er, p⟩ := p.noexc
      obtain ⟨rd, κ'⟩ := r
      have hx : x = .fz (.ins c fs) := by
        cases x with
        | fz d => cases ex; rfl
        | ol b xs => cases b <;> simp [O.frz] at ex
        | od b xs => cases b <;> simp [O.frz] at ex
        | ot b xs => cases b <;> simp [O.frz] at ex
      subst hx
      obtain ⟨w2, k2, e2, l2, rv⟩ := hv2.give hw ey x0 (hy (frz_tag ey))
      cases rd with
      | bl t => exact ⟨w2, κ, c, fs, yd, f, t, κ', k2, RV.mono l2 hv, rv, ef, ok, er, fun w' H' e k => h t κ' w' H' (e2.trans e) k p⟩
      | _ => exact p.elim
    · rw [if_neg ok] at p; exact p.elim
  | _ => exact p.elim
theorem eqo_sem {a b : E} {W : WX} : ∀ σV H Q, tE T Γ (.eqo a b) W σV H Q → tOp (rEqo T Γ) (tE T Γ a W) (tE T Γ b W) σV H Q := fun σV H Q h => by
  obtain ⟨w, σ, κ, hw, hs, p⟩ := h
  refine tE_bind hw hs (eqo_ev p) fun r w1 H1 v er e k hs1 hv hbr hy p => ?_
  refine tE_bindB e k hs1 p fun r2 w2 H2 v2 er2 e2 k2 hs2 hv2 hbr2 hy2 p2 => ?_
  exact eqo_fin (e.trans e2) k2 (hv.ext e2) hv2 (fun ht pl a' ea => e.dom a' (hy2 ht pl a' ea)) p2 fun t κ' w' H' x k p => GE.fz (p w' H' x k) (.bl t)
theorem pe_eqo_ok {a b : E} (ha : PEok T S Γ N n a) (hb : PEok T S Γ N n b) : PEok T S Γ N n (.eqo a b) := by
  intro sc x X W q g tk
  cases x <;> try (simp [isE] at q; done)
  rename_i l ops cs pos
  match ops, cs, q with
  | [.Eq], [r], q =>
    simp only [isE, Bool.and_eq_true] at q
    exact peI (pe_cmpR (op_eqo g) (ha sc _ X W q.1 g tk) (hb sc _ X W q.2 g tk) (marks_of (notSet_of q.2))) eqo_sem
theorem eqo_bl {a b : E} {σ : Sl} {κ : Cells} {r : O × Cells} (h : ev Γ (.eqo a b) σ κ = .ok r) : ∃ t, r.1 = .fz (.bl t) := by
  unfold ev at h
  obtain ⟨x, _, h⟩ := obind_ok h
  obtain ⟨y, _, h⟩ := obind_ok h
  obtain ⟨xd, _, h⟩ := obind_ok h
  obtain ⟨yd, _, h⟩ := obind_ok h
  cases xd with
  | ins c fs =>
    obtain ⟨f, _, h⟩ := obind_ok (show (opt (Γ.eqf c)).bind _ = .ok r from h)
    by_cases ok : eqoOk c yd = true
    · rw [if_pos ok] at h
      obtain ⟨z, _, h⟩ := noexc_ok h
      obtain ⟨rd, κ'⟩ := z
      cases rd with
      | bl t => cases h; exact ⟨t, rfl⟩
      | _ => cases h
    · rw [if_neg ok] at h; cases h
  | _ => cases h
theorem pt_eqo_ok {a b : E} (ha : PEok T S Γ N n a) (hb : PEok T S Γ N n b) : PTok T S Γ N n (.eqo a b) := by
  intro sc x X W q g tk
  cases x <;> try (simp [isE] at q; done)
  rename_i l ops cs pos
  match ops, cs, q with
  | [.Eq], [r], q =>
    simp only [isE, Bool.and_eq_true] at q
    refine ptI (pt_cmpR (op_eqo g) (ha sc _ X W q.1 g tk) (hb sc _ X W q.2 g tk) (marks_of (notSet_of q.2))) fun σV H Q h => eqo_sem σV H _ ?_
    obtain ⟨w, σ, κ, hw, hs, p⟩ := h
    rw [evT_def] at p
    refine tE_bind hw hs p fun r w1 H1 v er e k hs1 hv hbr hy p => ?_
    obtain ⟨o, κ'⟩ := r
    obtain ⟨t, rfl⟩ := eqo_bl er
    cases (show RV T w1 v (.bl t) from hv)
    exact ⟨t, rfl, (p.step e).ok (r := (t, κ')) k⟩
end
end R

/-! R19: every expression. -/
namespace R
open L2 PyProof.Rows PySem.Spec PySem
section
variable {T : Tb} {S : Sg} {Γ : Cxt} {N : List Str} {n : Nat}
structure AllOk (T : Tb) (S : Sg) (Γ : Cxt) (N : List Str) (n : Nat) (e : E) : Prop where
  pe : PEok T S Γ N n e
  pt : PTok T S Γ N n e
  pa : PAok T S Γ N n e
  pi : PIok T S Γ N n e
  pf : PFok T S Γ N n e
  pc : PCok T S Γ N n e
  pw : PWok T S Γ N n e
  pl : PEok T S Γ N n (.lrng e)
theorem no_lrng {e : E} (h : isRng e = false) : PEok T S Γ N n (.lrng e) := fun sc x X W q => by
  cases x <;> try (simp [isE] at q; done)
  rename_i fn xs kws pos
  cases fn <;> try (simp [isE] at q; done)
  match xs, kws, q with
  | [y], [], q => simp [isE, h] at q
  | [], _, q => simp [isE] at q
  | _ :: _ :: _, _, q => simp [isE] at q
  | [_], _ :: _, q => simp [isE] at q
theorem pt_by {e : E} (he : PEok T S Γ N n e) (hp : ∀ sc x, isE S N none e sc x = true → PlainT x) : PTok T S Γ N n e := fun sc x X W q g tk => pt_plain he q g tk (hp sc x q)
theorem all_val {e : E} (hl : isRng e = false) (he : PEok T S Γ N n e) (hp : ∀ sc x, isE S N none e sc x = true → PlainT x) (ha : ∀ sc xs, isEs S N none e sc xs = false) (hi : ∀ sc x, isIt S N none e sc x = false) (hw : ∀ sc op xs pos, isE S N none e sc (.BoolOp op xs pos) = false) : AllOk T S Γ N n e where
  pe := he
  pt := pt_by he hp
  pa := fun sc xs X W q => by rw [ha] at q; cases q
  pi := fun sc tg x X W q => by rw [hi] at q; cases q
  pf := fun sc xs X q => by rw [ha] at q; cases q
  pc := fun sc ks keys xs X W pos _ _ q => by rw [ha] at q; cases q
  pw := fun sc op xs pos X W q => by rw [hw] at q; cases q
  pl := no_lrng hl
theorem all_it {e : E} (hl : PEok T S Γ N n (.lrng e)) (hit : PIok T S Γ N n e) (he : ∀ sc x, isE S N none e sc x = false) (ha : ∀ sc xs, isEs S N none e sc xs = false) : AllOk T S Γ N n e where
  pe := fun sc x X W q => by rw [he] at q; cases q
  pt := fun sc x X W q => by rw [he] at q; cases q
  pa := fun sc xs X W q => by rw [ha] at q; cases q
  pi := hit
  pf := fun sc xs X q => by rw [ha] at q; cases q
  pc := fun sc ks keys xs X W pos _ _ q => by rw [ha] at q; cases q
  pw := fun sc op xs pos X W q => by rw [he] at q; cases q
  pl := hl
theorem all_no {e : E} (hl : isRng e = false) (he : ∀ sc x, isE S N none e sc x = false) (ha : ∀ sc xs, isEs S N none e sc xs = false) (hi : ∀ sc x, isIt S N none e sc x = false) : AllOk T S Γ N n e := all_it (no_lrng hl) (fun sc tg x X W q => by rw [hi] at q; cases q) he ha
theorem all_ok : ∀ e : E, AllOk T S Γ N n e := by
  intro e
  induction e with
  | var i => exact all_val rfl (pe_var_ok i) (fun sc x q => by cases x <;> first | (intro _ _; rfl) | (simp [isE] at q; done)) (fun sc xs => by cases xs <;> simp [isEs]) (fun sc x => by simp [isIt]) (fun sc op xs pos => by simp [isE])
  | cst d => exact all_val rfl (pe_cst_ok d) (fun sc x q => by cases x <;> first | (intro _ _; rfl) | (simp [isE] at q; done)) (fun sc xs => by cases xs <;> simp [isEs]) (fun sc x => by simp [isIt]) (fun sc op xs pos => by simp [isE])
  | gcn i => exact all_val rfl (pe_gcn_ok i) (fun sc x q => by cases x <;> first | (intro _ _; rfl) | (simp [isE] at q; done)) (fun sc xs => by cases xs <;> simp [isEs]) (fun sc x => by simp [isIt]) (fun sc op xs pos => by simp [isE])
  | tup es h => exact all_val rfl (pe_tup_ok h.pa) (fun sc x q => by cases x <;> first | (intro _ _; rfl) | (simp [isE] at q; done)) (fun sc xs => by cases xs <;> simp [isEs]) (fun sc x => by simp [isIt]) (fun sc op xs pos => by simp [isE])
  | lst es h => exact all_val rfl (pe_lst_ok h.pa) (fun sc x q => by cases x <;> first | (intro _ _; rfl) | (simp [isE] at q; done)) (fun sc xs => by cases xs <;> simp [isEs]) (fun sc x => by simp [isIt]) (fun sc op xs pos => by simp [isE])
  | bin op a b ha hb => exact all_val rfl (pe_bin_ok op ha.pe hb.pe) (fun sc x q => by cases x <;> first | (intro _ _; rfl) | (simp [isE] at q; done)) (fun sc xs => by cases xs <;> simp [isEs]) (fun sc x => by simp [isIt]) (fun sc op xs pos => by simp [isE])
  | neg a ha => exact all_val rfl (pe_neg_ok ha.pe) (fun sc x q => by
      cases x <;> try (simp [isE] at q; done)
      rename_i op y pos
      cases op <;> first | (intro _ _; rfl) | (simp [isE] at q; done)) (fun sc xs => by cases xs <;> simp [isEs]) (fun sc x => by simp [isIt]) (fun sc op xs pos => by simp [isE])
  | idx a b ha hb => exact all_val rfl (pe_idx_ok ha.pe hb.pe) (fun sc x q => by cases x <;> first | (intro _ _; rfl) | (simp [isE] at q; done)) (fun sc xs => by cases xs <;> simp [isEs]) (fun sc x => by simp [isIt]) (fun sc op xs pos => by simp [isE])
  | slc a b c ha hb hc => exact all_val rfl (pe_slc_ok ha.pe hb.pe hc.pe) (fun sc x q => by cases x <;> first | (intro _ _; rfl) | (simp [isE] at q; done)) (fun sc xs => by cases xs <;> simp [isEs]) (fun sc x => by simp [isIt]) (fun sc op xs pos => by simp [isE])
  | rev a ha => exact all_val rfl (pe_rev_ok ha.pe) (fun sc x q => by cases x <;> first | (intro _ _; rfl) | (simp [isE] at q; done)) (fun sc xs => by cases xs <;> simp [isEs]) (fun sc x => by simp [isIt]) (fun sc op xs pos => by simp [isE])
  | fld a m ha => exact all_val rfl (pe_fld_ok ha.pe) (fun sc x q => by cases x <;> first | (intro _ _; rfl) | (simp [isE] at q; done)) (fun sc xs => by cases xs <;> simp [isEs]) (fun sc x => by simp [isIt]) (fun sc op xs pos => by simp [isE])
  | isi a tys many ha => exact all_val rfl (pe_isi_ok ha.pe) (fun sc x q => by cases x <;> first | (intro _ _; rfl) | (simp [isE] at q; done)) (fun sc xs => by cases xs <;> simp [isEs]) (fun sc x => by simp [isIt]) (fun sc op xs pos => by simp [isE])
  | call f es h => exact all_val rfl (pe_call_ok h.pa) (fun sc x q => by cases x <;> first | (intro _ _; rfl) | (simp [isE] at q; done)) (fun sc xs => by cases xs <;> simp [isEs]) (fun sc x => by simp [isIt]) (fun sc op xs pos => by simp [isE])
  | blt1 b a ha => exact all_val rfl (pe_blt1_ok b ha.pe) (fun sc x q => by cases x <;> first | (intro _ _; rfl) | (simp [isE] at q; done)) (fun sc xs => by cases xs <;> simp [isEs]) (fun sc x => by simp [isIt]) (fun sc op xs pos => by simp [isE])
  | blt2 b a a' ha ha' => exact all_val rfl (pe_blt2_ok b ha.pe ha'.pe) (fun sc x q => by cases x <;> first | (intro _ _; rfl) | (simp [isE] at q; done)) (fun sc xs => by cases xs <;> simp [isEs]) (fun sc x => by simp [isIt]) (fun sc op xs pos => by simp [isE])
  | make c es h => exact all_val rfl (pe_make_ok h.pa) (fun sc x q => by cases x <;> first | (intro _ _; rfl) | (simp [isE] at q; done)) (fun sc xs => by cases xs <;> simp [isEs]) (fun sc x => by simp [isIt]) (fun sc op xs pos => by simp [isE])
  | cell ks es h => exact all_val rfl (pe_cell_ok h.pc) (fun sc x q => by cases x <;> first | (intro _ _; rfl) | (simp [isE] at q; done)) (fun sc xs => by cases xs <;> simp [isEs]) (fun sc x => by simp [isIt]) (fun sc op xs pos => by simp [isE])
  | comp own tg it ifs elt h1 h2 h3 => exact all_val rfl (pe_comp_ok h1.pi h2.pf h3.pe) (fun sc x q => by cases x <;> first | (intro _ _; rfl) | (simp [isE] at q; done)) (fun sc xs => by cases xs <;> simp [isEs]) (fun sc x => by simp [isIt]) (fun sc op xs pos => by simp [isE])
  | lrng it h => exact all_val rfl h.pl (fun sc x q => by cases x <;> first | (intro _ _; rfl) | (simp [isE] at q; done)) (fun sc xs => by cases xs <;> simp [isEs]) (fun sc x => by simp [isIt]) (fun sc op xs pos => by simp [isE])
  | exf f => exact all_no rfl (fun sc x => by
      cases x <;> try (simp [isE]; done)
      rename_i y f pos
      cases y <;> simp [isE]) (fun sc xs => by cases xs <;> simp [isEs]) (fun sc x => by simp [isIt])
  | not a ha =>
    exact { pe := pe_not_ok ha.pe, pt := pt_not_ok ha.pt, pa := fun sc xs X W q => by cases xs <;> simp [isEs] at q, pi := fun sc tg x X W q => by simp [isIt] at q, pf := fun sc xs X q => by cases xs <;> simp [isEs] at q, pc := fun sc ks keys xs X W pos _ _ q => by cases xs <;> simp [isEs] at q, pw := fun sc op xs pos X W q => by simp [isE] at q, pl := no_lrng rfl }
  | and a b ha hb =>
    have hw := pw_and_ok ha.pt hb.pt hb.pw
    exact { pe := pe_and_ok ha.pe hb.pe, pt := pt_and_ok hw, pa := fun sc xs X W q => by cases xs <;> simp [isEs] at q, pi := fun sc tg x X W q => by simp [isIt] at q, pf := fun sc xs X q => by cases xs <;> simp [isEs] at q, pc := fun sc ks keys xs X W pos _ _ q => by cases xs <;> simp [isEs] at q, pw := hw, pl := no_lrng rfl }
  | or a b ha hb =>
    have hw := pw_or_ok ha.pt hb.pt hb.pw
    exact { pe := pe_or_ok ha.pe hb.pe, pt := pt_or_ok hw, pa := fun sc xs X W q => by cases xs <;> simp [isEs] at q, pi := fun sc tg x X W q => by simp [isIt] at q, pf := fun sc xs X q => by cases xs <;> simp [isEs] at q, pc := fun sc ks keys xs X W pos _ _ q => by cases xs <;> simp [isEs] at q, pw := hw, pl := no_lrng rfl }
  | cmp op a b ha hb =>
    exact { pe := pe_cmp_ok op ha.pe hb.pe, pt := pt_cmp_ok op ha.pe hb.pe, pa := fun sc xs X W q => by cases xs <;> simp [isEs] at q, pi := fun sc tg x X W q => by simp [isIt] at q, pf := fun sc xs X q => by cases xs <;> simp [isEs] at q, pc := fun sc ks keys xs X W pos _ _ q => by cases xs <;> simp [isEs] at q, pw := fun sc op xs pos X W q => by simp [isE] at q, pl := no_lrng rfl }
  | eqo a b ha hb =>
    exact { pe := pe_eqo_ok ha.pe hb.pe, pt := pt_eqo_ok ha.pe hb.pe, pa := fun sc xs X W q => by cases xs <;> simp [isEs] at q, pi := fun sc tg x X W q => by simp [isIt] at q, pf := fun sc xs X q => by cases xs <;> simp [isEs] at q, pc := fun sc ks keys xs X W pos _ _ q => by cases xs <;> simp [isEs] at q, pw := fun sc op xs pos X W q => by simp [isE] at q, pl := no_lrng rfl }
  | ite c a b hc ha hb =>
    exact { pe := pe_ite_ok hc.pt ha.pe hb.pe, pt := pt_ite_ok hc.pt ha.pt hb.pt, pa := fun sc xs X W q => by cases xs <;> simp [isEs] at q, pi := fun sc tg x X W q => by simp [isIt] at q, pf := fun sc xs X q => by cases xs <;> simp [isEs] at q, pc := fun sc ks keys xs X W pos _ _ q => by cases xs <;> simp [isEs] at q, pw := fun sc op xs pos X W q => by simp [isE] at q, pl := no_lrng rfl }
  | nil =>
    exact { pe := fun sc x X W q => by cases x <;> simp [isE] at q, pt := fun sc x X W q => by cases x <;> simp [isE] at q, pa := pa_nil_ok, pi := fun sc tg x X W q => by simp [isIt] at q, pf := pf_nil_ok, pc := pc_nil_ok, pw := fun sc op xs pos X W q => by simp [isE] at q, pl := no_lrng rfl }
  | cons a b ha hb =>
    exact { pe := fun sc x X W q => by cases x <;> simp [isE] at q, pt := fun sc x X W q => by cases x <;> simp [isE] at q, pa := pa_cons_ok ha.pe hb.pa, pi := fun sc tg x X W q => by simp [isIt] at q, pf := pf_cons_ok ha.pt, pc := pc_cons_ok ha.pe hb.pc, pw := fun sc op xs pos X W q => by simp [isE] at q, pl := no_lrng rfl }
  | walk a ha => exact all_it (no_lrng rfl) (pi_walk_ok ha.pe) (fun sc x => by cases x <;> simp [isE]) (fun sc xs => by cases xs <;> simp [isEs])
  | rng1 a ha => exact all_it (pe_lrng_ok (fun a e => by cases e; exact ha.pe) (fun a b e => by cases e)) (pi_rng1_ok ha.pe) (fun sc x => by cases x <;> simp [isE]) (fun sc xs => by cases xs <;> simp [isEs])
  | rng2 a b ha hb => exact all_it (pe_lrng_ok (fun a e => by cases e) (fun a b e => by cases e; exact ⟨ha.pe, hb.pe⟩)) (pi_rng2_ok ha.pe hb.pe) (fun sc x => by cases x <;> simp [isE]) (fun sc xs => by cases xs <;> simp [isEs])
  | zip a b ha hb => exact all_it (no_lrng rfl) (pi_zip_ok ha.pe hb.pe) (fun sc x => by cases x <;> simp [isE]) (fun sc xs => by cases xs <;> simp [isEs])
  | enum a ha => exact all_it (no_lrng rfl) (fun sc tg x X W q _ g tk => pi_bad fun σ κ => by unfold evIt; rfl) (fun sc x => by cases x <;> simp [isE]) (fun sc xs => by cases xs <;> simp [isEs])
  | _ => exact all_no rfl (fun sc x => by cases x <;> simp [isE]) (fun sc xs => by cases xs <;> simp [isEs]) (fun sc x => by simp [isIt])
end
end R

/-! R20: what is wanted behind statements. -/
namespace R
open L2 PyProof.Rows PySem.Spec PySem
/-- a def's body stands here: since its start (w₀, H₀) nothing but the cells has changed, and what is one's own is younger -/
structure At (T : Tb) (w₀ : Wd) (H₀ : Hp) (w : Wd) (σ : Sl) (κ : Cells) (σV : L2.St) (H : Hp) : Prop where
  wk : Wok T w H κ
  rs : RS T w H σV σ
  ext : Ext w₀ H₀ w H
  yg : ∀ (i : Nat) (o : O) (v : V), σ[i]? = some (some o) → σV[i]? = some (some v) → Young H₀ v o
/-- what is read alone stays -/
def Lk (σV : L2.St) (σ : Sl) (σV' : L2.St) (σ' : Sl) : Prop := ∀ (i : Nat) (o : O) (j : Nat), σ[i]? = some (some o) → o.tag = some j → σ'[i]? = some (some o) ∧ σV'[i]? = σV[i]?
theorem Lk.rfl' {σV : L2.St} {σ : Sl} : Lk σV σ σV σ := fun _ _ _ h _ => ⟨h, rfl⟩
theorem Lk.trans {σV σV1 σV2 : L2.St} {σ σ1 σ2 : Sl} (h : Lk σV σ σV1 σ1) (k : Lk σV1 σ1 σV2 σ2) : Lk σV σ σV2 σ2 := fun i o j e t => by
  obtain ⟨a, b⟩ := h i o j e t
  obtain ⟨c, d⟩ := k i o j a t
  exact ⟨c, d.trans b⟩
theorem Chg.lk {is : List Nat} {σV σV' : L2.St} {σ σ' : Sl} (h : Chg is σV σ σV' σ') : Lk σV σ σV' σ' := h.lock
def SPost (T : Tb) (w₀ : Wd) (H₀ : Hp) (w : Wd) (σ : Sl) (σV : L2.St) (out : Res) (W : WX) (D : Ends) : Prop := match out with
  | .nx σ' κ' => ∀ w' σV' H', At T w₀ H₀ w' σ' κ' σV' H' → Le w w' → Lk σV σ σV' σ' → D.nx σV' H'
  | .bk σ' κ' => ∀ w' σV' H', At T w₀ H₀ w' σ' κ' σV' H' → Le w w' → Lk σV σ σV' σ' → D.bk σV' H'
  | .ct σ' κ' => ∀ w' σV' H', At T w₀ H₀ w' σ' κ' σV' H' → Le w w' → Lk σV σ σV' σ' → D.ct σV' H'
  | .rt d κ' => ∀ w' H' v, Ext w₀ H₀ w' H' → Wok T w' H' κ' → RV T w' v d → D.rt v H'
  | .xc c fs σ' κ' => ∀ w' σV' H' cls d, At T w₀ H₀ w' σ' κ' σV' H' → Le w w' → Lk σV σ σV' σ' → RX T w' cls d c fs → W cls d σV' H'
  | .bad => False
def tS (T : Tb) (Γ : Cxt) (s : S) (W : WX) : TS := fun D σV H => ∃ w₀ H₀ w σ κ, At T w₀ H₀ w σ κ σV H ∧ SPost T w₀ H₀ w σ σV (exec Γ s σ κ) W D
section
variable {T : Tb} {Γ : Cxt} {w₀ w w' : Wd} {H₀ H H' : Hp} {σ σ' : Sl} {κ κ' : Cells} {σV σV' : L2.St} {W : WX} {Dn : Ends}
theorem SPost.step {out : Res} (p : SPost T w₀ H₀ w σ σV out W Dn) (l : Le w w') (k : Lk σV σ σV' σ') : SPost T w₀ H₀ w' σ' σV' out W Dn := by
  cases out with
  | nx _ _ => exact fun w2 s2 h2 a l2 k2 => p w2 s2 h2 a (l.trans l2) (k.trans k2)
  | bk _ _ => exact fun w2 s2 h2 a l2 k2 => p w2 s2 h2 a (l.trans l2) (k.trans k2)
  | ct _ _ => exact fun w2 s2 h2 a l2 k2 => p w2 s2 h2 a (l.trans l2) (k.trans k2)
  | rt _ _ => exact p
  | xc _ _ _ _ => exact fun w2 s2 h2 c d a l2 k2 => p w2 s2 h2 c d a (l.trans l2) (k.trans k2)
  | bad => exact p
/-- behind an expression -/
theorem At.ev (a : At T w₀ H₀ w σ κ σV H) (e : Ext w H w' H') (k : Wok T w' H' κ') : At T w₀ H₀ w' σ κ' σV H' := ⟨k, a.rs.ext e, a.ext.trans e, a.yg⟩
theorem SPost.exE {α : Type} {m : Out (α × Cells)} {f : α × Cells → Res} (a : At T w₀ H₀ w σ κ σV H) (p : SPost T w₀ H₀ w σ σV (R.exE m σ f) W Dn) {G : α × Cells → Wd → Hp → Prop} (h : ∀ r w' H', m = .ok r → Ext w H w' H' → Wok T w' H' r.2 → SPost T w₀ H₀ w' σ σV (f r) W Dn → G r w' H') :
    Post T w H m (fun c d H' => W c d σV H') G := by
  cases m with
  | ok r => exact fun w' H' e k => h r w' H' rfl e k (SPost.step (show SPost T w₀ H₀ w σ σV (f r) W Dn from p) e.le Lk.rfl')
  | exc c fs κ' => exact fun w' H' cls d e k rx => (show SPost T w₀ H₀ w σ σV (.xc c fs σ κ') W Dn from p) w' σV H' cls d (a.ev e k) e.le Lk.rfl' rx
  | bad => exact p.elim
theorem SPost.exO {α : Type} {m : Option α} {f : α → Res} (p : SPost T w₀ H₀ w σ σV (R.exO m f) W Dn) : ∃ x, m = some x ∧ SPost T w₀ H₀ w σ σV (f x) W Dn := by
  cases m with
  | none => exact p.elim
  | some x => exact ⟨x, rfl, p⟩
theorem At.setFz {i : Nat} {v : V} {d : D} (a : At T w₀ H₀ w σ κ σV H) (r : RV T w v d) : At T w₀ H₀ w (σ.set i (some (.fz d))) κ (σV.set i (some v)) H :=
  ⟨a.wk, a.rs.setFz r, a.ext, fun j o u e1 e2 => by
    rcases get_set e1 with ⟨rfl, e, _⟩ | ⟨ne, e⟩
    · cases e; exact fun p => by cases p
    · rcases get_set e2 with ⟨z, _, _⟩ | ⟨_, e2⟩
      · exact absurd z ne
      · exact a.yg j o u e e2⟩
/-- a value that is new stands in a slot -/
theorem At.setO {i : Nat} {v : V} {o : O} (a : At T w₀ H₀ w σ κ σV H) (r : RO T w H v o) (ht : o.tag = none) (hy : Young H₀ v o) (hn : ∀ j o', j ≠ i → σ[j]? = some (some o') → σV[j]? = some (some v) → o.place = false ∨ o'.place = false) :
    At T w₀ H₀ w (σ.set i (some o)) κ (σV.set i (some v)) H :=
  ⟨a.wk, a.rs.set fun u e => by cases e; exact ⟨v, rfl, r, (fun j z => by rw [ht] at z; cases z), hn⟩, a.ext, fun j u x e1 e2 => by
    rcases get_set e1 with ⟨rfl, e, _⟩ | ⟨ne, e⟩
    · cases e
      rcases get_set e2 with ⟨_, z, _⟩ | ⟨z, _⟩
      · cases z; exact hy
      · exact absurd rfl z
    · rcases get_set e2 with ⟨z, _, _⟩ | ⟨_, e2⟩
      · exact absurd z ne
      · exact a.yg j u x e e2⟩
theorem fresh_slots {v : V} {o : O} (rs : RS T w H σV σ) (hy : Young H v o) : ∀ (j : Nat) (o' : O), σ[j]? = some (some o') → σV[j]? = some (some v) → o.place = false ∨ o'.place = false := fun j o' e1 e2 => by
  cases hp : o.place with
  | false => exact .inl rfl
  | true =>
    cases hp' : o'.place with
    | false => exact .inr rfl
    | true =>
      obtain ⟨u, e3, r⟩ := rs.at_ j o' e1
      rw [e2] at e3
      cases e3
      obtain ⟨a, x, rfl, ha, _⟩ := r.addr hp'
      rw [hy hp a rfl] at ha
      cases ha
theorem store_ok' {i : Nat} {o : O} {f : Sl → Res} (p : SPost T w₀ H₀ w σ σV (storeO σ i o f) W Dn) : o.tag = none ∧ unlocked σ i = true ∧ SPost T w₀ H₀ w σ σV (f (σ.set i (some o))) W Dn := by
  cases o with
  | fz d => obtain ⟨x, e, p⟩ := SPost.exO (show SPost T w₀ H₀ w σ σV (R.exO (setAt σ i (some (.fz d))) f) W Dn from p); obtain ⟨u, rfl⟩ := setAt_ok e; exact ⟨rfl, u, p⟩
  | ol b xs =>
    cases b with
    | some _ => exact p.elim
    | none => obtain ⟨x, e, p⟩ := SPost.exO (show SPost T w₀ H₀ w σ σV (R.exO (setAt σ i (some (.ol none xs))) f) W Dn from p); obtain ⟨u, rfl⟩ := setAt_ok e; exact ⟨rfl, u, p⟩
  | od b xs =>
    cases b with
    | some _ => exact p.elim
    | none => obtain ⟨x, e, p⟩ := SPost.exO (show SPost T w₀ H₀ w σ σV (R.exO (setAt σ i (some (.od none xs))) f) W Dn from p); obtain ⟨u, rfl⟩ := setAt_ok e; exact ⟨rfl, u, p⟩
  | ot b xs =>
    cases b with
    | some _ => exact p.elim
    | none => obtain ⟨x, e, p⟩ := SPost.exO (show SPost T w₀ H₀ w σ σV (R.exO (setAt σ i (some (.ot none xs))) f) W Dn from p); obtain ⟨u, rfl⟩ := setAt_ok e; exact ⟨rfl, u, p⟩
theorem Lk.set {i : Nat} {o : Option O} {v : Option V} (h : unlocked σ i = true) : Lk σV σ (σV.set i v) (σ.set i o) := (Chg.set fun u q => unlocked_tag h q).lk
/-- what an exception's own start does -/
def spX (C : Addr) (f : Str) : Sp := fun vs H Q _ => ∃ a y, vs = [.ref a, y] ∧ H a = some (exo a C none) ∧ ∀ d, H d = none → d ≠ a → Q .non (upd (upd H d (exd d [(f, y)])) a (exo a C (some d)))
/-- an exception class with one field -/
structure ExOk (X : Cx) (C : Addr) (f : Str) : Prop where
  cls : OexC X.K C
  no : PySem.W.findIn X.K (.ref C) f = some none
  ga : PySem.W.findIn X.K (.ref C) "__getattribute__" = some (some (.builtin "BaseException.__getattribute__"))
  gg : PySem.W.findIn X.K (.ref C) "__getattr__" = some none
  hd : PySem.W.hasDictIn X.K C = true
  mkX : ∃ (fI : Addr) (fd : FuncData) (ps : List Str), PySem.W.findIn X.K (.ref C) "__init__" = some (some (.ref fI)) ∧ PySem.W.typeIn X.K (.ref fI) = some (.type "function") ∧ FnOk X.prog X.w X.K X.mg X.base (L2.CX X.prog X.w) 1 fI fd ps (spX C f) ∧ Binds X.K fd ps []
/-- where statements stand -/
structure XS (T : Tb) (S : Sg) (Γ : Cxt) (N : List Str) (n : Nat) (sc : Scope) (X : Cx) : Prop extends XG T S Γ N n sc X where
  fn : ∀ x, sc.names.lookup x = some .cell → X.fn x = true
  kind : (X.env.scope.kind = .function)
  own : PassesOwn (model X.prog X.w) X.A X.env X.xe
  stk : X.stack = X.env :: X.outer
  frm : X.env.frame = some X.env.locals
  exn : ∀ c ∈ S.exs, ∀ x nms, S.cls[c]? = some (x, nms) → nms ≠ [] → ∃ C, T.exc c = some (C, nms)
  exc : ∀ (c : Nat) (C : Addr) (nms : List Str), T.exc c = some (C, nms) → ∃ x f, nms = [f] ∧ S.cls[c]? = some (x, [f]) ∧ c ∈ S.exs ∧ X.mg x = some (.ref C) ∧ ExOk X C f
  han : ∀ c' ∈ S.exs, ∃ C' x nms', S.cls[c']? = some (x, nms') ∧ X.mg x = some (.ref C') ∧ ∀ (c : Nat) (C : Addr) (nms : List Str), T.exc c = some (C, nms) → PySem.W.exmOne X.K (.ref C) (.ref C') = some (Γ.sub c c')
theorem XS.sto {S : Sg} {N : List Str} {n : Nat} {sc : Scope} {X : Cx} (g : XS T S Γ N n sc X) : Sto N sc sc X := ⟨g.hN, g.nd, g.hsc, g.fn⟩
/-! ### the simple ones -/
variable {S : Sg} {N : List Str} {n : Nat} {sc : Scope} {X : Cx}
theorem ss_nil : PSs X [] (tS T Γ .nil W) := pssI pss_nil fun D σV H h => by
  obtain ⟨w₀, H₀, w, σ, κ, a, p⟩ := h
  exact p w σV H a (Le.rfl' w) Lk.rfl'
theorem ss_cons {st : Stmt} {rest : List Stmt} {s t : R.S} (h1 : PS X st (tS T Γ s W)) (h2 : PSs X rest (tS T Γ t W)) : PSs X (st :: rest) (tS T Γ (.cons s t) W) := pssI (pss_cons h1 h2) fun D σV H h => by
  obtain ⟨w₀, H₀, w, σ, κ, a, p⟩ := h
  refine ⟨w₀, H₀, w, σ, κ, a, ?_⟩
  unfold exec at p
  cases er : exec Γ s σ κ with
  | nx σ' κ' =>
    rw [er] at p
    exact fun w' σV' H' a' l k => ⟨w₀, H₀, w', σ', κ', a', SPost.step (show SPost T w₀ H₀ w σ σV (exec Γ t σ' κ') W D from p) l k⟩
  | rt _ _ => rw [er] at p; exact p
  | bk _ _ => rw [er] at p; exact p
  | ct _ _ => rw [er] at p; exact p
  | xc _ _ _ _ => rw [er] at p; exact p
  | bad => rw [er] at p; exact p
theorem s_pass {pos : Pos} : PS X (.Pass pos) (tS T Γ .pass W) := psI ps_pass fun D σV H h => by
  obtain ⟨w₀, H₀, w, σ, κ, a, p⟩ := h
  exact p w σV H a (Le.rfl' w) Lk.rfl'
theorem s_brk {pos : Pos} : PS X (.Break pos) (tS T Γ .brk W) := psI ps_break fun D σV H h => by
  obtain ⟨w₀, H₀, w, σ, κ, a, p⟩ := h
  exact p w σV H a (Le.rfl' w) Lk.rfl'
theorem s_cnt {pos : Pos} : PS X (.Continue pos) (tS T Γ .cnt W) := psI ps_continue fun D σV H h => by
  obtain ⟨w₀, H₀, w, σ, κ, a, p⟩ := h
  exact p w σV H a (Le.rfl' w) Lk.rfl'
theorem s_retN {pos : Pos} : PS X (.Return none pos) (tS T Γ .retN W) := psI ps_retN fun D σV H h => by
  obtain ⟨w₀, H₀, w, σ, κ, a, p⟩ := h
  exact p w H .non a.ext a.wk .non
theorem s_stuck {st : Stmt} : PS X st (tS T Γ .stuck W) := psI ps_never fun D σV H h => by
  obtain ⟨w₀, H₀, w, σ, κ, a, p⟩ := h
  exact p
theorem s_ret {pos : Pos} {x : Expr} {e : E} (he : PE X x (tE T Γ e W)) : PS X (.Return (some x) pos) (tS T Γ (.ret e) W) := psI (ps_ret he) fun D σV H h => by
  obtain ⟨w₀, H₀, w, σ, κ, a, p⟩ := h
  unfold exec at p
  refine ⟨w, σ, κ, a.wk, a.rs, SPost.exE a p fun r w1 H1 er e k p v hv hb hy => ?_⟩
  obtain ⟨d, ed, p⟩ := p.exO
  obtain ⟨w2, k2, e2, l2, rv⟩ := hv.give k ed e (hy (frz_tag ed))
  exact p w2 H1 v (a.ext.trans e2) k2 rv
theorem s_drop {pos : Pos} {x : Expr} {e : E} (he : PE X x (tE T Γ e W)) (hs : swapsWith x none pos.line X.env = pure false) : PS X (.Expr x pos) (tS T Γ (.drop e) W) := psI (ps_expr he hs) fun D σV H h => by
  obtain ⟨w₀, H₀, w, σ, κ, a, p⟩ := h
  unfold exec at p
  exact ⟨w, σ, κ, a.wk, a.rs, SPost.exE a p fun r w1 H1 er e k p v hv hb hy => p w1 σV H1 (a.ev e k) (Le.rfl' w1) Lk.rfl'⟩
theorem s_ite {pos : Pos} {x : Expr} {p q : List Stmt} {c : E} {s t : R.S} (hc : PT X x (tT T Γ c W)) (ha : PSs X p (tS T Γ s W)) (hb : PSs X q (tS T Γ t W)) : PS X (.If x p q pos) (tS T Γ (.ite c s t) W) := psI (ps_if hc ha hb) fun D σV H h => by
  obtain ⟨w₀, H₀, w, σ, κ, a, p⟩ := h
  unfold exec at p
  have p' : SPost T w₀ H₀ w σ σV (R.exE (evT Γ c σ κ) σ fun t' => if t'.1 = true then exec Γ s σ t'.2 else exec Γ t σ t'.2) W D := by
    unfold evT
    cases er : ev Γ c σ κ with
    | ok r =>
      rw [er] at p
      cases eb : truD r.1.d with
      | none => simp only [R.exE, R.exO, eb] at p; exact p.elim
      | some b => simp only [R.exE, R.exO, eb] at p; simp only [Out.bind, opt, R.exE, eb]; exact p
    | _ => rw [er] at p; exact p
  refine ⟨w, σ, κ, a.wk, a.rs, SPost.exE a p' fun r w1 H1 er e k p => ?_⟩
  show if r.1 = true then _ else _
  cases hr : r.1 with
  | true => rw [if_pos hr] at p; rw [if_pos rfl]; exact ⟨w₀, H₀, w1, σ, r.2, a.ev e k, p⟩
  | false => rw [if_neg (by simp [hr])] at p; rw [if_neg (by simp)]; exact ⟨w₀, H₀, w1, σ, r.2, a.ev e k, p⟩
/-- name = e: what is wanted behind e -/
theorem set_sem {i : Nat} {e : E} : ∀ D σV H, tS T Γ (.set i e) W D σV H → tAsg (tE T Γ e W) (gName i) D σV H := fun D σV H h => by
  obtain ⟨w₀, H₀, w, σ, κ, a, p⟩ := h
  unfold exec at p
  refine ⟨w, σ, κ, a.wk, a.rs, SPost.exE a p fun r w1 H1 er e k p v hv hb hy => ?_⟩
  obtain ⟨ht, ul, p⟩ := store_ok' p
  have a1 := a.ev e k
  have y0 : Young H₀ v r.1 := fun pl b eb => a.ext.dom b (hy ht pl b eb)
  exact p w1 _ H1 (a1.setO hv ht y0 fun j o' _ => fresh_slots a.rs (hy ht) j o') (Le.rfl' w1) (Lk.set ul)
theorem s_set {i : Nat} {y : Str} {x : Expr} {e : E} {p0 pos : Pos} (g : XS T S Γ N n sc X) (hn : stoB N sc sc i y = true) (he : PE X x (tE T Γ e W)) (hs : swapsWith x (some (.Name y p0)) pos.line X.env = pure false) : PS X (.Assign [.Name y p0] x pos) (tS T Γ (.set i e) W) := by
  obtain ⟨h1, h2, h3⟩ := sto_of hn g.sto
  exact psI (ps_set (by rw [g.hN]; exact g.nd) h1 h2 he hs h3) set_sem
theorem assign1_place : ∀ {is : List Nat} {ds : List D} {σ σ' : Sl}, assign1 is ds σ = some σ' → ∀ (i : Nat) (o : O), σ'[i]? = some (some o) → o.place = true → σ[i]? = some (some o) ∧ i ∉ is
  | [], [], σ, σ', e, i, o, h, _ => by simp only [assign1, Option.some.injEq] at e; subst e; exact ⟨h, by simp⟩
  | [], _ :: _, _, _, e, _, _, _, _ => by simp [assign1] at e
  | _ :: _, [], _, _, e, _, _, _, _ => by simp [assign1] at e
  | k :: is, d :: ds, σ, σ', e, i, o, h, hp => by
    simp only [assign1] at e
    cases e1 : setAt σ k (some (.fz d)) with
    | none => rw [e1] at e; cases e
    | some σ1 =>
      rw [e1] at e
      obtain ⟨ul, rfl⟩ := setAt_ok e1
      obtain ⟨h1, h2⟩ := assign1_place e i o h hp
      rcases get_set h1 with ⟨_, z, _⟩ | ⟨ne, h1⟩
      · cases z; cases hp
      · exact ⟨h1, by simp [ne, h2]⟩
theorem assignT_place {tg : Tg} {d : D} {σ σ' : Sl} (e : assignT tg d σ = some σ') (i : Nat) (o : O) (h : σ'[i]? = some (some o)) (hp : o.place = true) : σ[i]? = some (some o) ∧ i ∉ tg.ix := by
  cases tg with
  | v k =>
    obtain ⟨ul, rfl⟩ := setAt_ok (show setAt σ k (some (.fz d)) = some σ' from e)
    rcases get_set h with ⟨_, z, _⟩ | ⟨ne, h1⟩
    · cases z; cases hp
    · exact ⟨h1, by simp [Tg.ix, ne]⟩
  | t is =>
    cases d with
    | tup ds => exact assign1_place (show assign1 is ds σ = some σ' from e) i o h hp
    | _ => cases e
theorem At.target {tg : Tg} {d : D} (a : At T w₀ H₀ w σ κ σV H) (e : assignT tg d σ = some σ') (rs : RS T w H σV' σ') (c : Chg tg.ix σV σ σV' σ') : At T w₀ H₀ w σ' κ σV' H :=
  ⟨a.wk, rs, a.ext, fun i o u h1 h2 pl => by
    obtain ⟨h3, h4⟩ := assignT_place e i o h1 pl
    rw [c.only i h4] at h2
    exact a.yg i o u h3 h2 pl⟩
/-- a target of any form = e -/
theorem s_sets {tg : Tg} {t x : Expr} {e : E} {pos : Pos} (g : XS T S Γ N n sc X) (ht : tgB N sc sc tg t = true) (he : PE X x (tE T Γ e W)) (hs : swapsWithSole [t] x pos.line X.env = pure false) (hw : swappedStores [t] x X.env = pure none) :
    PS X (.Assign [t] x pos) (tS T Γ (.sets tg e) W) := by
  refine psI (ps_asg he (pg_ok ht g.sto g.hK g.calm) hs hw (by cases tg <;> cases t <;> first | rfl | (simp [tgB] at ht; done))) fun D σV H h => ?_
  obtain ⟨w₀, H₀, w, σ, κ, a, p⟩ := h
  unfold exec at p
  refine ⟨w, σ, κ, a.wk, a.rs, SPost.exE a p fun r w1 H1 er e k p v hv hb hy => ?_⟩
  obtain ⟨d, ed, p⟩ := p.exO
  obtain ⟨σ', eσ, p⟩ := p.exO
  obtain ⟨w2, k2, e2, l2, rv⟩ := hv.give k ed e (hy (frz_tag ed))
  exact ⟨w2, σ, r.2, d, σ', k2, a.rs.ext e2, rv, eσ, fun σV' rs' chg => p w2 σV' H1 ((a.ev e2 k2).target eσ rs' chg) l2 chg.lk⟩
end
end R

/-! R21: loops. -/
namespace R
open L2 PyProof.Rows PySem.Spec PySem
section
variable {T : Tb} {Γ : Cxt} {w₀ w w' : Wd} {H₀ H H' : Hp} {σ σ' : Sl} {κ κ' : Cells} {σV σV' : L2.St} {W : WX} {Dn : Ends}
theorem read_place (o : O) (i : Nat) : (o.read i).place = o.place := by cases o <;> rfl
theorem read_tag {o : O} {i : Nat} (h : o.place = true) : (o.read i).tag = some i := by cases o <;> first | rfl | cases h
theorem tag_place {o : O} {i : Nat} (h : o.tag = some i) : o.place = true := by cases o <;> first | rfl | cases h
theorem bor_tag {o : O} {i : Nat} (h : i ∈ o.bor) : o.tag = some i := by
  cases o with
  | fz d => simp [O.bor] at h
  | ol b xs => cases b <;> simp [O.bor] at h; subst h; rfl
  | od b xs => cases b <;> simp [O.bor] at h; subst h; rfl
  | ot b xs => cases b <;> simp [O.bor] at h; subst h; rfl
/-- the same slots under other marks -/
theorem RS.mark {i : Nat} {o o2 : O} (h : RS T w H σV σ) (e : σ[i]? = some (some o)) (hr : ∀ v, RO T w H v o → RO T w H v o2) (hp : o2.place = o.place) (ht : ∀ j, o2.tag = some j → j = i) : RS T w H σV (σ.set i (some o2)) := by
  obtain ⟨v, ev, r⟩ := h.at_ i o e
  have hl : i < σV.length := (List.getElem?_eq_some_iff.mp ev).1
  have z := h.set (i := i) (v := some v) (o := some o2) fun u eu => by
    cases eu
    exact ⟨v, rfl, hr v r, ht, fun j o' ne e1 e2 => by
      rw [hp]
      exact h.apart i j o o' v (fun z => ne z.symm) e e1 ev e2⟩
  have e2 : σV.set i (some v) = σV := by
    refine (List.ext_getElem? fun j => ?_)
    by_cases hj : i = j
    · subst hj; rw [List.getElem?_set_self hl, ev]
    · rw [List.getElem?_set_ne hj]
  rwa [e2] at z
theorem At.mark {i : Nat} {o o2 : O} (a : At T w₀ H₀ w σ κ σV H) (e : σ[i]? = some (some o)) (hr : ∀ v, RO T w H v o → RO T w H v o2) (hp : o2.place = o.place) (ht : ∀ j, o2.tag = some j → j = i) : At T w₀ H₀ w (σ.set i (some o2)) κ σV H :=
  ⟨a.wk, a.rs.mark e hr hp ht, a.ext, fun j u v e1 e2 pl => by
    rcases get_set e1 with ⟨rfl, z, _⟩ | ⟨_, e3⟩
    · cases z; rw [hp] at pl; exact a.yg j o v e e2 pl
    · exact a.yg j u v e3 e2 pl⟩
theorem At.lock : ∀ {is : List Nat} {σ : Sl}, At T w₀ H₀ w σ κ σV H → At T w₀ H₀ w (lockAll σ is) κ σV H
  | [], _, a => a
  | i :: is, σ, a => by
    unfold lockAll
    split
    · rename_i xs e; exact At.lock (a.mark e (fun v r => r) rfl fun j z => by cases z; rfl)
    · rename_i xs e; exact At.lock (a.mark e (fun v r => r) rfl fun j z => by cases z; rfl)
    · rename_i xs e; exact At.lock (a.mark e (fun v r => r) rfl fun j z => by cases z; rfl)
    · exact At.lock a
theorem At.unlock {was : Sl} : ∀ {is : List Nat} {σ : Sl}, At T w₀ H₀ w σ κ σV H → At T w₀ H₀ w (unlockAll was σ is) κ σV H
  | [], _, a => a
  | i :: is, σ, a => by
    unfold unlockAll
    split
    · rename_i e0 e; exact At.unlock (a.mark e (fun v r => r) rfl fun j z => by cases z)
    · rename_i e0 e; exact At.unlock (a.mark e (fun v r => r) rfl fun j z => by cases z)
    · rename_i e0 e; exact At.unlock (a.mark e (fun v r => r) rfl fun j z => by cases z)
    · exact At.unlock a
/-- what was read alone is not touched by marks -/
theorem lock_same : ∀ {is : List Nat} {σ : Sl} {i : Nat} {o : O} {j : Nat}, σ[i]? = some (some o) → o.tag = some j → (lockAll σ is)[i]? = some (some o)
  | [], _, _, _, _, e, _ => e
  | k :: is, σ, i, o, j, e, t => by
    have ne : ∀ {u : O}, σ[k]? = some (some u) → u.tag = none → k ≠ i := fun {u} e1 t1 z => by
      subst z; rw [e] at e1; cases e1; rw [t1] at t; cases t
    unfold lockAll
    split
    · rename_i xs e1; exact lock_same (by rw [List.getElem?_set_ne (ne e1 rfl)]; exact e) t
    · rename_i xs e1; exact lock_same (by rw [List.getElem?_set_ne (ne e1 rfl)]; exact e) t
    · rename_i xs e1; exact lock_same (by rw [List.getElem?_set_ne (ne e1 rfl)]; exact e) t
    · exact lock_same e t
theorem unlock_same {was : Sl} : ∀ {is : List Nat} {σ : Sl} {i : Nat} {o o' : O} {j : Nat}, was[i]? = some (some o) → o.tag = some j → σ[i]? = some (some o') → (unlockAll was σ is)[i]? = some (some o')
  | [], _, _, _, _, _, _, _, e => e
  | k :: is, σ, i, o, o', j, ew, t, e => by
    have ne : ∀ {u : O}, was[k]? = some (some u) → u.tag = none → k ≠ i := fun {u} e1 t1 z => by
      subst z; rw [ew] at e1; cases e1; rw [t1] at t; cases t
    unfold unlockAll
    split
    · rename_i e1 _; exact unlock_same ew t (by rw [List.getElem?_set_ne (ne e1 rfl)]; exact e)
    · rename_i e1 _; exact unlock_same ew t (by rw [List.getElem?_set_ne (ne e1 rfl)]; exact e)
    · rename_i e1 _; exact unlock_same ew t (by rw [List.getElem?_set_ne (ne e1 rfl)]; exact e)
    · exact unlock_same ew t e
/-- the locked ones are marked -/
theorem lock_spec : ∀ {is : List Nat} {σ : Sl} {i : Nat} {o : O}, (∀ (i j : Nat) (o : O), σ[i]? = some (some o) → o.tag = some j → j = i) → i ∈ is → σ[i]? = some (some o) → o.place = true → (lockAll σ is)[i]? = some (some (o.read i))
  | [], _, _, _, _, h, _, _ => by (simp at h)
  | k :: is, σ, i, o, tg, h, e, pl => by
    have hl : i < σ.length := (List.getElem?_eq_some_iff.mp e).1
    by_cases hk : k = i
    · subst hk
      unfold lockAll
      split
      · rename_i xs e1; rw [e] at e1; cases e1; exact lock_same (j := k) (by rw [List.getElem?_set_self hl]; rfl) rfl
      · rename_i xs e1; rw [e] at e1; cases e1; exact lock_same (j := k) (by rw [List.getElem?_set_self hl]; rfl) rfl
      · rename_i xs e1; rw [e] at e1; cases e1; exact lock_same (j := k) (by rw [List.getElem?_set_self hl]; rfl) rfl
      · rename_i n1 n2 n3
        have ht : ∃ j, o.tag = some j := by
          cases o with
          | fz d => cases pl
          | ol b xs => cases b with | none => exact absurd e (n1 xs) | some j => exact ⟨j, rfl⟩
          | od b xs => cases b with | none => exact absurd e (n2 xs) | some j => exact ⟨j, rfl⟩
          | ot b xs => cases b with | none => exact absurd e (n3 xs) | some j => exact ⟨j, rfl⟩
        obtain ⟨j, ht⟩ := ht
        have hj := tg k j o e ht
        subst hj
        have er : o.read j = o := by cases o <;> simp [O.tag] at ht <;> subst ht <;> rfl
        rw [er]
        exact lock_same e ht
    · have hi : i ∈ is := by
        rcases (List.mem_cons.mp h) with z | z
        · exact absurd z.symm hk
        · exact z
      have step : ∀ {u : O}, (∀ j, u.tag = some j → j = k) → (lockAll (σ.set k (some u)) is)[i]? = some (some (o.read i)) := fun {u} hu => lock_spec (fun a b c e1 t1 => by
        rcases get_set e1 with ⟨rfl, z, _⟩ | ⟨_, e2⟩
        · cases z; exact hu b t1
        · exact tg a b c e2 t1) hi (by rw [List.getElem?_set_ne hk]; exact e) pl
      unfold lockAll
      split
      · exact step fun j z => by cases z; rfl
      · exact step fun j z => by cases z; rfl
      · exact step fun j z => by cases z; rfl
      · exact lock_spec tg hi e pl
/-- what a walk borrows stands in slots -/
theorem src_bor {e : E} {r : O × Cells} {i : Nat} (er : ev Γ e σ κ = .ok r) (h : i ∈ r.1.bor) : ∃ o, σ[i]? = some (some o) ∧ o.place = true := by
  obtain ⟨o', eo, e2⟩ := ev_src Γ e σ κ r er i (bor_tag h)
  exact ⟨o', eo, by rw [← read_place o' i, ← e2]; exact tag_place (bor_tag h)⟩
theorem it_src {it : E} {r : (List D × List Nat) × Cells} (h : evIt Γ it σ κ = .ok r) : ∀ i ∈ r.1.2, ∃ o, σ[i]? = some (some o) ∧ o.place = true := by
  cases it <;> try (unfold evIt at h; cases h; done)
  · rename_i a
    unfold evIt at h
    obtain ⟨x, e1, h⟩ := obind_ok h
    obtain ⟨xs, e2, h⟩ := obind_ok h
    cases h
    exact fun i hi => src_bor e1 hi
  · rename_i a
    unfold evIt at h
    obtain ⟨x, e1, h⟩ := obind_ok h
    generalize x.1.d = dx at h
    cases dx with
    | int j => obtain ⟨xs, e2, h⟩ := obind_ok (show (opt (rangeD 0 j)).bind _ = .ok r from h); cases h; exact fun i hi => by simp at hi
    | _ => cases h
  · rename_i a b
    unfold evIt at h
    obtain ⟨x, e1, h⟩ := obind_ok h
    obtain ⟨y, e2, h⟩ := obind_ok h
    generalize x.1.d = dx at h
    generalize y.1.d = dy at h
    cases dx with
    | int i =>
      cases dy with
      | int j => obtain ⟨xs, e2, h⟩ := obind_ok (show (opt (rangeD i j)).bind _ = .ok r from h); cases h; exact fun i hi => by simp at hi
      | _ => cases h
    | _ => cases h
  · rename_i a b
    unfold evIt at h
    obtain ⟨x, e1, h⟩ := obind_ok h
    obtain ⟨y, e2, h⟩ := obind_ok h
    obtain ⟨xs, e3, h⟩ := obind_ok h
    obtain ⟨ys, e4, h⟩ := obind_ok h
    cases h
    intro i hi
    rcases List.mem_append.mp hi with hi | hi
    · exact src_bor e1 hi
    · exact src_bor e2 hi
/-- the loop's end, back before the loop -/
theorem unlock_lk {was : Sl} {is : List Nat} (a : Lk σV (lockAll was is) σV' σ') : Lk σV was σV' (unlockAll was σ' is) := fun i o j e t => by
  obtain ⟨h1, h2⟩ := a i o j (lock_same e t) t
  exact ⟨unlock_same e t h1, h2⟩
variable {S : Sg} {N : List Str} {n : Nat} {sc : Scope} {X : Cx}
theorem s_for {tg : Tg} {t x : Expr} {it : E} {b : R.S} {body : List Stmt} {pos : Pos} (g : XS T S Γ N n sc X) (ht : tgB N sc sc tg t = true) (hi : PI X t x (tI T Γ it W)) (hb : PSs X body (tS T Γ b W)) (hs : ∀ v, foldedSetIterable x X.env v = pure v) :
    PS X (.For t x body [] pos) (tS T Γ (.for_ tg it b) W) := by
  refine psI (ps_for g.own g.calm hi (pg_ok ht g.sto g.hK g.calm) hb hs) fun Dn σV H h => ?_
  obtain ⟨w₀, H₀, w, σ, κ, a, p⟩ := h
  unfold exec at p
  refine ⟨w, σ, κ, a.wk, a.rs, SPost.exE a p fun r w1 H1 er e k p J Keep hk wd la => ?_⟩
  generalize hstep : (fun x σ κ => R.exO (assignT tg x σ) fun σ => exec Γ b σ κ) = step at p
  have a1 := a.ev e k
  refine ⟨fun i m σV' H' => m = r.1.1.length - i ∧ i ≤ r.1.1.length ∧ ∃ w2 σ2 κ2, At T w₀ H₀ w2 σ2 κ2 σV' H' ∧ Le w1 w2 ∧ Lk σV (lockAll σ r.1.2) σV' σ2 ∧ SPost T w₀ H₀ w1 σ σV (unlockR σ r.1.2 (forLoop step (r.1.1.drop i) σ2 κ2)) W Dn, ⟨r.1.1.length, by simp, Nat.zero_le _, w1, lockAll σ r.1.2, r.2, a1.lock, Le.rfl' w1, Lk.rfl', by simpa using p⟩, ?_⟩
  intro i m σV' H' inv
  obtain ⟨rfl, hil, w2, σ2, κ2, a2, l2, lk2, p2⟩ := inv
  have hkeep : Keep w2 H' := la.slots w2 H' σV' σ2 l2 a2.wk.le a2.rs fun i hi => by
    obtain ⟨o, eo, pl⟩ := it_src er i hi
    obtain ⟨h1, h2⟩ := lk2 i _ i (lock_spec a.rs.tag hi eo pl) (read_tag pl)
    exact ⟨h2, o, eo, h1⟩
  obtain ⟨walk, stop⟩ := wd w2 H' κ2 a2.wk hkeep
  by_cases hlt : i < r.1.1.length
  · obtain ⟨go, yld⟩ := walk i hlt
    refine .inr ⟨go, fun σV3 H3 => ∃ w3 σ3 κ3, At T w₀ H₀ w3 σ3 κ3 σV3 H3 ∧ Le w1 w3 ∧ Lk σV (lockAll σ r.1.2) σV3 σ3 ∧ SPost T w₀ H₀ w1 σ σV (unlockR σ r.1.2 (forLoop step (r.1.1.drop (i + 1)) σ3 κ3)) W Dn, fun σ3 H3 q => ⟨r.1.1.length - (i + 1), by omega, rfl, by omega, q⟩, fun v H3 y => ?_⟩
    obtain ⟨w3, d, ed, x3, k3, rd⟩ := yld v H3 y
    have hdrop : r.1.1.drop i = d :: r.1.1.drop (i + 1) := by
      rw [(List.drop_eq_getElem_cons hlt)]
      rw [List.getElem?_eq_getElem hlt] at ed
      cases ed
      rfl
    rw [hdrop] at p2
    simp only [forLoop] at p2
    have a3 := a2.ev x3 k3
    cases eσ : assignT tg d σ2 with
    | none =>
      have : step d σ2 κ2 = .bad := by rw [← hstep]; simp [R.exO, eσ]
      rw [this] at p2
      exact p2.elim
    | some σ4 =>
      have hst : step d σ2 κ2 = exec Γ b σ4 κ2 := by rw [← hstep]; simp [R.exO, eσ]
      rw [hst] at p2
      refine ⟨w3, σ2, κ2, d, σ4, k3, a3.rs, rd, eσ, fun σV4 rs4 chg => ⟨w₀, H₀, w3, σ4, κ2, a3.target eσ rs4 chg, ?_⟩⟩
      have lk4 : Lk σV (lockAll σ r.1.2) σV4 σ4 := lk2.trans chg.lk
      have l3 := l2.trans x3.le
      cases ex : exec Γ b σ4 κ2 with
      | nx σ5 κ5 => rw [ex] at p2; exact fun w5 σV5 H5 a5 l5 lk5 => ⟨w5, σ5, κ5, a5, l3.trans l5, lk4.trans lk5, p2⟩
      | ct σ5 κ5 => rw [ex] at p2; exact fun w5 σV5 H5 a5 l5 lk5 => ⟨w5, σ5, κ5, a5, l3.trans l5, lk4.trans lk5, p2⟩
      | bk σ5 κ5 => rw [ex] at p2; exact fun w5 σV5 H5 a5 l5 lk5 => (show SPost T w₀ H₀ w1 σ σV (.nx (unlockAll σ σ5 r.1.2) κ5) W Dn from p2) w5 σV5 H5 a5.unlock (l3.trans l5) (unlock_lk (lk4.trans lk5))
      | rt d5 κ5 => rw [ex] at p2; exact p2
      | xc c fs σ5 κ5 =>
        rw [ex] at p2
        refine fun w5 σV5 H5 cls dd a5 l5 lk5 rx => (show SPost T w₀ H₀ w1 σ σV (.xc c fs σ5 κ5) W Dn from p2) w5 σV5 H5 cls dd a5 (l3.trans l5) (fun i o j e t => (lk4.trans lk5) i o j (lock_same e t) t) rx
      | bad => rw [ex] at p2; exact p2
  · have e : i = r.1.1.length := by omega
    subst e
    rw [List.drop_length] at p2
    exact .inl ⟨stop, (show SPost T w₀ H₀ w1 σ σV (.nx (unlockAll σ σ2 r.1.2) κ2) W Dn from p2) w2 σV' H' a2.unlock l2 (unlock_lk lk2)⟩
theorem s_whl {c : E} {b : R.S} {x : Expr} {body : List Stmt} {pos : Pos} (g : XS T S Γ N n sc X) (hc : PT X x (tT T Γ c W)) (hb : PSs X body (tS T Γ b W)) : PS X (.While x body [] pos) (tS T Γ (.whl c b) W) := by
  refine psI (ps_while g.own hc hb) fun Dn σV H h => ?_
  obtain ⟨w₀, H₀, w, σ, κ, a, p⟩ := h
  unfold exec at p
  generalize htest : (fun σ κ => (ev Γ c σ κ).bind fun x => (opt (truD x.1.d)).bind fun t => Out.ok (t, x.2)) = test at p
  have ht : ∀ σ κ, test σ κ = evT Γ c σ κ := fun σ κ => by rw [← htest]; rfl
  refine ⟨fun m σV' H' => ∃ w2 σ2 κ2, At T w₀ H₀ w2 σ2 κ2 σV' H' ∧ SPost T w₀ H₀ w2 σ2 σV' (whileLoop test (fun σ κ => exec Γ b σ κ) m σ2 κ2) W Dn, ⟨Γ.fuel, w, σ, κ, a, p⟩, ?_⟩
  intro m σV' H' inv
  obtain ⟨w2, σ2, κ2, a2, p2⟩ := inv
  cases m with
  | zero => exact p2.elim
  | succ m =>
    simp only [whileLoop] at p2
    rw [ht] at p2
    refine ⟨w2, σ2, κ2, a2.wk, a2.rs, SPost.exE a2 p2 fun r w3 H3 er e k p3 => ?_⟩
    have a3 := a2.ev e k
    show if r.1 = true then _ else _
    cases hr : r.1 with
    | false => rw [if_neg (by simp [hr])] at p3; rw [if_neg (by simp)]; exact p3 w3 σV' H3 a3 (Le.rfl' w3) Lk.rfl'
    | true =>
      rw [if_pos hr] at p3
      rw [if_pos rfl]
      refine ⟨fun σV4 H4 => ∃ w4 σ4 κ4, At T w₀ H₀ w4 σ4 κ4 σV4 H4 ∧ SPost T w₀ H₀ w4 σ4 σV4 (whileLoop test (fun σ κ => exec Γ b σ κ) m σ4 κ4) W Dn, fun σV4 H4 q => ⟨m, Nat.lt_succ_self m, q⟩, w₀, H₀, w3, σ2, r.2, a3, ?_⟩
      cases ex : exec Γ b σ2 r.2 with
      | nx σ5 κ5 => rw [ex] at p3; exact fun w5 σV5 H5 a5 l5 lk5 => ⟨w5, σ5, κ5, a5, p3.step l5 lk5⟩
      | ct σ5 κ5 => rw [ex] at p3; exact fun w5 σV5 H5 a5 l5 lk5 => ⟨w5, σ5, κ5, a5, p3.step l5 lk5⟩
      | bk σ5 κ5 => rw [ex] at p3; exact fun w5 σV5 H5 a5 l5 lk5 => (show SPost T w₀ H₀ w3 σ2 σV' (.nx σ5 κ5) W Dn from p3) w5 σV5 H5 a5 l5 lk5
      | rt d5 κ5 => rw [ex] at p3; exact p3
      | xc c fs σ5 κ5 => rw [ex] at p3; exact p3
      | bad => rw [ex] at p3; exact p3
end
end R

/-! R22: names = comprehensions; several names at once. -/
namespace R
open L2 PyProof.Rows PySem.Spec PySem
section
variable {T : Tb} {Γ : Cxt} {w₀ w w' : Wd} {H₀ H H' : Hp} {σ σ' : Sl} {κ κ' : Cells} {σV σV' : L2.St} {W : WX} {Dn : Ends}
variable {S : Sg} {N : List Str} {n : Nat} {sc : Scope} {X : Cx}
def notLc : Expr → Bool
  | .ListComp _ _ _ _ => false
  | _ => true
theorem sw_no {e : E} {x : Expr} {tg : Option Expr} {l : Nat} {env : Env} (q : isE S N none e sc x = true) (h : notLc x = true) : swapsWith x tg l env = pure false := by
  cases x <;> first | rfl | (cases h; done) | (cases e <;> simp [isE] at q; done)
/-- name = [..] -/
theorem s_setC {i : Nat} {y : Str} {p0 pos : Pos} {own : List Nat} {tg : Tg} {it ifs elt : E} {x : Expr} (g : XS T S Γ N n sc X) (hn : stoB N sc sc i y = true) (q : isE S N none (.comp own tg it ifs elt) sc x = true) (tk : Takes X W) : PS X (.Assign [.Name y p0] x pos) (tS T Γ (.set i (.comp own tg it ifs elt)) W) := by
  have hpe := (all_ok (T := T) (Γ := Γ) (n := n) (.comp own tg it ifs elt)).pe sc x X W q g.toXG tk
  cases x <;> try (simp [isE] at q; done)
  rename_i x gens scope cp
  have hsw : swapsWith (.ListComp x gens scope cp) (some (.Name y p0)) pos.line X.env = pure (X.env.blockKind == .function && X.env.kindOf y == some .local && p0.line == cp.line && !(scope.names.any fun (n, k) => n == y && (k == .local || k == .cell))) := rfl
  cases hb : (X.env.blockKind == .function && X.env.kindOf y == some .local && p0.line == cp.line && !(scope.names.any fun (n, k) => n == y && (k == .local || k == .cell))) with
  | false => rw [hb] at hsw; exact s_set g hn hpe hsw
  | true =>
    rw [hb] at hsw
    simp only [Bool.and_eq_true] at hb
    have hy : X.env.scope.names.lookup y = some .local := by
      have h := hb.1.1.2
      unfold Env.kindOf at h
      cases e : X.env.scope.names.lookup y with
      | none => (rw [e] at h; cases h)
      | some k => rw [e] at h; cases k <;> first | rfl | cases h
    cases gens with
    | nil => simp [isE] at q
    | cons gn rest =>
    cases rest with
    | cons _ _ => simp [isE] at q
    | nil =>
    obtain ⟨t, i2, is, asy⟩ := gn
    by_cases hz : asy = 0
    case neg => simp [isE, hz] at q
    subst hz
    simp only [isE, Bool.and_eq_true, decide_eq_true_eq] at q
    obtain ⟨⟨⟨⟨⟨⟨⟨⟨q1, q2⟩, q3⟩, q4⟩, q5⟩, q6⟩, q7⟩, q8⟩, q9⟩ := q
    have ok : BlkOk X.N X.env.scope scope (ownN N own) := by rw [g.hN, g.hsc]; exact blkOk_by q1
    obtain ⟨h1, h2, h3⟩ := sto_of hn g.sto
    have hl := ps_setLc (wi := tI T Γ it W) (g := gT T tg) (tt := tIf T Γ ifs) (te := tE T Γ elt W0) (pos := cp) (spos := pos) (py := p0) g.calm (by rw [g.hN]; exact g.nd) h1 hy hsw ((all_ok it).pi sc t i2 X W q4 q6 g.toXG tk) ok
      (fun s H C cl fp => pg_ok q3 ⟨g.hN, g.nd, (g.toXG.blk s H scope C cl fp).hsc, fn_blk⟩ g.hK g.calm) (fun s H C cl fp => (all_ok ifs).pf _ is _ q8 (g.toXG.blk s H scope C cl fp)) (fun s H C cl fp => (all_ok elt).pe _ x _ W0 q9 (g.toXG.blk s H scope C cl fp) takes0) (folded_of q4 q5 X.env)
    rw [q2] at hl
    exact psI hl fun Dn σV H h => comp_sem q7 σV H _ (set_sem Dn σV H h)
theorem s_set_ok {i : Nat} {y : Str} {p0 pos : Pos} {e : E} {x : Expr} (g : XS T S Γ N n sc X) (hn : stoB N sc sc i y = true) (q : isE S N none e sc x = true) (tk : Takes X W) : PS X (.Assign [.Name y p0] x pos) (tS T Γ (.set i e) W) := by
  cases hx : notLc x with
  | true => exact s_set g hn ((all_ok e).pe sc x X W q g.toXG tk) (sw_no q hx)
  | false =>
    cases x <;> try (cases hx; done)
    cases e <;> try (simp [isE] at q; done)
    exact s_setC g hn q tk
/-! ### several values that are one's own -/
/-- values at places that nothing else holds -/
inductive ROs (T : Tb) (w : Wd) (H₀ H : Hp) : List V → List O → Prop
  | nil : ROs T w H₀ H [] []
  | cons {v : V} {vs : List V} {o : O} {os : List O} : RO T w H v o → o.tag = none → Young H₀ v o → (∀ (j : Nat) (v' : V) (o' : O), vs[j]? = some v' → os[j]? = some o' → o.place = true → o'.place = true → v' ≠ v) → ROs T w H₀ H vs os → ROs T w H₀ H (v :: vs) (o :: os)
def tAo (T : Tb) (Γ : Cxt) (e : E) (W : WX) : TA := fun σV H Q => ∃ w σ κ, Wok T w H κ ∧ RS T w H σV σ ∧ Post T w H (exec.evos Γ e σ κ) (fun c d H' => W c d σV H') (fun r w' H' => ∀ vs, ROs T w' H H' vs r.1 → Q vs H')
theorem ROs.old {vs : List V} {os : List O} {H1 : Hp} (h : ROs T w H1 H vs os) (le : ∀ a, H1 a = none → H₀ a = none) : ROs T w H₀ H vs os := by
  induction h with
  | nil => exact .nil
  | cons r t y ap _ ih => exact .cons r t (fun pl a ea => le a (y pl a ea)) ap ih
theorem ROs.young {vs : List V} {os : List O} (h : ROs T w H₀ H vs os) {j : Nat} {v : V} {o : O} (e1 : vs[j]? = some v) (e2 : os[j]? = some o) : Young H₀ v o := by
  induction h generalizing j with
  | nil => simp at e1
  | cons r t y ap _ ih =>
    cases j with
    | zero => simp at e1 e2; subst e1 e2; exact y
    | succ j => exact ih (by simpa using e1) (by simpa using e2)
theorem pao_ok : ∀ (e : E) (sc : Scope) (xs : List Expr) (X : Cx) (W : WX), isEs S N none e sc xs = true → XG T S Γ N n sc X → Takes X W → PA X xs (tAo T Γ e W) := by
  intro e
  induction e with
  | nil =>
    intro sc xs X W q g tk
    cases xs with
    | cons _ _ => simp [isEs] at q
    | nil =>
      refine paI pa_nil fun σV H Q h => ?_
      obtain ⟨w, σ, κ, hw, hs, p⟩ := h
      exact (show Post T w H (.ok (([] : List O), κ)) _ _ from p).ok hw [] .nil
  | cons e es _ ih =>
    intro sc xs X W q g tk
    cases xs with
    | nil => simp [isEs] at q
    | cons x xs =>
      simp only [isEs, Bool.and_eq_true] at q
      refine paI (pa_cons ((all_ok e).pe sc x X W q.1 g tk) (ih sc xs X W q.2 g tk) (notStar q.1 X.env xs)) fun σV H Q h => ?_
      obtain ⟨w, σ, κ, hw, hs, p⟩ := h
      have p : Post T w H ((ev Γ e σ κ).bind fun x => match x.1 with
        | .fz _ | .ol none _ | .od none _ | .ot none _ => (exec.evos Γ es σ x.2).bind fun r => .ok (x.1 :: r.1, r.2)
        | _ => .bad) _ _ := p
      refine tE_bind hw hs p fun r w1 H1 v er e1 k hs1 hv hb hy p => ?_
      have key : r.1.tag = none ∧ Post T w H ((exec.evos Γ es σ r.2).bind fun z => .ok (r.1 :: z.1, z.2)) (fun c d H' => W c d σV H') (fun r w' H' => ∀ vs, ROs T w' H H' vs r.1 → Q vs H') := by
        obtain ⟨o, κ'⟩ := r
        cases o with
        | fz d => exact ⟨rfl, p⟩
        | ol b xs => cases b with | none => exact ⟨rfl, p⟩ | some i => exact p.elim
        | od b xs => cases b with | none => exact ⟨rfl, p⟩ | some i => exact p.elim
        | ot b xs => cases b with | none => exact ⟨rfl, p⟩ | some i => exact p.elim
      obtain ⟨ht, p⟩ := key
      refine ⟨w1, σ, r.2, k, hs1, (p.step e1).bind.imp fun r2 w2 H2 er2 e2 k2 p2 vs hvs => ?_⟩
      refine (show Post T w2 H2 (.ok (r.1 :: r2.1, r2.2)) _ _ from p2).ok k2 (v :: vs) (.cons (hv.ext e2) ht (hy ht) (fun j v' o' e3 e4 pl pl' z => ?_) (hvs.old fun a ha => e1.dom a ha))
      obtain ⟨a, u, ea, ha, _⟩ := hv.addr pl
      have := hvs.young e3 e4 pl' a (by rw [z, ea])
      rw [ha] at this; cases this
  | _ => intro sc xs X W q g tk; simp [isEs] at q
/-- the slots, set one after another -/
def setMany : L2.St → List Nat → List V → L2.St
  | σV, i :: is, v :: vs => setMany (σV.set i (some v)) is vs
  | σV, _, _ => σV
theorem assign_many : ∀ {is : List Nat} {vs : List V} {os : List O} {σV : L2.St} {σ σ' : Sl}, At T w₀ H₀ w σ κ σV H → ROs T w H₀ H vs os → (∀ (k j : Nat) (v : V) (o o' : O), vs[k]? = some v → os[k]? = some o → σ[j]? = some (some o') → σV[j]? = some (some v) → o.place = false ∨ o'.place = false) →
    exec.assignO is os σ = some σ' → At T w₀ H₀ w σ' κ (setMany σV is vs) H ∧ Lk σV σ (setMany σV is vs) σ' ∧ vs.length = is.length
  | [], _, [], σV, σ, σ', a, r, ap, e => by
    cases r
    simp only [exec.assignO, Option.some.injEq] at e
    subst e
    exact ⟨a, Lk.rfl', rfl⟩
  | [], _, _ :: _, _, _, _, _, _, _, e => by simp [exec.assignO] at e
  | _ :: _, _, [], _, _, _, _, _, _, e => by simp [exec.assignO] at e
  | i :: is, _, o :: os, σV, σ, σ', a, .cons (v := v) (vs := vs) ro ht hy ap0 rs, ap, e => by
    simp only [exec.assignO] at e
    cases e1 : setAt σ i (some o) with
    | none => rw [e1] at e; cases e
    | some σ1 =>
      rw [e1] at e
      obtain ⟨ul, rfl⟩ := setAt_ok e1
      have a1 := a.setO (i := i) ro ht hy fun j o' _ h1 h2 => ap 0 j v o o' rfl rfl h1 h2
      obtain ⟨a2, l2, hl⟩ := assign_many a1 rs (fun k j u p p' h1 h2 h3 h4 => by
        rcases get_set h3 with ⟨rfl, z, _⟩ | ⟨ne, h3⟩
        · cases z
          rcases get_set h4 with ⟨_, z, _⟩ | ⟨z, _⟩
          · cases z
            cases hp : p.place with
            | false => exact .inl rfl
            | true =>
              cases hp' : o.place with
              | false => exact .inr rfl
              | true => exact absurd rfl (ap0 k v p h1 h2 hp' hp)
          · exact absurd rfl z
        · rcases get_set h4 with ⟨z, _, _⟩ | ⟨_, h4⟩
          · exact absurd z ne
          · exact ap (k + 1) j u p p' h1 h2 h3 h4) e
      exact ⟨a2, (Lk.set ul).trans l2, by simp [hl]⟩
theorem par_sem {is : List Nat} {es : E} (Dn : Ends) (σV : L2.St) (H : Hp) (h : tS T Γ (.par is es) W Dn σV H) (P : List V → Hp → Prop) (hP : ∀ vs H1, vs.length = is.length → Dn.nx (setMany σV is vs) H1 → P vs H1) : tAo T Γ es W σV H P := by
  obtain ⟨w₀, H₀, w, σ, κ, a, p⟩ := h
  refine ⟨w, σ, κ, a.wk, a.rs, SPost.exE a (show SPost T w₀ H₀ w σ σV (R.exE (exec.evos Γ es σ κ) σ fun r => R.exO (exec.assignO is r.1 σ) fun σ => .nx σ r.2) W Dn from p) fun r w1 H1 er e k p vs hvs => ?_⟩
  obtain ⟨σ', eσ, p⟩ := p.exO
  have a1 := a.ev e k
  obtain ⟨a2, l2, hl⟩ := assign_many a1 (hvs.old (H₀ := H₀) fun b hb => a.ext.dom b hb) (fun k j v o o' h1 h2 h3 h4 => fresh_slots a.rs (hvs.young h1 h2) j o' h3 h4) eσ
  exact hP vs H1 hl (p w1 _ H1 a2 (Le.rfl' w1) l2)
theorem len2 {α : Type} {l : List α} (h : l.length = 2) : ∃ a b, l = [a, b] := by
  match l, h with
  | [a, b], _ => exact ⟨a, b, rfl⟩
theorem len3 {α : Type} {l : List α} (h : l.length = 3) : ∃ a b c, l = [a, b, c] := by
  match l, h with
  | [a, b, c], _ => exact ⟨a, b, c, rfl⟩
theorem erase2 {x y : Str} (h : x ≠ y) : ([x, y].eraseDups).length = 2 := by
  have h1 : (y == x) = false := by simpa using fun z : y = x => h z.symm
  simp [List.eraseDups, List.eraseDupsBy, List.eraseDupsBy.loop, h1]
theorem erase3 {x y z : Str} (h : x ≠ y) (h2 : x ≠ z) (h3 : y ≠ z) : ([x, y, z].eraseDups).length = 3 := by
  have e1 : (y == x) = false := by simpa using fun k : y = x => h k.symm
  have e2 : (z == x) = false := by simpa using fun k : z = x => h2 k.symm
  have e3 : (z == y) = false := by simpa using fun k : z = y => h3 k.symm
  simp [List.eraseDups, List.eraseDupsBy, List.eraseDupsBy.loop, e1, e2, e3]
def notStarB : Expr → Bool
  | .Starred _ _ => false
  | _ => true
theorem any2 {α : Type} {a b : α} (f : α → Bool) (h1 : f a = false) (h2 : f b = false) : [a, b].any f = false := by simp [h1, h2]
theorem any3 {α : Type} {a b c : α} (f : α → Bool) (h1 : f a = false) (h2 : f b = false) (h3 : f c = false) : [a, b, c].any f = false := by simp [h1, h2, h3]
theorem fm2 {α β : Type} {a b : α} {x y : β} (f : α → Option β) (h1 : f a = some x) (h2 : f b = some y) : [a, b].filterMap f = [x, y] := by simp [h1, h2]
theorem fm3 {α β : Type} {a b c : α} {x y z : β} (f : α → Option β) (h1 : f a = some x) (h2 : f b = some y) (h3 : f c = some z) : [a, b, c].filterMap f = [x, y, z] := by simp [h1, h2, h3]
theorem no_of {b : Bool} (h : b = false) : ¬ b = true := by rw [h]; exact Bool.false_ne_true
theorem swap2 {x y : Str} {px py pt pt2 : Pos} {kt k2} {a b : Expr} (env : Env) (hk : env.blockKind = .function) (hx : env.kindOf x = some .local) (hy : env.kindOf y = some .local) (hl : (py.line == px.line) = true) (hne : x ≠ y) (ha : notStarB a = true) (hb : notStarB b = true)
    (h1 : ([a, b].all (foldedForSure 8)) = false) (h2 : ([a, b].all (constantsAlone 8)) = false) : swappedStores [.Tuple [.Name x px, .Name y py] kt pt] (.Tuple [a, b] k2 pt2) env = pure (some [x, y]) := by
  have e1 : (env.kindOf x == some NameKind.local && px.line == px.line) = true := by rw [hx]; simp
  have e2 : (env.kindOf y == some NameKind.local && py.line == px.line) = true := by rw [hy, hl]; rfl
  unfold swappedStores
  refine (if_neg (no_of (by rw [hk]; rfl))).trans ?_
  refine (if_neg (no_of (any2 _ (by cases a <;> first | rfl | cases ha) (by cases b <;> first | rfl | cases hb)))).trans ?_
  dsimp only
  rw [fm2 (x := x) (y := y)]
  · refine (if_neg (no_of (by rw [erase2 hne]; rfl))).trans ?_
    refine (if_neg (no_of h1)).trans ?_
    rw [h2]
    rfl
  · exact if_pos e1
  · exact if_pos e2
theorem swap3 {x y z : Str} {px py pz pt pt2 : Pos} {kt k2} {a b c : Expr} (env : Env) (hk : env.blockKind = .function) (hx : env.kindOf x = some .local) (hy : env.kindOf y = some .local) (hz : env.kindOf z = some .local) (hl : (py.line == px.line) = true) (hl2 : (pz.line == px.line) = true) (hne : x ≠ y) (hne2 : x ≠ z) (hne3 : y ≠ z)
    (ha : notStarB a = true) (hb : notStarB b = true) (hc : notStarB c = true) (h1 : ([a, b, c].all (foldedForSure 8)) = false) (h2 : ([a, b, c].all (constantsAlone 8)) = false) : swappedStores [.Tuple [.Name x px, .Name y py, .Name z pz] kt pt] (.Tuple [a, b, c] k2 pt2) env = pure (some [x, y, z]) := by
  have e1 : (env.kindOf x == some NameKind.local && px.line == px.line) = true := by rw [hx]; simp
  have e2 : (env.kindOf y == some NameKind.local && py.line == px.line) = true := by rw [hy, hl]; rfl
  have e3 : (env.kindOf z == some NameKind.local && pz.line == px.line) = true := by rw [hz, hl2]; rfl
  unfold swappedStores
  refine (if_neg (no_of (by rw [hk]; rfl))).trans ?_
  refine (if_neg (no_of (any3 _ (by cases a <;> first | rfl | cases ha) (by cases b <;> first | rfl | cases hb) (by cases c <;> first | rfl | cases hc)))).trans ?_
  dsimp only
  rw [fm3 (x := x) (y := y) (z := z)]
  · refine (if_neg (no_of (by rw [erase3 hne hne2 hne3]; rfl))).trans ?_
    refine (if_neg (no_of h1)).trans ?_
    rw [h2]
    rfl
  · exact if_pos e1
  · exact if_pos e2
  · exact if_pos e3
/-- several names at once: what must be seen of the text -/
def parB (N : List Str) (sc : Scope) : List Nat → List Expr → List Expr → Bool
  | [i, j], [.Name x px, .Name y py], [a, b] => decide (N[i]? = some x) && decide (N[j]? = some y) && locB sc x && locB sc y && (py.line == px.line) && decide (x ≠ y) && decide (i ≠ j) && notStarB a && notStarB b && !([a, b].all (foldedForSure 8)) && !([a, b].all (constantsAlone 8))
  | [i, j, l], [.Name x px, .Name y py, .Name z pz], [a, b, c] => decide (N[i]? = some x) && decide (N[j]? = some y) && decide (N[l]? = some z) && locB sc x && locB sc y && locB sc z && (py.line == px.line) && (pz.line == px.line) && decide (x ≠ y) && decide (x ≠ z) && decide (y ≠ z) && decide (i ≠ j) && decide (i ≠ l) && decide (j ≠ l) &&
      notStarB a && notStarB b && notStarB c && !([a, b, c].all (foldedForSure 8)) && !([a, b, c].all (constantsAlone 8))
  | _, _, _ => false
where
  locB (sc : Scope) (x : Str) : Bool := match sc.names.lookup x with
    | some .local => true
    | _ => false
theorem locB_of {x : Str} (h : parB.locB sc x = true) : sc.names.lookup x = some .local := by
  unfold parB.locB at h
  cases e : sc.names.lookup x with
  | none => (rw [e] at h; cases h)
  | some k => rw [e] at h; cases k <;> first | rfl | cases h
theorem block_fn {env : Env} (h : env.scope.kind = .function) : env.blockKind = .function := by unfold Env.blockKind; rw [h]; rfl
theorem s_par_ok {is : List Nat} {es : E} {ts vs : List Expr} {kt k2} {pt pt2 pos : Pos} (g : XS T S Γ N n sc X) (h : parB N sc is ts vs = true) (q : isEs S N none es sc vs = true) (tk : Takes X W) : PS X (.Assign [.Tuple ts kt pt] (.Tuple vs k2 pt2) pos) (tS T Γ (.par is es) W) := by
  unfold parB at h
  split at h
  · rename_i i j x px y py a b
    simp only [Bool.and_eq_true, decide_eq_true_eq, Bool.not_eq_true'] at h
    obtain ⟨⟨⟨⟨⟨⟨⟨⟨⟨⟨h1, h2⟩, h3⟩, h4⟩, h5⟩, h6⟩, h7⟩, h8⟩, h9⟩, h10⟩, h11⟩ := h
    have l3 := locB_of h3
    have l4 := locB_of h4
    rw [← g.hsc] at l3 l4
    have hN : X.N = N := g.hN
    exact psI (ps_par g.calm (by rw [hN]; exact g.nd) (by rw [hN]; exact h1) (by rw [hN]; exact h2) h7 l3 l4 (pao_ok es sc [a, b] X W q g.toXG tk) (swap2 X.env (block_fn g.kind) l3 l4 h5 h6 h8 h9 h10 h11)) fun Dn σV H hh => par_sem Dn σV H hh _ fun vs H1 hl z => by
      obtain ⟨v, u, rfl⟩ := len2 hl
      exact ⟨v, u, rfl, z⟩
  · rename_i i j l x px y py z pz a b c
    simp only [Bool.and_eq_true, decide_eq_true_eq, Bool.not_eq_true'] at h
    obtain ⟨⟨⟨⟨⟨⟨⟨⟨⟨⟨⟨⟨⟨⟨⟨⟨⟨⟨h1, h2⟩, h3⟩, h4⟩, h5⟩, h6⟩, h7⟩, h8⟩, h9⟩, h10⟩, h11⟩, h12⟩, h13⟩, h14⟩, h15⟩, h16⟩, h17⟩, h18⟩, h19⟩ := h
    have l4 := locB_of h4
    have l5 := locB_of h5
    have l6 := locB_of h6
    rw [← g.hsc] at l4 l5 l6
    have hN : X.N = N := g.hN
    exact psI (ps_par3 g.calm (by rw [hN]; exact g.nd) (by rw [hN]; exact h1) (by rw [hN]; exact h2) (by rw [hN]; exact h3) h12 h13 h14 l4 l5 l6 (pao_ok es sc [a, b, c] X W q g.toXG tk) (swap3 X.env (block_fn g.kind) l4 l5 l6 h7 h8 h9 h10 h11 h15 h16 h17 h18 h19)) fun Dn σV H hh => par_sem Dn σV H hh _ fun vs H1 hl zz => by
      obtain ⟨v, u, t, rfl⟩ := len3 hl
      exact ⟨v, u, t, rfl, zz⟩
  · cases h
end
end R

/-! R23: changes of what is one's own; cells. -/
namespace R
open L2 PyProof.Rows PySem.Spec PySem
section
variable {T : Tb} {Γ : Cxt} {w₀ w w' : Wd} {H₀ H H' : Hp} {σ σ' : Sl} {κ κ' : Cells} {σV σV' : L2.St} {W : WX} {Dn : Ends}
variable {S : Sg} {N : List Str} {n : Nat} {sc : Scope} {X : Cx}
/-- name += int -/
theorem aug_sem {i : Nat} {op : Bop} {e : E} {ti : TIp} (hop : (op = .add ∧ ti = ipI fun i j => i + j) ∨ (op = .sub ∧ ti = ipI fun i j => i - j)) : ∀ Dn σV H, tS T Γ (.aug i op e) W Dn σV H → tAug i (tE T Γ e W) ti Dn σV H := fun Dn σV H h => by
  obtain ⟨w₀, H₀, w, σ, κ, a, p⟩ := h
  unfold exec at p
  split at p
  · rename_i x eo
    obtain ⟨v, ev', hv⟩ := a.rs.at_ i _ eo
    cases (show RV T w v (.int x) from hv)
    refine ⟨.int x, ev', w, σ, κ, a.wk, a.rs, SPost.exE a p fun r w1 H1 er e1 k p u hu hb hy => ?_⟩
    have a1 := a.ev e1 k
    have fin : ∀ z : Int, SPost T w₀ H₀ w1 σ σV (R.exO (setAt σ i (some (.fz (.int z)))) fun σ => .nx σ r.2) W Dn → Dn.nx (σV.set i (some (.int z))) H1 := fun z p => by
      obtain ⟨σ', eσ, p⟩ := p.exO
      obtain ⟨ul, rfl⟩ := setAt_ok eσ
      exact p w1 _ H1 (a1.setFz (.int z)) (Le.rfl' w1) (Lk.set ul)
    generalize ed : r.1.d = dx at p
    rcases hop with ⟨rfl, rfl⟩ | ⟨rfl, rfl⟩
    · cases dx with
      | int b => cases rd_int hu ed; exact ⟨x, b, rfl, rfl, fin _ p⟩
      | _ => exact p.elim
    · cases dx with
      | int b => cases rd_int hu ed; exact ⟨x, b, rfl, rfl, fin _ p⟩
      | _ => exact p.elim
  · exact p.elim
theorem s_aug_ok {i : Nat} {y : Str} {op : Bop} {e : E} {x : Expr} {p0 pos : Pos} (g : XS T S Γ N n sc X) (ho : op = .add ∨ op = .sub) (hn : stoB N sc sc i y = true) (q : isE S N none e sc x = true) (tk : Takes X W) : PS X (.AugAssign (.Name y p0) op.op x pos) (tS T Γ (.aug i op e) W) := by
  obtain ⟨h1, h2, h3⟩ := sto_of hn g.sto
  rcases ho with rfl | rfl
  · exact psI (ps_aug (by rw [g.hN]; exact g.nd) h1 h2 ((all_ok e).pe sc x X W q g.toXG tk) ip_add h3) (aug_sem (.inl ⟨rfl, rfl⟩))
  · exact psI (ps_aug (by rw [g.hN]; exact g.nd) h1 h2 ((all_ok e).pe sc x X W q g.toXG tk) ip_sub h3) (aug_sem (.inr ⟨rfl, rfl⟩))
/-- what stands at a slot's place is written -/
theorem At.write {i : Nat} {o o2 : O} {p : Addr} {u : HO} (a : At T w₀ H₀ w σ κ σV H) (e : σ[i]? = some (some o)) (hp : o.place = true) (ht : o2.tag = none) (ev' : σV[i]? = some (some (.ref p))) (hr : RO T w (upd H p u) (.ref p) o2) : At T w₀ H₀ w (σ.set i (some o2)) κ σV (upd H p u) := by
  obtain ⟨v, e2, r⟩ := a.rs.at_ i o e
  rw [ev'] at e2; cases e2
  obtain ⟨q, x, eq, hq, nθ, nF⟩ := r.addr hp
  cases eq
  have y : H₀ p = none := a.yg i o _ e ev' hp p rfl
  have hl : i < σ.length := (List.getElem?_eq_some_iff.mp e).1
  refine ⟨a.wk.poke u nθ nF, ⟨by rw [a.rs.len]; simp, fun j o' h => ?_, fun j k o1 o3 v ne h1 h2 h3 h4 => ?_, fun j k o' h t => ?_⟩, a.ext.poke u y, fun j o' v h h2 pl => ?_⟩
  · rcases get_set h with ⟨rfl, z, _⟩ | ⟨ne, h⟩
    · cases z; exact ⟨_, ev', hr⟩
    · obtain ⟨v, e3, r3⟩ := a.rs.at_ j o' h
      refine ⟨v, e3, r3.move (Le.rfl' w) fun b x' eb pl hb => ?_⟩
      have nb : b ≠ p := fun z => by
        subst z; subst eb
        rcases a.rs.apart j i o' o _ ne h e e3 ev' with z | z
        · rw [pl] at z; cases z
        · rw [hp] at z; cases z
      obtain ⟨b', _, eb', _, n1, n2⟩ := r3.addr pl
      rw [eb] at eb'; cases eb'
      exact ⟨by rw [upd_ne nb]; exact hb, n1, n2⟩
  · rcases get_set h1 with ⟨rfl, z, _⟩ | ⟨n1, h1⟩
    · cases z
      rcases get_set h2 with ⟨rfl, _, _⟩ | ⟨n2, h2⟩
      · exact absurd rfl ne
      · rcases a.rs.apart j k o o3 v ne e h2 h3 h4 with z | z
        · rw [hp] at z; cases z
        · exact .inr z
    · rcases get_set h2 with ⟨e5, z, _⟩ | ⟨n2, h2⟩
      · cases z
        rw [e5] at h4 ne
        rcases a.rs.apart j i o1 o v ne h1 e h3 h4 with z | z
        · exact .inl z
        · rw [hp] at z; cases z
      · exact a.rs.apart j k o1 o3 v ne h1 h2 h3 h4
  · rcases get_set h with ⟨rfl, z, _⟩ | ⟨ne, h⟩
    · cases z; rw [ht] at t; cases t
    · exact a.rs.tag j k o' h t
  · rcases get_set h with ⟨rfl, z, _⟩ | ⟨ne, h⟩
    · rw [ev'] at h2; cases h2
      exact fun b eb => by cases eb; exact y
    · exact a.yg j o' v h h2 pl
theorem Lk.own {i : Nat} {o o2 : O} (e : σ[i]? = some (some o)) (ht : o.tag = none) : Lk σV σ σV (σ.set i (some o2)) := fun j u k e1 t => by
  have ne : i ≠ j := fun z => by subst z; rw [e] at e1; cases e1; rw [ht] at t; cases t
  exact ⟨by rw [List.getElem?_set_ne ne]; exact e1, rfl⟩
/-- name.append(e) -/
theorem app_sem {i : Nat} {e : E} (hK : X.K = T.K) : ∀ Dn σV H, tS T Γ (.app i e) W Dn σV H → tDrop (tBM X.K "list" rAppend (fun σ H Q => ∃ v, σ[i]? = some (some v) ∧ Q v H) (tCons (tE T Γ e W) tNil)) Dn σV H := fun Dn σV H h => by
  obtain ⟨w₀, H₀, w, σ, κ, a, p⟩ := h
  unfold exec at p
  split at p
  · rename_i xs eo
    obtain ⟨v, ev', hv⟩ := a.rs.at_ i _ eo
    obtain ⟨q, vs, rfl, hq, rvs, nθ, nF⟩ := id hv
    refine ⟨.ref q, ev', .inl ⟨rfl, vs, SqL.of hq⟩, w, σ, κ, a.wk, a.rs, SPost.exE a p fun r w1 H1 er e1 k p u hu hb hy => ?_⟩
    obtain ⟨d, ed, p⟩ := p.exO
    have hz : xs.length < sizeLine ∧ SPost T w₀ H₀ w1 σ σV (.nx (σ.set i (some (.ol none (xs ++ [d])))) r.2) W Dn := by
      by_cases z : xs.length < sizeLine
      · rw [if_pos z] at p; exact ⟨z, p⟩
      · rw [if_neg z] at p; exact p.elim
    obtain ⟨hz, p⟩ := hz
    obtain ⟨w2, k2, e2, l2, rv⟩ := hu.give k ed e1 (hy (frz_tag ed))
    have hq2 : H1 q = some (.lst vs) := e2.keep q _ hq nθ
    have a2 := a.ev e2 k2
    refine ⟨q, vs, u, rfl, rfl, hq2, by rw [rvs.length]; exact hz, ?_⟩
    have a3 := a2.write (o2 := .ol none (xs ++ [d])) (u := .lst (vs ++ [u])) eo rfl rfl ev' ⟨q, _, rfl, upd_same, (rvs.mono e2.le).append (.one rv), e2.offθ hq nθ, e2.offF hq nF⟩
    exact p w2 σV _ a3 l2 (Lk.own eo rfl)
  · exact p.elim
/-- d[k] = v, xs[i] = v -/
def rPut : TSet := fun o i v H Q => rSetL o i v H Q ∨ ∃ a H', o = .ref a ∧ DPut H a i v H' ∧ Q H'
theorem set_put (hu : X.A.units + 1 < cLine) : PSet X rPut := by
  intro pins; intro s σ H o i v ov iv u Q I ro ri rv h
  rcases h with h | ⟨a, H', rfl, g, q⟩
  · exact set_list pins s σ H o i v ov iv u Q I ro ri rv h
  · cases (show ov = Value.ref a from ro)
    exact (d_setItem hu I g ri rv fun s' I' => ⟨H', I', q⟩)
theorem key_rv {v : V} {d : D} {k : Key} (h : keyOf d = some k) (r : RV T w v d) : v = kV k := by
  cases d <;> simp only [keyOf, Option.some.injEq, reduceCtorEq] at h
  · subst h; cases r; rfl
  · subst h; cases r; rfl
theorem key_ro {v : V} {o : O} {k : Key} (h : keyOf o.d = some k) (r : RO T w H v o) : v = kV k := by
  cases o with
  | fz d => exact key_rv h r
  | _ => simp [O.d, keyOf] at h
/-- a cell is written -/
theorem At.cell {m : Nat} {p : Addr} {vs : List (Key × V)} {ds : List (Key × D)} (a : At T w₀ H₀ w σ κ σV H) (e : w.θ[m]? = some p) (pr : PR T w vs ds) : At T w₀ H₀ w σ (κ.set m ds) σV (upd H p (.dK vs)) := by
  have hp : p ∈ w.θ := List.mem_of_getElem? e
  have hF : w.F p = none := a.wk.off p hp
  have ne : ∀ {b : Addr}, b ∉ w.θ → b ≠ p := fun hb z => hb (by rw [z]; exact hp)
  have hm : m < κ.length := by rw [← a.wk.len]; exact (List.getElem?_eq_some_iff.mp e).1
  refine ⟨⟨fun b u h => ?_, a.wk.nd, a.wk.off, by simp [a.wk.len], fun j b h => ?_⟩, ⟨a.rs.len, fun i o h => ?_, a.rs.apart, a.rs.tag⟩, ⟨fun b u h nb => ?_, fun b h => ?_, a.ext.F, a.ext.new, a.ext.θ⟩, a.yg⟩
  · rw [upd_ne (fun z => by rw [z, hF] at h; cases h)]; exact a.wk.le b u h
  · by_cases hj : m = j
    · subst hj
      rw [e] at h; cases h
      exact ⟨vs, ds, by rw [List.getElem?_set_self hm], upd_same, pr⟩
    · obtain ⟨us, es, h1, h2, h3⟩ := a.wk.cell j b h
      have nb : b ≠ p := fun z => by
        subst z
        exact hj ((List.getElem?_inj (List.getElem?_eq_some_iff.mp e).1 a.wk.nd).mp (e.trans h.symm))
      exact ⟨us, es, by rw [List.getElem?_set_ne hj]; exact h1, by rw [upd_ne nb]; exact h2, h3⟩
  · obtain ⟨v, h1, r⟩ := a.rs.at_ i o h
    refine ⟨v, h1, r.move (Le.rfl' w) fun b u eb pl hb => ?_⟩
    obtain ⟨b', _, eb', _, n1, n2⟩ := r.addr pl
    rw [eb] at eb'; cases eb'
    exact ⟨by rw [upd_ne (ne n1)]; exact hb, n1, n2⟩
  · have nb2 : b ≠ p := fun z => by
      subst z
      obtain ⟨l, el, hl⟩ := a.ext.θ
      rw [el] at hp
      rcases (List.mem_append.mp hp) with z | z
      · exact nb z
      · rw [hl b z] at h; cases h
    rw [upd_ne nb2]
    exact a.ext.keep b u h nb
  · have nb : b ≠ p := fun z => by rw [z, upd_same] at h; cases h
    rw [upd_ne nb] at h
    exact a.ext.dom b h
theorem put_sem {i : Nat} {k e : E} : ∀ Dn σV H, tS T Γ (.put i k e) W Dn σV H → tAsg (tE T Γ e W) (gSub (fun σ H Q => ∃ v, σ[i]? = some (some v) ∧ Q v H) (tE T Γ k W) rPut) Dn σV H := fun Dn σV H h => by
  obtain ⟨w₀, H₀, w, σ, κ, a, p⟩ := h
  unfold exec at p
  refine ⟨w, σ, κ, a.wk, a.rs, SPost.exE a p fun r w1 H1 er e1 k1 p u hu hb hy => ?_⟩
  obtain ⟨d, ed, p⟩ := p.exO
  obtain ⟨w2, k2, e2, l2, rv⟩ := hu.give k1 ed e1 (hy (frz_tag ed))
  have a2 := a.ev e2 k2
  split at p
  · rename_i o eo
    obtain ⟨v, ev', hv⟩ := a2.rs.at_ i o eo
    refine ⟨v, ev', w2, σ, r.2, k2, a2.rs, SPost.exE a2 (p.step l2 Lk.rfl') fun r3 w3 H3 er3 e3 k3 p3 x hx hb3 hy3 => ?_⟩
    have a3 := a2.ev e3 k3
    have rv3 := rv.mono e3.le
    cases o with
    | fz dd =>
      cases dd with
      | obj m =>
        obtain ⟨kk, ek, p3⟩ := (show SPost T w₀ H₀ w3 σ σV (R.exO (keyOf r3.1.d) _) W Dn from p3).exO
        obtain ⟨kvs, ekv, p3⟩ := p3.exO
        have hz : kvs.length < sizeLine ∧ SPost T w₀ H₀ w3 σ σV (.nx σ (r3.2.set m (putP kvs kk d))) W Dn := by
          by_cases z : kvs.length < sizeLine
          · rw [if_pos z] at p3; exact ⟨z, p3⟩
          · rw [if_neg z] at p3; exact p3.elim
        obtain ⟨hz, p3⟩ := hz
        obtain ⟨v', ev'', hv3⟩ := a3.rs.at_ i _ eo
        rw [ev'] at ev''; cases ev''
        cases (show RV T w3 v (.obj m) from hv3) with
        | obj et =>
          rename_i q
          obtain ⟨us, ds, h1, h2, pr⟩ := a3.wk.cell m q et
          rw [ekv] at h1; cases h1
          have ex := key_ro ek hx
          subst ex
          refine .inr ⟨q, _, rfl, DPut.k h2 (by rw [pr.length]; exact hz), ?_⟩
          exact p3 w3 σV _ (a3.cell et (pr.put rv3 kk)) (Le.rfl' w3) Lk.rfl'
      | _ => obtain ⟨o2, eo2, _⟩ := (show SPost T w₀ H₀ w3 σ σV (R.exO (putO _ r3.1.d d) fun o => .nx (σ.set i (some o)) r3.2) W Dn from p3).exO; simp [putO] at eo2
    | ol b xs =>
      obtain ⟨o2, eo2, p3⟩ := (show SPost T w₀ H₀ w3 σ σV (R.exO (putO (.ol b xs) r3.1.d d) fun o => .nx (σ.set i (some o)) r3.2) W Dn from p3).exO
      obtain ⟨v', ev'', hv3⟩ := a3.rs.at_ i _ eo
      rw [ev'] at ev''; cases ev''
      obtain ⟨q, vs, rfl, hq, rvs, nθ, nF⟩ := id hv3
      cases b with
      | some _ => simp [putO] at eo2
      | none =>
        generalize eq2 : r3.1.d = dx at eo2
        cases dx with
        | int ix =>
          simp only [putO] at eo2
          split at eo2
          · simp only [Option.map_eq_some_iff] at eo2
            obtain ⟨j, hj, rfl⟩ := eo2
            cases rd_int hx eq2
            refine .inl ⟨q, vs, ix, j, rfl, rfl, hq, by rw [rvs.length]; exact hj, ?_⟩
            exact p3 w3 σV _ (a3.write (o2 := .ol none (xs.set j d)) eo rfl rfl ev' ⟨q, _, rfl, upd_same, rvs.set rv3 j, nθ, nF⟩) (Le.rfl' w3) (Lk.own eo rfl)
          · cases eo2
        | _ => simp [putO] at eo2
    | od b kvs =>
      obtain ⟨o2, eo2, p3⟩ := (show SPost T w₀ H₀ w3 σ σV (R.exO (putO (.od b kvs) r3.1.d d) fun o => .nx (σ.set i (some o)) r3.2) W Dn from p3).exO
      obtain ⟨v', ev'', hv3⟩ := a3.rs.at_ i _ eo
      rw [ev'] at ev''; cases ev''
      obtain ⟨q, vs, rfl, hq, rvs, nθ, nF⟩ := id hv3
      cases b with
      | some _ => simp [putO] at eo2
      | none =>
        simp only [putO, Option.bind_eq_some_iff] at eo2
        obtain ⟨kk, ek, eo2⟩ := eo2
        split at eo2
        · rename_i hz
          cases eo2
          have ex := key_ro ek hx
          subst ex
          refine .inr ⟨q, _, rfl, DPut.k hq (by rw [rvs.length]; exact hz), ?_⟩
          exact p3 w3 σV _ (a3.write (o2 := .od none (putP kvs kk d)) eo rfl rfl ev' ⟨q, _, rfl, upd_same, rvs.put rv3 kk, nθ, nF⟩) (Le.rfl' w3) (Lk.own eo rfl)
        · cases eo2
    | ot b kvs => obtain ⟨o2, eo2, _⟩ := (show SPost T w₀ H₀ w3 σ σV (R.exO (putO (.ot b kvs) r3.1.d d) fun o => .nx (σ.set i (some o)) r3.2) W Dn from p3).exO; simp [putO] at eo2
  · exact p.elim
/-- a slot is given away -/
theorem frz_sem {i : Nat} {t : R.S} : ∀ Dn σV H, tS T Γ (.cons (.frz i) t) W Dn σV H → tS T Γ t W Dn σV H := fun Dn σV H h => by
  obtain ⟨w₀, H₀, w, σ, κ, a, p⟩ := h
  unfold exec at p
  cases ef : exec Γ (.frz i) σ κ with
  | nx σ' κ' =>
    rw [ef] at p
    have p : SPost T w₀ H₀ w σ σV (exec Γ t σ' κ') W Dn := p
    unfold exec at ef
    split at ef
    · cases ef; exact ⟨w₀, H₀, w, σ, κ, a, p⟩
    · rename_i o nf eo
      cases efz : o.frz with
      | none => simp [R.exO, efz] at ef
      | some d =>
        simp only [R.exO, efz, Res.nx.injEq] at ef
        obtain ⟨rfl, rfl⟩ := ef
        obtain ⟨v, ev', hv⟩ := a.rs.at_ i o eo
        obtain ⟨w2, k2, e2, ⟨l2, eθ⟩, rv, oth⟩ := hv.give2 a.wk efz a.ext (a.yg i o v eo ev')
        refine ⟨w₀, H₀, w2, σ.set i (some (.fz d)), κ, ⟨k2, ?_, e2, fun j u x e1 e3 pl => ?_⟩, p.step l2 fun j u k e1 t => ?_⟩
        · have rs2 : RS T w2 H σV (σ.set i (some (.fz d))) := by
            refine ⟨by simp [a.rs.len], fun j u h => ?_, fun j k u u' x ne h1 h2 h3 h4 => ?_, fun j k u h t => ?_⟩
            · rcases get_set h with ⟨rfl, z, _⟩ | ⟨ne, h⟩
              · cases z; exact ⟨v, ev', rv⟩
              · obtain ⟨x, e3, r3⟩ := a.rs.at_ j u h
                refine ⟨x, e3, oth x u r3 fun pl pl' z => ?_⟩
                subst z
                rcases a.rs.apart j i u o _ ne h eo e3 ev' with z | z
                · rw [pl'] at z; cases z
                · rw [pl] at z; cases z
            · rcases get_set h1 with ⟨rfl, z, _⟩ | ⟨n1, h1⟩
              · cases z; exact .inl rfl
              · rcases get_set h2 with ⟨rfl, z, _⟩ | ⟨n2, h2⟩
                · cases z; exact .inr rfl
                · exact a.rs.apart j k u u' x ne h1 h2 h3 h4
            · rcases get_set h with ⟨rfl, z, _⟩ | ⟨ne, h⟩
              · cases z; cases t
              · exact a.rs.tag j k u h t
          exact rs2
        · rcases get_set e1 with ⟨rfl, z, _⟩ | ⟨ne, e1⟩
          · cases z; cases pl
          · exact a.yg j u x e1 e3 pl
        · have ne : i ≠ j := fun z => by subst z; rw [eo] at e1; cases e1; rw [frz_tag efz] at t; cases t
          exact ⟨by rw [List.getElem?_set_ne ne]; exact e1, rfl⟩
    · cases ef; exact ⟨w₀, H₀, w, σ, κ, a, p⟩
  | rt _ _ => unfold exec at ef; split at ef <;> first | (cases ef; done) | (rename_i o _ _; cases efz : o.frz <;> simp [R.exO, efz] at ef)
  | bk _ _ => unfold exec at ef; split at ef <;> first | (cases ef; done) | (rename_i o _ _; cases efz : o.frz <;> simp [R.exO, efz] at ef)
  | ct _ _ => unfold exec at ef; split at ef <;> first | (cases ef; done) | (rename_i o _ _; cases efz : o.frz <;> simp [R.exO, efz] at ef)
  | xc _ _ _ _ => unfold exec at ef; split at ef <;> first | (cases ef; done) | (rename_i o _ _; cases efz : o.frz <;> simp [R.exO, efz] at ef)
  | bad => rw [ef] at p; exact p.elim
end
end R

/-! R24: exceptions. -/
namespace R
open L2 PyProof.Rows PySem.Spec PySem
/-- a clause: the class it takes, the slot of its name, what its suite does -/
abbrev Cl := Value × Option Nat × (Addr → Value → Option Addr → TS)
def endsAs (o : Option Nat) (D : Ends) : Ends := match o with
  | none => D
  | some i => { nx := fun σ H => D.nx (σ.set i none) H, rt := D.rt, bk := fun σ H => D.bk (σ.set i none) H, ct := fun σ H => D.ct (σ.set i none) H }
def slotAs (o : Option Nat) (a : Addr) (σ : L2.St) : L2.St := match o with
  | none => σ
  | some i => σ.set i (some (.ref a))
def wMix (K : PySem.W.Frag) (Wo : WX) (D : Ends) : List Cl → WX
  | [] => Wo
  | (c, o, ts) :: r => fun cls d σ H => ∃ b, PySem.W.exmOne K cls c = some b ∧ (b = true → ∀ a, H a = none → ts a cls d (endsAs o D) (slotAs o a σ) H) ∧ (b = false → wMix K Wo D r cls d σ H)
def AsOk (X : Cx) : Option Nat → Option Str → Prop
  | none, none => True
  | some i, some n => X.N[i]? = some n ∧ X.env.kindOf n = some .local
  | _, _ => False
inductive HdM (X : Cx) : List ExceptHandler → List Cl → Prop
  | nil : HdM X [] []
  | cons {x : Str} {c : Value} {o : Option Nat} {n : Option Str} {ts : Addr → Value → Option Addr → TS} {b0 : Stmt} {sts : List Stmt} {p p' : Pos} {hds : List ExceptHandler} {l : List Cl} (hc : Names X x c) (ha : AsOk X o n)
      (hsu : ∀ (a : Addr) (oe : Obj) (cls : Value) (d : Option Addr) (pn : List (Addr × Obj)), Zc cls d oe → (∃ vs, oe.data = .fields vs) → PSs (X.suite a ((a, oe) :: pn)) (b0 :: sts) (ts a cls d)) (r : HdM X hds l) :
      HdM X (.ExceptHandler (some (.Name x p)) n (b0 :: sts) p' :: hds) ((c, o, ts) :: l)
section
variable {X : Cx} {body : List Stmt} {hd0 : ExceptHandler} {hds : List ExceptHandler} {l : List Cl} {pos : Pos} {tb : WX → TS} {Wo : WX}
theorem ps_try_mix (hN : X.N.Nodup) (hst : X.stack = X.env :: X.outer) (hf : X.env.frame = some X.env.locals) (tk : Takes X Wo)
    (hb : ∀ (W : WX) (pn : List (Addr × Obj)) (xe : Value → Shared → Prop), Takes (X.tr pn xe) W → PassesOwn (model X.prog X.w) X.A X.env xe → PSs (X.tr pn xe) body (tb W)) (hh : HdM X (hd0 :: hds) l) :
    PS X (.Try body (hd0 :: hds) [] [] pos) (fun D σ H => tb (wMix X.K Wo D l) D σ H) := by
  refine (⟨fun pins s σ H D I h => ?_⟩)
  have xok := I.ok
  have frames : X.A.frames = some (X.env :: X.outer) := by rw [xok.frames, hst]
  refine wpAny_Try_except (wpAny_mono ((hb (wMix X.K Wo D l) (X.pn ++ pins) (fun e t1 => wpAny (model X.prog X.w) X.A (noteFrame e X.env) (fun _ t2 => wpAny (model X.prog X.w) X.A (setFlight e none) (fun _ t3 =>
    wpAny (model X.prog X.w) X.A (handleBy e X.env (hd0 :: hds)) (SP X pins D) X.xe t3) X.xe t2) X.xe t1) (fun u s' xx => ?_) PassesOwn.looking).run [] s σ H D (I.toTry _) h) (fun f s1 hsp => ?_) (fun e s1 he => he))
  · obtain ⟨a, B, sI, pins', σ', H', cls, d, rfl, JT, nb, up, sky, na, os, ag, w⟩ := xx
    have J : Inv X pins σ' H' sI := JT.ofTry xok
    have sky2 : Sky B (X.env :: X.outer) a (Zc cls d) X.env.locals s'.heap := by rw [← hst]; exact sky
    show (wpAny (model X.prog X.w) X.A (noteFrame (.ref a) X.env) _ _ _)
    refine Sky.land Zc.steady frames hf sky2 fun g fl upg => ?_
    have Jg : Inv X pins σ' H' { s' with heap := g } := J.landed nb fl.1 (up.trans upg) os ag
    obtain ⟨oe, vs, heo, hz, hda⟩ := fl.there
    have nfr : a ∉ frs (X.env :: X.outer) := fun hm => by
      obtain ⟨_, o', e', nf⟩ := fl.2.2.1.mem hm
      rw [heo] at e'
      cases e'
      exact nf _ hda
    have nL : a ≠ X.env.locals := (fun z => nfr (List.mem_filterMap.mpr ⟨X.env, List.mem_cons_self, by rw [hf, z]⟩))
    have nF : (a ∉ X.fs) := fun hm => by
      obtain ⟨e, he, q⟩ := (List.mem_filterMap.mp hm)
      exact nfr (List.mem_filterMap.mpr ⟨e, List.mem_cons_of_mem X.env he, q⟩)
    have Sg := Jg.suite heo hda na nL nF
    have go : ∀ {hs' : List ExceptHandler} {l' : List Cl}, HdM X hs' l' → wMix X.K Wo D l' cls d σ' H' → wpAny (model X.prog X.w) X.A (handleBy (.ref a) X.env hs') (SP X pins D) X.xe { s' with heap := g } := by
      intro hs' l' hk
      induction hk with
      | nil =>
        intro w
        refine wpAny_handleBy_nil ?_
        obtain ⟨k1, k2, k3, oe2, vs2, T2, oT, ts2, he2, hz2, hd2, h12, hr2⟩ := id fl
        unfold PySem.passOn
        refine wpAny_bind (wpAny_field he2 hd2 h12 ?_)
        rw [if_neg (show ¬ ((Value.ref T2 == Value.none) = true) from by simp)]
        have out : wpAny (model X.prog X.w) X.A (setFlight (.ref a) X.env.frame) (fun _ t4 => wpAny (model X.prog X.w) X.A (throw (.ref a) : Sem Flow) (SP X pins D) X.xe t4) X.xe { s' with heap := g } := by
          rw [hf]
          exact HandSPX.setFlight_upZ fl fun h4 hh4 up4 => wpAny_throw (tk _ _ ⟨a, B, sI, pins, σ', H', cls, d, rfl, J, nb, (up.trans upg).trans up4, .inr (.inr (by rw [hst]; exact hh4)), na, os, ag, w⟩)
        first
          | exact wpAny_bind (wpAny_pure (wpAny_bind out))
          | exact wpAny_bind out
      | @cons x c o n ts b0 sts p p' hds2 l2 hc ha hsu r ih =>
        intro w
        obtain ⟨b, hb1, yes, no⟩ := w
        refine (wpAny_handleBy_cons (codeAny_handlers_test ?_) (by intro q; cases q))
        have LT : PySem.W.Looks (model X.prog X.w) g (typeOf (.ref a)) cls := fun A Q E t k q => wpAny_typeOf_ref (k _ _ heo) (by rw [hz.1]; exact q)
        have LM := PySem.W.exm_one (M := model X.prog X.w) Jg.kIn LT hb1
        have test : ∀ {Q : Value → Shared → Prop} {E : Value → Shared → Prop}, Q c { s' with heap := g } → wpAny (model X.prog X.w) (X.A.mark (some (.ref a))) (eval (.Name x p) X.env) Q E { s' with heap := g } := fun {Q E} q => by
          obtain ⟨hg, hdb, hm | ⟨hm, hv, hnn⟩⟩ := hc
          · exact ld_glob (X := X.suite a ((a, oe) :: (X.pn ++ pins))) Sg hg hm q hdb
          · exact ld_blt (X := X.suite a ((a, oe) :: (X.pn ++ pins))) Sg hg hm hv q hnn hdb
        refine test (LM.here ?_)
        cases b with
        | true =>
          cases o with
          | none =>
            cases n with
            | some _ => exact ha.elim
            | none =>
            refine codeAny_handlers_suite (HandSPX.lands_againZ fl fun h4 fl4 up4 => ?_)
            have J4 : Inv X pins σ' H' { s' with heap := h4 } := J.landed nb fl4.1 ((up.trans upg).trans up4) os ag
            obtain ⟨oe4, vs4, he4, hz4, hd4⟩ := (fl4.there)
            refine wpAny_mono ((hsu a oe4 cls d (X.pn ++ pins) hz4 ⟨_, hd4⟩).run [] _ _ H' _ (J4.suite he4 hd4 na nL nF) (yes rfl a na)) (fun f s6 hsp => ?_) (fun _ _ z => z.elim)
            cases f with
            | next => obtain ⟨σ6, H6, S6, q6⟩ := hsp; exact ⟨_, _, S6.unsuite xok, q6⟩
            | brk => obtain ⟨σ6, H6, S6, q6⟩ := hsp; exact ⟨_, _, S6.unsuite xok, q6⟩
            | cont => obtain ⟨σ6, H6, S6, q6⟩ := hsp; exact ⟨_, _, S6.unsuite xok, q6⟩
            | ret u => obtain ⟨v6, σ6, H6, S6, r6, q6⟩ := hsp; exact ⟨_, _, _, S6.unsuite xok, r6, q6⟩
          | some i =>
            cases n with
            | none => exact ha.elim
            | some n =>
            obtain ⟨hi, hln⟩ := ha
            refine codeAny_handlers_suite_as (HandSPX.lands_againZ fl fun h4 fl4 up4 => ?_)
            have J4 : Inv X pins σ' H' { s' with heap := h4 } := J.landed nb fl4.1 ((up.trans upg).trans up4) os ag
            obtain ⟨oe4, vs4, he4, hz4, hd4⟩ := (fl4.there)
            refine store_ok (X := X.suite a ((a, oe4) :: (X.pn ++ pins))) (v := .ref a) (J4.suite he4 hd4 na nL nF) hN hi (.inl hln) rfl (fun s5 S5 => ?_) (.inr hln)
            refine wpAny_mono ((hsu a oe4 cls d (X.pn ++ pins) hz4 ⟨_, hd4⟩).run [] s5 _ H' _ S5 (yes rfl a na)) (fun f s6 hsp => ?_) (fun _ _ z => z.elim)
            have fin : ∀ {σ6 : L2.St} {H6 : Hp} {Q : Shared → Prop}, Inv (X.suite a ((a, oe4) :: (X.pn ++ pins))) [] σ6 H6 s6 → (∀ s7, Inv X pins (σ6.set i none) H6 s7 → Q s7) →
              wpAny (model X.prog X.w) X.A (do bindName X.env n .none; unbindBehindTheSuite X.env n p') (fun _ s7 => Q s7) X.xe s6 := fun S6 hq => gone_ok (S6.unsuite xok) hN hi hln hq
            cases f with
            | next => obtain ⟨σ6, H6, S6, q6⟩ := hsp; exact fin S6 fun s7 J7 => ⟨_, _, J7, q6⟩
            | brk => obtain ⟨σ6, H6, S6, q6⟩ := hsp; exact fin S6 fun s7 J7 => ⟨_, _, J7, q6⟩
            | cont => obtain ⟨σ6, H6, S6, q6⟩ := hsp; exact fin S6 fun s7 J7 => ⟨_, _, J7, q6⟩
            | ret u => obtain ⟨v6, σ6, H6, S6, r6, q6⟩ := hsp; exact fin S6 fun s7 J7 => ⟨_, _, _, J7, r6, q6⟩
        | false =>
          show (wpAny _ X.A (handleBy (.ref a) X.env hds2) _ _ _)
          exact ih (no rfl)
    exact go hh w
  · cases f with
    | next => obtain ⟨σ', H', J', q⟩ := hsp; exact wpAny_execs_nil ⟨σ', H', J'.ofTry xok, q⟩
    | brk => obtain ⟨σ', H', J', q⟩ := hsp; exact ⟨σ', H', J'.ofTry xok, q⟩
    | cont => obtain ⟨σ', H', J', q⟩ := hsp; exact ⟨σ', H', J'.ofTry xok, q⟩
    | ret u => obtain ⟨v, σ', H', J', r, q⟩ := hsp; exact ⟨v, σ', H', J'.ofTry xok, r, q⟩
end
end R

/-! R25: raise, except suites, try. -/
namespace R
open L2 PyProof.Rows PySem.Spec PySem
section
variable {T : Tb} {Γ : Cxt} {w₀ w w' : Wd} {H₀ H H' : Hp} {σ σ' : Sl} {κ κ' : Cells} {σV σV' : L2.St} {W : WX} {Dn : Ends}
variable {S : Sg} {N : List Str} {n : Nat} {sc : Scope} {X : Cx}
theorem passes0 {X : Cx} : Passes (L2.CX X.prog X.w) X (fun _ _ _ => False) := fun _ _ _ _ _ _ _ c => by
  obtain ⟨a, B, H', cls, d, _, _, _, _, _, _, _, hE⟩ := c
  exact hE.elim
theorem heap_exc {H1 : Hp} {a d : Addr} {x0 x1 x2 xd : HO} (ha : H1 a = none) (hd : d ≠ a) : upd (del (upd (upd (upd H1 a x0) d x1) a x2) a) d xd = upd H1 d xd := by
  funext b
  by_cases h1 : b = d
  · subst h1; rw [upd_same, upd_same]
  · rw [upd_ne h1, upd_ne h1]
    by_cases h2 : b = a
    · subst h2; rw [del_same, ha]
    · rw [del_ne h2, upd_ne h2, upd_ne h1, upd_ne h2]
theorem s_raise_ok {c : Nat} {es : E} {x : Str} {nms : List Str} {xs : List Expr} {p p2 pos : Pos} (g : XS T S Γ N n sc X) (hc : c ∈ S.exs) (hx : S.cls[c]? = some (x, nms)) (h0 : nms ≠ []) (hg : glB sc x = true) (hd : notDbg x = true) (q : isEs S N none es sc xs = true) (hl : xs.length = 1) (tk : Takes X W) :
    PS X (.Raise (some (.Call (.Name x p) xs [] p2)) none pos) (tS T Γ (.raise c es) W) := by
  obtain ⟨C, hC⟩ := g.exn c hc x nms hx h0
  obtain ⟨x', f, rfl, hx', _, hm, ok⟩ := g.exc c C nms hC
  rw [hx] at hx'
  cases hx'
  obtain ⟨fI, fd, ps, hi, ht, F, hb⟩ := ok.mkX
  match xs, hl with
  | [y], _ =>
  obtain ⟨s1, s2⟩ := star_of (pos := p2) q X.env y [] rfl
  refine psI (ps_raise g.calm tk (pmk_oex ok.cls hi ht F (g.room.mono g.lv) hb .nil passes0 (gl_of hg g.hsc) hm ((all_ok es).pa sc [y] X W q g.toXG tk) (dbg_of hd).1 s1 s2)) fun Dn σV H h => ?_
  obtain ⟨w₀, H₀, w, σ, κ, a, p⟩ := h
  unfold exec at p
  refine ⟨w, σ, κ, a.wk, a.rs, SPost.exE a p fun r w1 H1 er e k p vs hvs => ?_⟩
  have hlen : vs.length = 1 := by rw [hvs.length, evs_count q er]; rfl
  match vs, hlen, hvs with
  | [v], _, hvs =>
  refine ⟨by simp, fun b hb1 => ⟨b, v, rfl, upd_same, fun dd hd1 hne => ⟨rfl, dd, [(f, v)], upd_same, by rw [upd_ne hne, upd_same], by rw [upd_ne hne] at hd1; exact hd1, ?_⟩⟩⟩
  rw [heap_exc hb1 hne]
  rw [upd_ne hne] at hd1
  have z := k.laid (.xd [(f, v)]) hd1
  have a1 := (a.ev e k).ev z.2 z.1
  exact p _ σV _ (.ref C) (some dd) a1 z.2.le Lk.rfl' ⟨C, dd, [f], [v], hC, rfl, rfl, by show upd _ _ _ _ = _; exact upd_same, rfl, hvs.mono z.2.le⟩
/-! ### except suites -/
/-- e.f, e the exception at a -/
def tByX (C : Addr) (f : Str) (a : Addr) (cls : Value) (d : Option Addr) (te : TE) : TE := fun σ H Q => te σ H fun x H1 => x = .ref a ∧ cls = .ref C ∧ ∃ (dd : Addr) (v : V), d = some dd ∧ H1 dd = some (.xd [(f, v)]) ∧ Q v H1
theorem pe_byX {C a : Addr} {f : Str} {oe : Obj} {cls : Value} {d : Option Addr} {pn : List (Addr × Obj)} {e : Expr} {te : TE} {pos : Pos} (ok : ExOk X C f) (hz : Zc cls d oe) (hf : ∃ vs, oe.data = .fields vs) (he : PE (X.suite a ((a, oe) :: pn)) e te)
    (hb : attributeBase e f X.env (eval e X.env) = eval e X.env) : PE (X.suite a ((a, oe) :: pn)) (.Attribute e f pos) (tByX C f a cls d te) := by
  refine ⟨fun pins s σ H Q I h => attr_of hb (thn (he.run pins s σ H _ I h) fun u t hh => ?_)⟩
  obtain ⟨x, H1, I1, rx, rfl, rfl, dd, v, rfl, ea, q⟩ := hh
  obtain rfl : u = Value.ref a := (rx)
  obtain ⟨ha, _⟩ := (I1.pin (a, oe) (List.mem_append_left _ List.mem_cons_self))
  obtain ⟨vs, hd⟩ := hf
  have hx : ObjOk X.prog X.w H1 t.heap dd (.xd [(f, v)]) := I1.hok dd _ ea
  obtain ⟨mA, hns, hr⟩ := hx
  obtain ⟨od, ho, hl⟩ := (lookIn_ns hns)
  have l : List.lookup f [(f, v)] = some v := by simp [List.lookup]
  obtain ⟨u, hu, ru⟩ := RelO.some_of (v := v) (o := mA f) (by rw [← l]; exact hr f)
  have J : PySem.W.InstAt t.heap a oe C (some od) := ⟨ha, hz.1, by unfold PySem.W.notCls; rw [hd] <;> rfl, by rw [hz.2]; exact ho⟩
  exact HandSPX.exc_get I1.kIn J ok.ga ok.gg ok.cls.exC (PySem.W.findObj_own ok.hd ok.no rfl (by rw [hl, hu])) (handed_of ru) ⟨v, H1, I1.tok _, ru, q⟩
end
end R

/-! R26: what stands in an except suite; try. -/
namespace R
open L2 PyProof.Rows PySem.Spec PySem
/-- the expressions of suites -/
def smallE : E → Bool
  | .var _ | .cst _ | .exf _ | .nil => true
  | .cons a b => smallE a && smallE b
  | .tup a | .lst a => smallE a
  | _ => false
/-- where a suite stands: the exception at a, in the slot i of its name, its only field f -/
structure XH (T : Tb) (N : List Str) (sc : Scope) (X : Cx) (Y : Cx) (hn : Option (Str × List Str)) (i : Option Nat) (a : Addr) (dd : Addr) (C : Addr) (f : Str) : Prop where
  hN : Y.N = N
  nd : N.Nodup
  hsc : Y.env.scope = sc
  fn : ∀ x, sc.names.lookup x = some .cell → Y.fn x = true
  kind : Y.env.scope.kind = .function
  fld : ∀ (x : Str) (fs : List Str), hn = some (x, fs) → notDbg x = true ∧ (∃ k, i = some k ∧ N[k]? = some x) ∧ sc.names.lookup x = some .local ∧ ∀ (j : Nat) (g : Str), fs[j]? = some g → j = 0 ∧ g = f ∧ ∀ (p pos : Pos) (te : TE), PE Y (.Name x p) te → PE Y (.Attribute (.Name x p) g pos) (tByX C f a (.ref C) (some dd) te)
/-- the field's value, now -/
def HX (T : Tb) (Γ : Cxt) (i : Option Nat) (a dd : Addr) (f : Str) (σV : L2.St) (w : Wd) : Prop := (∀ k, i = some k → σV[k]? = some (some (.ref a))) ∧ ∃ v d, w.F dd = some (.xd [(f, v)]) ∧ RV T w v d ∧ Γ.hx = [d]
def tEh (T : Tb) (Γ : Cxt) (i : Option Nat) (a dd : Addr) (f : Str) (e : E) : TE := fun σV H Q => ∃ w σ κ, HX T Γ i a dd f σV w ∧ Wok T w H κ ∧ RS T w H σV σ ∧ Post T w H (ev Γ e σ κ) (fun _ _ _ => False) (GE T H σV Q)
def tAh (T : Tb) (Γ : Cxt) (i : Option Nat) (a dd : Addr) (f : Str) (e : E) : TA := fun σV H Q => ∃ w σ κ, HX T Γ i a dd f σV w ∧ Wok T w H κ ∧ RS T w H σV σ ∧ Post T w H (evs Γ e σ κ) (fun _ _ _ => False) (GA T Q)
section
variable {T : Tb} {Γ : Cxt} {S : Sg} {N : List Str} {sc : Scope} {X Y : Cx} {hn : Option (Str × List Str)} {i : Option Nat} {a dd C : Addr} {f : Str}
theorem HX.le {σV : L2.St} {w w' : Wd} (h : HX T Γ i a dd f σV w) (l : Le w w') : HX T Γ i a dd f σV w' := by
  obtain ⟨h1, v, d, h2, h3, h4⟩ := h
  exact ⟨h1, v, d, l.F _ _ h2, h3.mono l, h4⟩
theorem tEh_bind {α : Type} {e : E} {σV : L2.St} {H : Hp} {w : Wd} {σ : Sl} {κ : Cells} {f' : O × Cells → Out (α × Cells)} {G : α × Cells → Wd → Hp → Prop} {Q : V → Hp → Prop} (hx : HX T Γ i a dd f σV w) (hw : Wok T w H κ) (hs : RS T w H σV σ)
    (p : Post T w H ((ev Γ e σ κ).bind f') (fun _ _ _ => False) G) (h : ∀ r w' H' v, ev Γ e σ κ = .ok r → Ext w H w' H' → Wok T w' H' r.2 → RS T w' H' σV σ → RO T w' H' v r.1 → Bor σV v r.1 → (r.1.tag = none → Young H v r.1) → Post T w H (f' r) (fun _ _ _ => False) G → Q v H') : tEh T Γ i a dd f e σV H Q := by
  refine ⟨w, σ, κ, hx, hw, hs, ?_⟩
  cases er : ev Γ e σ κ with
  | ok r => rw [er] at p; exact fun w' H' e k v hv hb hy => h r w' H' v er e k (hs.ext e) hv hb hy p
  | exc c fs k => rw [er] at p; exact p
  | bad => rw [er] at p; exact p
theorem tAh_bind {α : Type} {es : E} {σV : L2.St} {H : Hp} {w : Wd} {σ : Sl} {κ : Cells} {f' : List D × Cells → Out (α × Cells)} {G : α × Cells → Wd → Hp → Prop} {Q : List V → Hp → Prop} (hx : HX T Γ i a dd f σV w) (hw : Wok T w H κ) (hs : RS T w H σV σ)
    (p : Post T w H ((evs Γ es σ κ).bind f') (fun _ _ _ => False) G) (h : ∀ r w' H' vs, evs Γ es σ κ = .ok r → Ext w H w' H' → Wok T w' H' r.2 → RVs T w' vs r.1 → Post T w H (f' r) (fun _ _ _ => False) G → Q vs H') : tAh T Γ i a dd f es σV H Q := by
  refine ⟨w, σ, κ, hx, hw, hs, ?_⟩
  cases er : evs Γ es σ κ with
  | ok r => rw [er] at p; exact fun w' H' e k vs hv => h r w' H' vs er e k hv p
  | exc c fs k => rw [er] at p; exact p
  | bad => rw [er] at p; exact p
theorem small_ok : ∀ (e : E), smallE e = true → (∀ x, isE S N hn e sc x = true → XH T N sc X Y hn i a dd C f → PE Y x (tEh T Γ i a dd f e)) ∧ (∀ xs, isEs S N hn e sc xs = true → XH T N sc X Y hn i a dd C f → PA Y xs (tAh T Γ i a dd f e)) := by
  intro e
  induction e with
  | var k =>
    intro _
    refine ⟨fun x q g => ?_, fun xs q => by cases xs <;> simp [isEs] at q⟩
    cases x <;> simp only [isE, Bool.and_eq_true, decide_eq_true_eq, Bool.false_eq_true] at q
    obtain ⟨⟨q1, q2⟩, q3⟩ := q
    have q3 := dbg_of q3
    refine peI (pe_var (i := k) (by rw [g.hN]; exact q1) (by rw [g.hsc]; exact vis_of q2) q3.1 q3.2.1) fun σV H Q h => ?_
    obtain ⟨w, σ, κ, hx, hw, hs, p⟩ := h
    unfold ev at p
    split at p
    · rename_i o eo
      obtain ⟨v, ev', hv⟩ := hs.at_ k o eo
      refine ⟨v, ev', p.ok hw v (hv.retag k) (fun j e => ?_) fun e pl => ?_⟩
      · have : j = k := by cases o <;> simp [O.read, O.tag] at e <;> exact e.symm
        subst this
        exact ev'
      · cases o <;> simp [O.read, O.tag, O.place] at e pl
    · exact p.elim
  | cst d =>
    intro _
    refine ⟨fun x q g => ?_, fun xs q => by cases xs <;> simp [isEs] at q⟩
    cases x <;> simp only [isE, Bool.false_eq_true] at q
    rename_i c j pos
    have fin : ∀ {v : V}, (∀ w, RV T w v d) → ∀ σV H Q, tEh T Γ i a dd f (.cst d) σV H Q → tC v σV H Q := fun {v} hv σV H Q h => by
      obtain ⟨w, σ, κ, hx, hw, hs, p⟩ := h
      exact GE.fz (p.ok hw) (hv w)
    cases d <;> cases c <;> simp only [constB, beq_iff_eq, decide_eq_true_eq, Bool.false_eq_true] at q
    · exact peI pe_non (fin fun _ => .non)
    · subst q; exact peI pe_bl (fin fun _ => .bl _)
    · subst q; exact peI pe_int (fin fun _ => .int _)
    · subst q; exact peI pe_str (fin fun _ => .str _)
  | exf k =>
    intro _
    refine ⟨fun x q g => ?_, fun xs q => by cases xs <;> simp [isEs] at q⟩
    cases x <;> try (simp [isE] at q; done)
    rename_i y g' pos
    cases y <;> try (simp [isE] at q; done)
    rename_i y p
    cases hn with
    | none => simp [isE] at q
    | some nf =>
      obtain ⟨x, fs⟩ := nf
      simp only [isE, Bool.and_eq_true, decide_eq_true_eq] at q
      obtain ⟨⟨rfl, q2⟩, q3⟩ := q
      obtain ⟨h0, ⟨ki, rfl, h1⟩, h2, h3⟩ := g.fld _ fs rfl
      obtain ⟨rfl, rfl, hp⟩ := h3 k g' q2
      have hd := dbg_of h0
      refine peI (hp p pos _ (pe_var (i := ki) (by rw [g.hN]; exact h1) (by rw [g.hsc]; exact .inl h2) hd.1 hd.2.1)) fun σV H Q h => ?_
      obtain ⟨w, σ, κ, ⟨e1, v, d, e2, rv, e3⟩, hw, hs, p⟩ := h
      refine ⟨.ref a, e1 ki rfl, rfl, rfl, dd, v, rfl, hw.le _ _ e2, ?_⟩
      unfold ev at p
      rw [e3] at p
      exact GE.fz (Post.ok (r := (O.fz d, κ)) p hw) rv
  | tup es ih =>
    intro hs
    refine ⟨fun x q g => ?_, fun xs q => by cases xs <;> simp [isEs] at q⟩
    cases x <;> simp only [isE, Bool.false_eq_true] at q
    refine peI (pe_tup ((ih hs).2 _ q g)) fun σV H Q h => ?_
    obtain ⟨w, σ, κ, hx, hw, hs, p⟩ := h
    unfold ev at p
    refine tAh_bind hx hw hs p fun r w1 H1 vs er e k hv p => ⟨by rw [hv.length]; exact evs_len er, fun b hb => ?_⟩
    have z := k.laid (.tup vs) hb
    exact GE.fz (p _ _ (e.trans z.2) z.1) (.tup (.inl (.inl (by show upd _ _ _ _ = _; exact upd_same))) (hv.mono (le_put _ (k.noF hb))))
  | lst es ih =>
    intro hs
    refine ⟨fun x q g => ?_, fun xs q => by cases xs <;> simp [isEs] at q⟩
    cases x <;> simp only [isE, Bool.false_eq_true] at q
    refine peI (pe_lst ((ih hs).2 _ q g)) fun σV H Q h => ?_
    obtain ⟨w, σ, κ, hx, hw, hs, p⟩ := h
    unfold ev at p
    refine tAh_bind hx hw hs p fun r w1 H1 vs er e k hv p => ⟨by rw [hv.length]; exact evs_len er, fun b hb => ?_⟩
    have z := k.own (.lst vs) hb
    exact GE.own (p _ _ (e.trans z.2) z.1) upd_same hv (k.offθ hb) (k.noF hb) (e.dom b hb)
  | nil =>
    intro _
    refine ⟨fun x q g => by cases x <;> simp [isE] at q, fun xs q g => ?_⟩
    cases xs with
    | cons _ _ => simp [isEs] at q
    | nil =>
      refine paI pa_nil fun σV H Q h => ?_
      obtain ⟨w, σ, κ, hx, hw, hs, p⟩ := h
      unfold evs at p
      exact p.ok hw [] .nil
  | cons e es ih1 ih2 =>
    intro hs
    simp only [smallE, Bool.and_eq_true] at hs
    refine ⟨fun x q g => by cases x <;> simp [isE] at q, fun xs q g => ?_⟩
    cases xs with
    | nil => simp [isEs] at q
    | cons x xs =>
      simp only [isEs, Bool.and_eq_true] at q
      refine paI (pa_cons ((ih1 hs.1).1 x q.1 g) ((ih2 hs.2).2 xs q.2 g) (notStar q.1 Y.env xs)) fun σV H Q h => ?_
      obtain ⟨w, σ, κ, hx, hw, hs, p⟩ := h
      unfold evs at p
      refine tEh_bind hx hw hs p fun r w1 H1 v er e1 k hs1 hv hb hy p => ?_
      obtain ⟨d, ed, p⟩ := p.opt
      obtain ⟨w2, k2, e2, l2, rv⟩ := hv.give k ed e1 (hy (frz_tag ed))
      refine ⟨w2, σ, r.2, hx.le e2.le, k2, hs.ext e2, (p.step e2).bind.imp fun r2 w3 H3 er2 e3 k3 p3 vs hvs => ?_⟩
      split at p3
      · exact Post.ok (r := (d :: r2.1, r2.2)) p3 k3 _ (.cons (rv.mono e3.le) hvs)
      · exact p3.elim
  | _ => intro h; cases h
end
end R

/-! R27: try. -/
namespace R
open L2 PyProof.Rows PySem.Spec PySem
section
variable (S : Sg) (N : List Str) (sub : Nat → Nat → Bool) (sc : Scope)
def suiteB (hn : Option (Str × List Str)) : R.S → Stmt → Bool
  | .cons (.set j e) .nil, .Assign [.Name y _] x _ => stoB N sc sc j y && smallE e && isE S N hn e sc x
  | .cons (.ret e) .nil, .Return (some x) _ => smallE e && isE S N hn e sc x
  | .cons .pass .nil, .Pass _ => true
  | _, _ => false
def asB (c : Nat) (q : Str × List Str) (b : R.S) (st : Stmt) : Option Nat → Option Str → Bool
  | none, none => suiteB S N sc none b st
  | some i, some n => decide (N[i]? = some n) && parB.locB sc n && notDbg n && (S.exs.all fun k => !sub k c || (match S.cls[k]? with | some z => decide (z.2 = q.2) || z.2.isEmpty | none => true)) && suiteB S N sc (some (n, q.2)) b st
  | _, _ => false
def isHs : R.S → List ExceptHandler → Bool
  | .nil, [] => true
  | .han c o b rest, .ExceptHandler (some (.Name x _)) nm [st] _ :: hds => (match S.cls[c]? with
      | some q => decide (q.1 = x) && asB S N sub sc c q b st o nm
      | none => false) && decide (c ∈ S.exs) && glB sc x && notDbg x && isHs rest hds
  | _, _ => false
end
section
variable {T : Tb} {Γ : Cxt} {w₀ w w' : Wd} {H₀ H H' : Hp} {σ σ' : Sl} {κ κ' : Cells} {σV σV' : L2.St} {W : WX} {Dn : Ends}
variable {S : Sg} {N : List Str} {n : Nat} {sc : Scope} {X Y : Cx} {hn : Option (Str × List Str)} {i : Option Nat} {a dd C : Addr} {f : Str}
def tSh (T : Tb) (Γ : Cxt) (i : Option Nat) (a dd : Addr) (f : Str) (s : R.S) : TS := fun D σV H => ∃ w₀ H₀ w σ κ, HX T Γ i a dd f σV w ∧ At T w₀ H₀ w σ κ σV H ∧ SPost T w₀ H₀ w σ σV (exec Γ s σ κ) W0 D
theorem exec_one (s : R.S) (σ : Sl) (κ : Cells) : exec Γ (.cons s .nil) σ κ = exec Γ s σ κ := by
  conv => lhs; unfold exec
  cases exec Γ s σ κ <;> rfl
theorem notLc_small {e : E} {x : Expr} (q : isE S N hn e sc x = true) (h : smallE e = true) : ∀ tg l env, swapsWith x tg l env = pure false := fun tg l env => by
  cases x <;> first | rfl | (cases e <;> simp [isE, smallE] at q h; done)
theorem suite_ok {b : R.S} {st : Stmt} (g : XH T N sc X Y hn i a dd C f) (q : suiteB S N sc hn b st = true) : PSs Y [st] (tSh T Γ i a dd f b) := by
  unfold suiteB at q
  split at q
  · rename_i j e y p0 x pos
    simp only [Bool.and_eq_true] at q
    obtain ⟨⟨q1, q2⟩, q3⟩ := q
    obtain ⟨h1, h2, h3⟩ := sto_of q1 ⟨g.hN, g.nd, g.hsc, g.fn⟩
    refine pss_one (psI (ps_set (by rw [g.hN]; exact g.nd) h1 h2 ((small_ok (T := T) (Γ := Γ) e q2).1 x q3 g) (notLc_small q3 q2 _ _ _) h3) fun Dn σV H h => ?_)
    obtain ⟨w₀, H₀, w, σ, κ, hx, a, p⟩ := h
    rw [exec_one] at p
    unfold exec at p
    refine ⟨w, σ, κ, hx, a.wk, a.rs, SPost.exE (W := W0) a p fun r w1 H1 er e k p v hv hb hy => ?_⟩
    obtain ⟨ht, ul, p⟩ := store_ok' p
    have y0 : Young H₀ v r.1 := fun pl b eb => a.ext.dom b (hy ht pl b eb)
    exact p w1 _ H1 ((a.ev e k).setO hv ht y0 fun j o' _ => fresh_slots a.rs (hy ht) j o') (Le.rfl' w1) (Lk.set ul)
  · rename_i e x pos
    simp only [Bool.and_eq_true] at q
    refine pss_one (psI (ps_ret ((small_ok (T := T) (Γ := Γ) e q.1).1 x q.2 g)) fun Dn σV H h => ?_)
    obtain ⟨w₀, H₀, w, σ, κ, hx, a, p⟩ := h
    rw [exec_one] at p
    unfold exec at p
    refine ⟨w, σ, κ, hx, a.wk, a.rs, SPost.exE (W := W0) a p fun r w1 H1 er e k p v hv hb hy => ?_⟩
    obtain ⟨d, ed, p⟩ := p.exO
    obtain ⟨w2, k2, e2, l2, rv⟩ := hv.give k ed e (hy (frz_tag ed))
    exact p w2 H1 v (a.ext.trans e2) k2 rv
  · refine pss_one (psI ps_pass fun Dn σV H h => ?_)
    obtain ⟨w₀, H₀, w, σ, κ, hx, a, p⟩ := h
    rw [exec_one] at p
    exact p w σV H a (Le.rfl' w) Lk.rfl'
  · cases q
/-- what a clause does -/
def tCl (T : Tb) (Γ : Cxt) (c' : Nat) (o : Option Nat) (b : R.S) : Addr → Value → Option Addr → TS := fun a cls d D σV H => ∃ (c : Nat) (fs : List R.D) (C dd : Addr) (f : Str), cls = .ref C ∧ d = some dd ∧ T.exc c = some (C, [f]) ∧ Γ.sub c c' = true ∧ tSh T { Γ with hx := fs } o a dd f b D σV H
theorem clause_ok {c' : Nat} {o : Option Nat} {nm : Option Str} {q : Str × List Str} {b : R.S} {st : Stmt} (g : XS T S Γ N n sc X) (h : asB S N Γ.sub sc c' q b st o nm = true) : AsOk X o nm ∧ ∀ (a : Addr) (oe : Obj) (cls : Value) (d : Option Addr) (pn : List (Addr × Obj)), Zc cls d oe → (∃ vs, oe.data = .fields vs) → PSs (X.suite a ((a, oe) :: pn)) [st] (tCl T Γ c' o b a cls d) := by
  cases o with
  | none =>
    cases nm with
    | some _ => cases h
    | none =>
      refine ⟨trivial, fun a oe cls d pn hz hf => ⟨fun pins s σ H D I hh => ?_⟩⟩
      obtain ⟨c, fs, C, dd, f, rfl, rfl, hc, hs, hh⟩ := hh
      exact (suite_ok (C := C) (X := X) (Y := X.suite a ((a, oe) :: pn)) (hn := none) ⟨g.hN, g.nd, g.hsc, g.fn, g.kind, fun x fs e => by cases e⟩ h).run pins s σ H D I hh
  | some i =>
    cases nm with
    | none => cases h
    | some nn =>
      simp only [asB, Bool.and_eq_true, decide_eq_true_eq, List.all_eq_true, Bool.or_eq_true, Bool.not_eq_true'] at h
      obtain ⟨⟨⟨⟨h1, h2⟩, h3⟩, h4⟩, h5⟩ := h
      have hl := locB_of h2
      refine ⟨⟨by rw [g.hN]; exact h1, by unfold Env.kindOf; rw [g.hsc]; exact hl⟩, fun a oe cls d pn hz hf => ⟨fun pins s σ H D I hh => ?_⟩⟩
      obtain ⟨c, fs, C, dd, f, rfl, rfl, hc, hs, hh⟩ := hh
      obtain ⟨x, f', e1, e2, e3, e4, ok⟩ := g.exc c C [f] hc
      cases e1
      have hq : q.2 = [f] := by
        rcases h4 c e3 with z | z
        · rw [hs] at z; cases z
        · simp only [e2, Bool.or_eq_true, decide_eq_true_eq, List.isEmpty_cons, Bool.false_eq_true, or_false] at z
          exact z.symm
      refine (suite_ok (C := C) (X := X) (Y := X.suite a ((a, oe) :: pn)) (hn := some (nn, q.2)) ⟨g.hN, g.nd, g.hsc, g.fn, g.kind, fun x fs e => ?_⟩ h5).run pins s σ H D I hh
      simp only [Prod.mk.injEq, Option.some.injEq] at e
      obtain ⟨rfl, rfl⟩ := e
      refine ⟨h3, ⟨i, rfl, h1⟩, hl, fun j gg hj => ?_⟩
      rw [hq] at hj
      cases j with
      | succ j => simp at hj
      | zero =>
        simp at hj
        subst hj
        exact ⟨rfl, rfl, fun p pos te ht => pe_byX ok hz hf ht rfl⟩
theorem At.slotAs {i : Nat} {a : Addr} (h : At T w₀ H₀ w σ κ σV H) : At T w₀ H₀ w (σ.set i none) κ (σV.set i (some (.ref a))) H :=
  ⟨h.wk, h.rs.set fun u e => (by cases e), h.ext, fun j u x e1 e2 => by
    rcases get_set e1 with ⟨_, z, _⟩ | ⟨ne, e⟩
    · cases z
    · rcases get_set e2 with ⟨z, _, _⟩ | ⟨_, e2⟩
      · exact absurd z ne
      · exact h.yg j u x e e2⟩
theorem At.setNo {i : Nat} (h : At T w₀ H₀ w σ κ σV H) : At T w₀ H₀ w (σ.set i none) κ (σV.set i none) H :=
  ⟨h.wk, h.rs.setNo, h.ext, fun j u x e1 e2 => by
    rcases get_set e1 with ⟨_, z, _⟩ | ⟨ne, e⟩
    · cases z
    · rcases get_set e2 with ⟨z, _, _⟩ | ⟨_, e2⟩
      · exact absurd z ne
      · exact h.yg j u x e e2⟩
theorem unlocked_lt {i : Nat} (h : unlocked σ i = true) : i < σ.length := by
  by_cases hl : i < σ.length
  · exact hl
  · unfold unlocked at h
    rw [List.getElem?_eq_none (by omega)] at h
    cases h
theorem as_end {o : Option Nat} {a : Addr} {b : R.S} {G : Cxt} (at_ : At T w₀ H₀ w σ κ σV H) (p : SPost T w₀ H₀ w σ σV (R.exO (exec.gone o σ) fun σ => exec.endAs o (exec G b σ κ)) W Dn) :
    ∃ σ1, At T w₀ H₀ w σ1 κ (slotAs o a σV) H ∧ (∀ k, o = some k → (slotAs o a σV)[k]? = some (some (.ref a))) ∧ SPost T w₀ H₀ w σ1 (slotAs o a σV) (exec G b σ1 κ) W0 (endsAs o Dn) := by
  obtain ⟨σ1, e1, p⟩ := p.exO
  cases o with
  | none =>
    cases e1
    refine ⟨σ, at_, fun k e => (by cases e), ?_⟩
    cases ex : exec G b σ κ <;> rw [ex] at p <;> first | exact p | exact p.elim
  | some i =>
    obtain ⟨ul, rfl⟩ := setAt_ok (show setAt σ i none = some σ1 from e1)
    have hl : i < σV.length := by rw [at_.rs.len]; exact unlocked_lt ul
    refine ⟨_, at_.slotAs, fun k e => by cases e; exact List.getElem?_set_self hl, ?_⟩
    have lk0 : Lk σV σ (σV.set i (some (.ref a))) (σ.set i none) := Lk.set ul
    cases ex : exec G b (σ.set i none) κ with
    | nx σ5 κ5 =>
      rw [ex] at p
      obtain ⟨σ6, e6, p⟩ := (show SPost T w₀ H₀ w σ σV (R.exO (setAt σ5 i none) fun σ => .nx σ κ5) W Dn from p).exO
      obtain ⟨u6, rfl⟩ := setAt_ok e6
      exact fun w5 σV5 H5 a5 l5 lk5 => p w5 _ H5 a5.setNo l5 ((lk0.trans lk5).trans (Lk.set u6))
    | bk σ5 κ5 =>
      rw [ex] at p
      obtain ⟨σ6, e6, p⟩ := (show SPost T w₀ H₀ w σ σV (R.exO (setAt σ5 i none) fun σ => .bk σ κ5) W Dn from p).exO
      obtain ⟨u6, rfl⟩ := setAt_ok e6
      exact fun w5 σV5 H5 a5 l5 lk5 => p w5 _ H5 a5.setNo l5 ((lk0.trans lk5).trans (Lk.set u6))
    | ct σ5 κ5 =>
      rw [ex] at p
      obtain ⟨σ6, e6, p⟩ := (show SPost T w₀ H₀ w σ σV (R.exO (setAt σ5 i none) fun σ => .ct σ κ5) W Dn from p).exO
      obtain ⟨u6, rfl⟩ := setAt_ok e6
      exact fun w5 σV5 H5 a5 l5 lk5 => p w5 _ H5 a5.setNo l5 ((lk0.trans lk5).trans (Lk.set u6))
    | rt d5 κ5 => rw [ex] at p; exact p
    | xc _ _ _ _ => rw [ex] at p; exact p.elim
    | bad => rw [ex] at p; exact p.elim
theorem hds_ok (g : XS T S Γ N n sc X) : ∀ (hs : R.S) (hds : List ExceptHandler), isHs S N Γ.sub sc hs hds = true → ∃ l, HdM X hds l ∧ ∀ (w₀ : Wd) (H₀ : Hp) (W : WX) (Dn : Ends) (c : Nat) (fs : List R.D) (σ : Sl) (κ : Cells) (w : Wd) (σV : L2.St) (H : Hp) (cls : Value) (d : Option Addr),
    At T w₀ H₀ w σ κ σV H → RX T w cls d c fs → SPost T w₀ H₀ w σ σV (exec.execH Γ hs c fs σ κ) W Dn → wMix X.K W Dn l cls d σV H := by
  intro hs
  induction hs with
  | nil =>
    intro hds h
    cases hds with
    | cons _ _ => simp [isHs] at h
    | nil => exact ⟨[], .nil, fun w₀ H₀ W Dn c fs σ κ w σV H cls d a rx p => (show SPost T w₀ H₀ w σ σV (.xc c fs σ κ) W Dn from p) w σV H cls d a (Le.rfl' w) Lk.rfl' rx⟩
  | han c' o b rest _ ih =>
    intro hds h
    cases hds with
    | nil => simp [isHs] at h
    | cons hd hds =>
      unfold isHs at h
      split at h
      · rename_i h1 h2; cases h1
      · rename_i c2 o2 b2 rest2 x p nm st p' hds2 e1 e2
        cases e1
        cases e2
        simp only [decide_eq_true_eq, Bool.and_eq_true] at h
        obtain ⟨⟨⟨⟨h1, h2⟩, h3⟩, h4⟩, h5⟩ := h
        cases ec : S.cls[c']? with
        | none => rw [ec] at h1; cases h1
        | some q =>
          rw [ec] at h1
          simp only [decide_eq_true_eq, Bool.and_eq_true] at h1
          obtain ⟨C', x', nms', e3, e4, em⟩ := g.han c' h2
          rw [ec] at e3
          cases e3
          obtain ⟨rfl, h6⟩ := h1
          obtain ⟨l, hl, sem⟩ := ih hds h5
          obtain ⟨as_, cl⟩ := clause_ok (T := T) (Γ := Γ) g h6
          refine ⟨(.ref C', o, tCl T Γ c' o b) :: l, .cons ⟨gl_of h3 g.hsc, (dbg_of h4).1, .inl e4⟩ as_ cl hl, fun w₀ H₀ W Dn c fs σ κ w σV H cls d a rx p => ?_⟩
          obtain ⟨C, dd, nms, vs, hc, rfl, rfl, hF, hlen, rvs⟩ := rx
          refine ⟨Γ.sub c c', em c C nms hc, fun hb ex hex => ?_, fun hb => ?_⟩
          · obtain ⟨x0, f, rfl, _⟩ := g.exc c C nms hc
            have p : SPost T w₀ H₀ w σ σV (R.exO (exec.gone o σ) fun σ => exec.endAs o (exec { Γ with hx := fs } b σ κ)) W Dn := by
              unfold exec.execH at p
              rw [if_pos hb] at p
              exact p
            match vs, hlen, rvs with
            | [v], _, .cons rv .nil =>
              obtain ⟨σ1, a1, hk, p1⟩ := as_end (a := ex) a p
              exact ⟨c, _, C, dd, f, rfl, rfl, hc, hb, w₀, H₀, w, σ1, κ, ⟨hk, v, _, hF, rv, rfl⟩, a1, p1⟩
          · unfold exec.execH at p
            rw [if_neg (by simp [hb])] at p
            exact sem w₀ H₀ W Dn c fs σ κ w σV H _ _ a ⟨C, dd, nms, vs, hc, rfl, rfl, hF, hlen, rvs⟩ p
      · cases h
  | _ => intro hds h; simp [isHs] at h
/-- from where a try's body stands -/
theorem XS.tr (g : XS T S Γ N n sc X) (pn : List (Addr × Obj)) (xe : Value → Shared → Prop) (hp : PassesOwn (model X.prog X.w) X.A X.env xe) : XS T S Γ N n sc (X.tr pn xe) where
  hK := g.hK
  hN := g.hN
  nd := g.nd
  hsc := g.hsc
  calm := g.calm
  gd := g.gd
  room := g.room
  lv := g.lv
  bi := g.bi
  gcd := g.gcd
  gl := g.gl
  call := g.call
  ins := g.ins
  ins2 := g.ins2
  insAll := g.insAll
  mkC := g.mkC
  eqF := g.eqF
  fn := g.fn
  kind := g.kind
  own := hp
  stk := g.stk
  frm := g.frm
  exn := g.exn
  exc := fun c C nms h => by
    obtain ⟨x, f, h1, h2, h3, h4, ok⟩ := g.exc c C nms h
    exact ⟨x, f, h1, h2, h3, h4, ⟨ok.cls, ok.no, ok.ga, ok.gg, ok.hd, ok.mkX⟩⟩
  han := g.han
theorem s_try_ok {b hs : R.S} {body : List Stmt} {hd0 : ExceptHandler} {hds : List ExceptHandler} {pos : Pos} (g : XS T S Γ N n sc X) (h : isHs S N Γ.sub sc hs (hd0 :: hds) = true) (tk : Takes X W)
    (hb : ∀ (W' : WX) (Y : Cx), XS T S Γ N n sc Y → Takes Y W' → PSs Y body (tS T Γ b W')) : PS X (.Try body (hd0 :: hds) [] [] pos) (tS T Γ (.try_ b hs) W) := by
  obtain ⟨l, hl, sem⟩ := hds_ok (T := T) (Γ := Γ) g hs _ h
  refine psI (ps_try_mix (tb := fun W' => tS T Γ b W') (by rw [g.hN]; exact g.nd) g.stk g.frm tk (fun W' pn xe tk' hp => hb W' _ (g.tr pn xe hp) tk') hl) fun Dn σV H hh => ?_
  obtain ⟨w₀, H₀, w, σ, κ, a, p⟩ := hh
  refine ⟨w₀, H₀, w, σ, κ, a, ?_⟩
  unfold exec at p
  cases ex : exec Γ b σ κ with
  | xc c fs σ' κ' =>
    rw [ex] at p
    exact fun w' σV' H' cls d a' l' lk' rx => sem w₀ H₀ W Dn c fs σ' κ' w' σV' H' cls d a' rx (SPost.step (show SPost T w₀ H₀ w σ σV (exec.execH Γ hs c fs σ' κ') W Dn from p) l' lk')
  | nx _ _ => rw [ex] at p; exact p
  | bk _ _ => rw [ex] at p; exact p
  | ct _ _ => rw [ex] at p; exact p
  | rt _ _ => rw [ex] at p; exact p
  | bad => rw [ex] at p; exact p
end
end R

/-! R28: every statement. -/
namespace R
open L2 PyProof.Rows PySem.Spec PySem
def notTup : Expr → Bool
  | .Tuple _ _ _ => false
  | _ => true
def isTupE : Expr → Bool
  | .Tuple _ _ _ => true
  | _ => false
section
variable (S : Sg) (N : List Str) (sub : Nat → Nat → Bool) (sc : Scope)
mutual
def isS : R.S → Stmt → Bool
  | .set i e, .Assign [.Name y _] x _ => stoB N sc sc i y && isE S N none e sc x
  | .sets tg e, .Assign [t] x _ => tgB N sc sc tg t && isTupE t && notTup x && notLc x && isE S N none e sc x
  | .par is es, .Assign [.Tuple ts _ _] (.Tuple vs _ _) _ => parB N sc is ts vs && isEs S N none es sc vs
  | .aug i op e, .AugAssign (.Name y _) o x _ => (decide (op = .add) || decide (op = .sub)) && decide (o = op.op) && stoB N sc sc i y && isE S N none e sc x
  | .app i e, .Expr (.Call (.Attribute (.Name y _) m ap) [x] [] cp) _ => decide (m = "append") && decide (N[i]? = some y) && visB sc y && notDbg y && (ap.endLine == cp.line) && isE S N none e sc x
  | .put i k e, .Assign [.Subscript (.Name y _) kx _] x _ => decide (N[i]? = some y) && visB sc y && notDbg y && isE S N none k sc kx && isE S N none e sc x
  | .drop e, .Expr x _ => isE S N none e sc x && notLc x
  | .ret e, .Return (some x) _ => isE S N none e sc x
  | .retN, .Return none _ => true
  | .ite c a b, .If x p q _ => isE S N none c sc x && isSs a p && isSs b q
  | .for_ tg it b, .For t x body [] _ => tgB N sc sc tg t && isIt S N none it sc x && itTg it t && notSet x && isSs b body
  | .whl c b, .While x body [] _ => isE S N none c sc x && isSs b body
  | .raise c es, .Raise (some (.Call (.Name x _) xs [] _)) none _ => (match S.cls[c]? with
      | some q => decide (q.1 = x) && !q.2.isEmpty
      | none => false) && decide (c ∈ S.exs) && glB sc x && notDbg x && isEs S N none es sc xs && decide (xs.length = 1)
  | .try_ b hs, .Try body (h0 :: hds) [] [] _ => isSs b body && isHs S N sub sc hs (h0 :: hds)
  | .brk, .Break _ => true
  | .cnt, .Continue _ => true
  | .pass, .Pass _ => true
  | .stuck, _ => true
  | _, _ => false
def isSs : R.S → List Stmt → Bool
  | .nil, [] => true
  | .cons .stuck _, _ => true
  | .cons (.frz _) t, sts => isSs t sts
  | .cons s t, st :: sts => isS s st && isSs t sts
  | _, _ => false
end
end
section
variable {T : Tb} {Γ : Cxt} {S : Sg} {N : List Str} {n : Nat} {sc : Scope} {X : Cx} {W : WX}
theorem s_app_ok {i : Nat} {y : Str} {e : E} {x : Expr} {p ap cp pos : Pos} (g : XS T S Γ N n sc X) (h1 : N[i]? = some y) (h2 : visB sc y = true) (h3 : notDbg y = true) (h4 : (ap.endLine == cp.line) = true) (q : isE S N none e sc x = true) (tk : Takes X W) :
    PS X (.Expr (.Call (.Attribute (.Name y p) "append" ap) [x] [] cp) pos) (tS T Γ (.app i e) W) := by
  have st := notStar q X.env []
  have d := dbg_of h3
  exact psI (ps_expr (pe_bm PySem.F.plainAttrs_list PySem.F.slot_list_append PySem.F.type_list_append mt_append (pe_var (i := i) (by rw [g.hN]; exact h1) (by rw [g.hsc]; exact vis_of h2) d.1 d.2.1) (pa_cons ((all_ok e).pe sc x X W q g.toXG tk) pa_nil st) rfl (by rw [st]; rfl) h4 st rfl) rfl) (app_sem g.hK)
theorem s_put_ok {i : Nat} {y : Str} {k e : E} {kx x : Expr} {p p2 pos : Pos} (g : XS T S Γ N n sc X) (h1 : N[i]? = some y) (h2 : visB sc y = true) (h3 : notDbg y = true) (qk : isE S N none k sc kx = true) (q : isE S N none e sc x = true) (tk : Takes X W) :
    PS X (.Assign [.Subscript (.Name y p) kx p2] x pos) (tS T Γ (.put i k e) W) := by
  have d := dbg_of h3
  have hu := g.toXG.hu
  exact psI (ps_asg ((all_ok e).pe sc x X W q g.toXG tk) (pg_sub (pe_var (i := i) (by rw [g.hN]; exact h1) (by rw [g.hsc]; exact vis_of h2) d.1 d.2.1) ((all_ok k).pe sc kx X W qk g.toXG tk) (set_put (by omega)) (fun v => by cases kx <;> first | rfl | (cases k <;> simp [isE] at qk; done)))
    (by cases x <;> rfl) (by cases x <;> rfl) rfl) put_sem
theorem stmts_ok : ∀ s : R.S, (∀ (X : Cx) (W : WX) (st : Stmt), XS T S Γ N n sc X → Takes X W → isS S N Γ.sub sc s st = true → PS X st (tS T Γ s W)) ∧ (∀ (X : Cx) (W : WX) (sts : List Stmt), XS T S Γ N n sc X → Takes X W → isSs S N Γ.sub sc s sts = true → PSs X sts (tS T Γ s W)) := by
  intro s
  induction s with
  | nil =>
    refine ⟨fun X W st g tk q => by simp [isS] at q, fun X W sts g tk q => ?_⟩
    cases sts with
    | nil => exact ss_nil
    | cons _ _ => simp [isSs] at q
  | cons s t ih1 ih2 =>
    refine ⟨fun X W st g tk q => by simp [isS] at q, fun X W sts g tk q => ?_⟩
    have stk : ∀ {sts : List Stmt}, PSs X sts (tS T Γ (.cons .stuck t) W) := fun {sts} => pssI pss_never fun D σV H h => by
      obtain ⟨w₀, H₀, w, σ, κ, a, p⟩ := h
      exact p
    have two : ∀ st sts', sts = st :: sts' → isS S N Γ.sub sc s st = true → isSs S N Γ.sub sc t sts' = true → PSs X sts (tS T Γ (.cons s t) W) := fun st sts' e q1 q2 => by
      subst e
      exact ss_cons (ih1.1 X W st g tk q1) (ih2.2 X W sts' g tk q2)
    cases s with
    | stuck => exact stk
    | frz i =>
      have q : isSs S N Γ.sub sc t sts = true := by cases sts <;> simpa [isSs] using q
      exact pssI (ih2.2 X W sts g tk q) frz_sem
    | _ =>
      cases sts with
      | nil => simp [isSs] at q
      | cons st sts' =>
        simp only [isSs, Bool.and_eq_true] at q
        exact two st sts' rfl q.1 q.2
  | set i e =>
    refine ⟨fun X W st g tk q => ?_, fun X W sts g tk q => by simp [isSs] at q⟩
    cases st <;> try (simp [isS] at q; done)
    rename_i ts x pos
    match ts, q with
    | [.Name y p], q =>
      simp only [isS, Bool.and_eq_true] at q
      exact s_set_ok g q.1 q.2 tk
    | [], q => simp [isS] at q
    | t :: _ :: _, q => cases t <;> simp [isS] at q
    | [t], q => cases t <;> first | (simp [isS] at q; done) | (simp only [isS, Bool.and_eq_true] at q; exact s_set_ok g q.1 q.2 tk)
  | sets tg e =>
    refine ⟨fun X W st g tk q => ?_, fun X W sts g tk q => by simp [isSs] at q⟩
    cases st <;> try (simp [isS] at q; done)
    rename_i ts x pos
    match ts, q with
    | [t], q =>
      simp only [isS, Bool.and_eq_true] at q
      obtain ⟨⟨⟨⟨q1, q2⟩, q3⟩, q4⟩, q5⟩ := q
      exact s_sets g q1 ((all_ok e).pe sc x X W q5 g.toXG tk) (sw_no q5 q4) (by cases t <;> first | (cases q2; done) | (cases x <;> first | rfl | cases q3))
    | [], q => simp [isS] at q
    | _ :: _ :: _, q => simp [isS] at q
  | par is es =>
    refine ⟨fun X W st g tk q => ?_, fun X W sts g tk q => by simp [isSs] at q⟩
    cases st <;> try (simp [isS] at q; done)
    rename_i ts x pos
    cases ts with
    | nil => simp [isS] at q
    | cons t r =>
      cases r with
      | cons _ _ => cases t <;> cases x <;> simp [isS] at q
      | nil =>
        cases t <;> try (simp [isS] at q; done)
        cases x <;> try (simp [isS] at q; done)
        simp only [isS, Bool.and_eq_true] at q
        exact s_par_ok g q.1 q.2 tk
  | aug i op e =>
    refine ⟨fun X W st g tk q => ?_, fun X W sts g tk q => by simp [isSs] at q⟩
    cases st <;> try (simp [isS] at q; done)
    rename_i t o x pos
    cases t <;> try (simp [isS] at q; done)
    simp only [isS, Bool.and_eq_true, Bool.or_eq_true, decide_eq_true_eq] at q
    obtain ⟨⟨⟨q1, rfl⟩, q3⟩, q4⟩ := q
    exact s_aug_ok g q1 q3 q4 tk
  | app i e =>
    refine ⟨fun X W st g tk q => ?_, fun X W sts g tk q => by simp [isSs] at q⟩
    cases st <;> try (simp [isS] at q; done)
    rename_i c pos
    cases c <;> try (simp [isS] at q; done)
    rename_i f xs kws cp
    cases f <;> try (simp [isS] at q; done)
    rename_i o m ap
    cases o <;> try (simp [isS] at q; done)
    match xs, kws, q with
    | [x], [], q =>
      simp only [isS, Bool.and_eq_true, decide_eq_true_eq] at q
      obtain ⟨⟨⟨⟨⟨rfl, q2⟩, q3⟩, q4⟩, q5⟩, q6⟩ := q
      exact s_app_ok g q2 q3 q4 q5 q6 tk
    | [], _, q => simp [isS] at q
    | _ :: _ :: _, _, q => simp [isS] at q
    | [_], _ :: _, q => simp [isS] at q
  | put i k e =>
    refine ⟨fun X W st g tk q => ?_, fun X W sts g tk q => by simp [isSs] at q⟩
    cases st <;> try (simp [isS] at q; done)
    rename_i ts x pos
    cases ts with
    | nil => simp [isS] at q
    | cons t r =>
      cases t <;> try (simp [isS] at q; done)
      rename_i o kx p2
      cases o <;> try (simp [isS] at q; done)
      cases r with
      | cons _ _ => simp [isS] at q
      | nil =>
        simp only [isS, Bool.and_eq_true, decide_eq_true_eq] at q
        obtain ⟨⟨⟨⟨q1, q2⟩, q3⟩, q4⟩, q5⟩ := q
        exact s_put_ok g q1 q2 q3 q4 q5 tk
  | drop e =>
    refine ⟨fun X W st g tk q => ?_, fun X W sts g tk q => by simp [isSs] at q⟩
    cases st <;> try (simp [isS] at q; done)
    rename_i x pos
    simp only [isS, Bool.and_eq_true] at q
    exact s_drop ((all_ok e).pe sc x X W q.1 g.toXG tk) (sw_no q.1 q.2)
  | ret e =>
    refine ⟨fun X W st g tk q => ?_, fun X W sts g tk q => by simp [isSs] at q⟩
    cases st <;> try (simp [isS] at q; done)
    rename_i x pos
    cases x with
    | none => simp [isS] at q
    | some x => simp only [isS] at q; exact s_ret ((all_ok e).pe sc x X W q g.toXG tk)
  | retN =>
    refine ⟨fun X W st g tk q => ?_, fun X W sts g tk q => by simp [isSs] at q⟩
    cases st <;> try (simp [isS] at q; done)
    rename_i x pos
    cases x with
    | some x => simp [isS] at q
    | none => exact s_retN
  | ite c a b iha ihb =>
    refine ⟨fun X W st g tk q => ?_, fun X W sts g tk q => by simp [isSs] at q⟩
    cases st <;> try (simp [isS] at q; done)
    rename_i x p r pos
    simp only [isS, Bool.and_eq_true] at q
    exact s_ite ((all_ok c).pt sc x X W q.1.1 g.toXG tk) (iha.2 X W p g tk q.1.2) (ihb.2 X W r g tk q.2)
  | for_ tg it b ih =>
    refine ⟨fun X W st g tk q => ?_, fun X W sts g tk q => by simp [isSs] at q⟩
    cases st <;> try (simp [isS] at q; done)
    rename_i t x body orelse pos
    cases orelse with
    | cons _ _ => simp [isS] at q
    | nil =>
      simp only [isS, Bool.and_eq_true] at q
      obtain ⟨⟨⟨⟨q1, q2⟩, q3⟩, q4⟩, q5⟩ := q
      exact s_for g q1 ((all_ok it).pi sc t x X W q2 q3 g.toXG tk) (ih.2 X W body g tk q5) (folded_of q2 q4 X.env)
  | whl c b ih =>
    refine ⟨fun X W st g tk q => ?_, fun X W sts g tk q => by simp [isSs] at q⟩
    cases st <;> try (simp [isS] at q; done)
    rename_i x body orelse pos
    cases orelse with
    | cons _ _ => simp [isS] at q
    | nil =>
      simp only [isS, Bool.and_eq_true] at q
      exact s_whl g ((all_ok c).pt sc x X W q.1 g.toXG tk) (ih.2 X W body g tk q.2)
  | raise c es =>
    refine ⟨fun X W st g tk q => ?_, fun X W sts g tk q => by simp [isSs] at q⟩
    cases st <;> try (simp [isS] at q; done)
    rename_i x cause pos
    cases x with
    | none => simp [isS] at q
    | some x =>
      cases x <;> try (simp [isS] at q; done)
      rename_i f xs kws p2
      cases f <;> try (simp [isS] at q; done)
      cases kws with
      | cons _ _ => simp [isS] at q
      | nil =>
        cases cause with
        | some _ => simp [isS] at q
        | none =>
          simp only [isS, Bool.and_eq_true, decide_eq_true_eq] at q
          obtain ⟨⟨⟨⟨⟨q1, q2⟩, q3⟩, q4⟩, q5⟩, q6⟩ := q
          cases ec : S.cls[c]? with
          | none => rw [ec] at q1; cases q1
          | some z =>
            rw [ec] at q1
            obtain ⟨zn, znm⟩ := z
            simp only [Bool.and_eq_true, decide_eq_true_eq, Bool.not_eq_true'] at q1
            obtain ⟨rfl, q7⟩ := q1
            exact s_raise_ok g q2 ec (fun z => by rw [z] at q7; cases q7) q3 q4 q5 q6 tk
  | try_ b hs ihb _ =>
    refine ⟨fun X W st g tk q => ?_, fun X W sts g tk q => by simp [isSs] at q⟩
    cases st <;> try (simp [isS] at q; done)
    rename_i body hds orelse fin pos
    cases hds with
    | nil => simp [isS] at q
    | cons h0 hds =>
      cases orelse with
      | cons _ _ => simp [isS] at q
      | nil =>
        cases fin with
        | cons _ _ => simp [isS] at q
        | nil =>
          simp only [isS, Bool.and_eq_true] at q
          exact s_try_ok g q.2 tk fun W' Y gY tk' => ihb.2 Y W' body gY tk' q.1
  | brk =>
    refine ⟨fun X W st g tk q => ?_, fun X W sts g tk q => by simp [isSs] at q⟩
    cases st <;> first | exact s_brk | (simp [isS] at q; done)
  | cnt =>
    refine ⟨fun X W st g tk q => ?_, fun X W sts g tk q => by simp [isSs] at q⟩
    cases st <;> first | exact s_cnt | (simp [isS] at q; done)
  | pass =>
    refine ⟨fun X W st g tk q => ?_, fun X W sts g tk q => by simp [isSs] at q⟩
    cases st <;> first | exact s_pass | (simp [isS] at q; done)
  | stuck => exact ⟨fun X W st g tk q => s_stuck, fun X W sts g tk q => by simp [isSs] at q⟩
  | _ => exact ⟨fun X W st g tk q => by cases st <;> simp [isS] at q, fun X W sts g tk q => by simp [isSs] at q⟩
end
end R

/-! R29: defs. -/
namespace R
open L2 PyProof.Rows PySem.Spec PySem
/-- a def of the text, by its body, for callers under whom no repr runs -/
theorem fnG_of {P : Program} {w : World} {K : PySem.W.Frag} {mg : Str → Option Value} {base : Heap} {k : Nat} {f : Addr} {nm qual : Str} {params : Arguments} {body : List Stmt} {scope : Scope} {dV kV doc pm cdv ct oc : Value} {an od : Option Addr}
    {osl : Array (Option Value)} {N ps : List Str} {sp : Sp} (lk : K.lookup f = some ⟨oc, od, .func (PySem.W.fnOf nm qual params body scope dV kV doc pm an cdv ct), osl⟩) (hcd : PySem.W.codeIn K cdv qual = true) (F : FnScope N ps scope)
    (len : ∀ vs H Q E, sp vs H Q E → (vs.length = ps.length))
    (hbody : ∀ (A : Around) (outer : List Env) (s : Shared) (H : Hp) (vs : List V) (Q : VK) (E : XK), A.guards = some [] → Room k (A.deeper (envOfC qual scope s.heap.objs.size f cdv)) → sp vs H Q E →
      ∃ t, PSs (cxOf (L2.CX P w) P w K mg base N qual scope f cdv A outer s H E) body t ∧ t { nx := fun _ H' => Q .non H', rt := Q } (start N vs) H) :
    FnG P w K mg base (k + 1) f (PySem.W.fnOf nm qual params body scope dV kV doc pm an cdv ct) ps sp := by
  refine ⟨len, fun A outer s H args us vs Q E room gd e0 hb rel hsp => ?_⟩
  have hlen := len _ _ _ _ hsp
  have kin : K.In s.heap := e0.mod.kin.keeps fun b o q => (e0.bs b o q).1
  have nolim : s.heap.NoLimit := e0.mod.nolimit.keeps fun b o q => (e0.bs b o q).1
  have kinds : ∀ y ∈ ps.zip us, scope.names.lookup y.1 = some .local ∨ (scope.names.lookup y.1 = some .cell ∧ ((cellsFrom (s.heap.objs.size + 1) scope.names []).lookup y.1).isSome = true) := fun ⟨z, v⟩ hy => by
    rcases F.par z (List.of_mem_zip hy).1 with q | q
    · exact .inl q
    · exact (.inr ⟨q, PySem.W.cellsFrom_some _ _ _ (.inl q)⟩)
  refine codeAny_call_function room.depth (kin _ _ lk) rfl F.co F.gen rfl (PySem.W.codeRec_of kin hcd) (hb _ _ _ _ (wpAny_newFunctionEnv_cells F.kind kinds fun env he s1 x => ?_))
  subst he
  refine ⟨nolim.keeps x.toInCall.keep, codeAny_func ?_⟩
  obtain ⟨t, ht, hq⟩ := hbody A outer s H vs Q E gd (room.deeper _) hsp
  have I : Inv (cxOf (L2.CX P w) P w K mg base N qual scope f cdv A outer s H E) [] (start N vs) H s1 := inv_start F room.hd e0 hlen rel x
  refine (wpAny_mono (ht.run [] s1 (start N vs) H _ I hq) (fun fl s' hs => ?_) fun e s' hs => hs)
  cases fl with
  | ret u =>
    obtain ⟨v, σ', H', J, rv, q⟩ := (hs)
    exact ⟨v, H', J.os, J.bare, J.base, J.hok, rv, q⟩
  | next =>
    obtain ⟨σ', H', J, q⟩ := hs
    exact ⟨.non, H', J.os, J.bare, J.base, J.hok, rfl, q⟩
  | brk => obtain ⟨_, _, _, q⟩ := hs; exact q.elim
  | cont => obtain ⟨_, _, _, q⟩ := hs; exact q.elim
/-! ### the start of a def -/
section
variable {T : Tb} {w : Wd} {H : Hp} {κ : Cells}
theorem start_get {N : List Str} {vs : List V} {i : Nat} {v : V} (h : (start N vs)[i]? = some (some v)) : vs[i]? = some v := by
  unfold L2.start at h
  by_cases hi : i < vs.length
  · rw [List.getElem?_append_left (by simpa using hi), List.getElem?_map] at h
    cases e : vs[i]? with
    | none => (rw [e] at h; cases h)
    | some a => rw [e] at h; cases h; rfl
  · rw [List.getElem?_append_right (by simpa using hi), List.getElem?_replicate] at h
    split at h <;> cases h
theorem startS_get {fn : Fn} {ds : List D} {i : Nat} {o : O} (h : (startS fn ds)[i]? = some (some o)) : ∃ d, ds[i]? = some d ∧ o = .fz d := by
  unfold startS at h
  by_cases hi : i < ds.length
  · rw [List.getElem?_append_left (by simpa using hi), List.getElem?_map] at h
    cases e : ds[i]? with
    | none => (rw [e] at h; cases h)
    | some a => rw [e] at h; cases h; exact ⟨a, rfl, rfl⟩
  · rw [List.getElem?_append_right (by simpa using hi), List.getElem?_replicate] at h
    split at h <;> cases h
theorem at_start {N : List Str} {fn : Fn} {vs : List V} {ds : List D} (hw : Wok T w H κ) (hv : RVs T w vs ds) (hn : N.length = fn.n) : At T w H w (startS fn ds) κ (start N vs) H := by
  refine ⟨hw, ⟨?_, fun i o h => ?_, fun i j o o' v ne h1 h2 _ _ => ?_, fun i j o h t => ?_⟩, Ext.rfl' w H, fun i o v h _ pl => ?_⟩
  · unfold L2.start startS
    simp [hv.length, hn]
  · obtain ⟨d, e, rfl⟩ := startS_get h
    obtain ⟨v, ev', rv⟩ := hv.get e
    refine ⟨v, ?_, rv⟩
    unfold L2.start
    have hi : i < vs.length := (List.getElem?_eq_some_iff.mp ev').1
    rw [List.getElem?_append_left (by simpa using hi), List.getElem?_map, ev']
    rfl
  · obtain ⟨d, e, rfl⟩ := startS_get h1
    exact .inl rfl
  · obtain ⟨d, e, rfl⟩ := startS_get h
    cases t
  · obtain ⟨d, e, rfl⟩ := startS_get h
    cases pl
/-- a body's end is the def's -/
theorem body_sem {Γ : Cxt} {N : List Str} {fn : Fn} {vs : List V} {ds : List D} {E : XK} {Q : VK} (hw : Wok T w H κ) (hv : RVs T w vs ds) (hn : N.length = fn.n)
    (p : Post T w H (exec Γ fn.body (startS fn ds) κ).out E (fun r w' H' => ∀ v, RV T w' v r.1 → Q v H')) : tS T Γ fn.body (fun cls d _ H' => E cls d H') { nx := fun _ H' => Q .non H', rt := Q } (start N vs) H := by
  refine ⟨w, H, w, startS fn ds, κ, at_start hw hv hn, ?_⟩
  cases ex : exec Γ fn.body (startS fn ds) κ with
  | nx σ' κ' => rw [ex] at p; exact fun w' σV' H' a l k => (show Post T w H (.ok (D.non, κ')) E _ from p) w' H' a.ext a.wk .non .non
  | rt d κ' => rw [ex] at p; exact fun w' H' v x k rv => (show Post T w H (.ok (d, κ')) E _ from p) w' H' x k v rv
  | xc c fs σ' κ' => rw [ex] at p; exact fun w' σV' H' cls d a l k rx => (show Post T w H (.exc c fs κ') E _ from p) w' H' cls d a.ext a.wk rx
  | bk _ _ => rw [ex] at p; exact p.elim
  | ct _ _ => rw [ex] at p; exact p.elim
  | bad => rw [ex] at p; exact p.elim
end
end R

/-! R30: the law's own call. -/
namespace R
open L2 PyProof.Rows PySem.Spec PySem
/-- the law's call, from the promise of its def for callers under whom no repr runs -/
theorem law_callG {P : Program} {w : World} {K : PySem.W.Frag} {mg mb : Str → Option Value} {k : Nat} {fa a : Addr} {fd : FuncData} {x : Str} {sp : Sp} {t : Shared} {vs : List Value} {ns : List Int}
    (kin : K.In t.heap) (hns : t.heap.Ns mainGlobals mg) (hb : t.heap.Ns builtinsNs mb) (hbb : ∀ x : Str, x ≠ "__name__" → mb x = bootBuiltins x) (lim : t.heap.NoLimit) (hg : t.gens = #[])
    (ha : t.heap.get? a = some { cls := .type "list", data := .seq vs.toArray }) (hi : IntsAre vs ns) (hl : ns.length ≤ sizeLine) (hr : Room k callerA)
    (F : ∀ base : Heap, K.In base → base.Ns mainGlobals mg → FnG P w K mg base k fa fd [x] sp) (bind : ∀ (s : Shared) (u : Value), BindsTo s fd ⟨[u], []⟩ [(x, u)])
    (hsp : ∀ H : Hp, Only H → SqL K H a (ns.map V.int) → sp [.ref a] H (fun v _ => v = .bl true) fun _ _ _ => False) :
    codeAny (model P w) callerA (.call (.ref fa) ⟨[.ref a], []⟩) (fun r s' => r = .ok (.ret (.bool true)) ∧ OldK t.heap s'.heap ∧ s'.os = t.os ∧ AllBare s'.gens) t := by
  have rvs := vals_ints hi
  have len := hi.length
  have core : ∀ G : Hp, Only G → SqL K G a (ns.map V.int) → HOk P w G t.heap → (∀ b, G b ≠ none → b = a) → (G a ≠ none → K.lookup a = none) →
      codeAny (model P w) callerA (.call (.ref fa) ⟨[.ref a], []⟩) (fun r s' => r = .ok (.ret (.bool true)) ∧ OldK t.heap s'.heap ∧ s'.os = t.os ∧ AllBare s'.gens) t := by
    intro G hO hS hok hA hK
    have at_ : ∀ {b : Addr} {o : Obj}, t.heap.get? b = some o → G b = none → (hidT t.heap G).get? b = some o := fun e n => hidT_get e n
    have only : ∀ {b : Addr}, (b = a → False) → G b = none := fun {b} h => by
      cases q : G b with
      | none => rfl
      | some u => exact (h (hA b (by rw [q]; simp))).elim
    have nsk : ∀ {b : Addr} {m : Str → Option Value}, t.heap.Ns b m → (hidT t.heap G).Ns b m := fun {b m} ⟨o, es, ep, e, d, r⟩ => ⟨o, es, ep, at_ e (only fun z => by
      subst z
      rw [ha] at e
      cases e
      have d2 : Data.seq vs.toArray _ = Data.dict es ep := d
      cases d2), d, r⟩
    have kb : K.In (hidT t.heap G) := fun b o e => at_ (kin b o e) (by
      cases q : G b with
      | none => rfl
      | some u =>
        have z := hA b (by rw [q]; simp)
        subst z
        rw [(hK (by rw [q]; simp))] at e
        cases e)
    have md : Mod K mg (hidT t.heap G) := ⟨kb, nsk hns, ⟨mb, nsk hb, hbb⟩, let ⟨mc, h1, h2⟩ := lim; ⟨mc, nsk h1, h2⟩⟩
    have e0 : Env0 P w K mg (hidT t.heap G) callerA [] t G := ⟨rfl, md, fun b o e => of_hidT e, Nat.le_of_eq (hidT_size _ _), trivial, fun b hb => absurd (show b ∈ ([] : List Addr) from hb) (by simp), hok, .of_eq hg⟩
    refine codeAny_mono ((F _ kb (nsk hns)).run callerA [] t G ⟨[.ref a], []⟩ [.ref a] [.ref a] _ _ hr rfl e0 (bind t (.ref a)) (.cons rfl .nil) (hsp G hO hS)) fun r s' h => ?_
    cases r with
    | error e =>
      obtain ⟨_, _, _, _, _, _, _, _, _, _, _, _, hE⟩ := (show L2.CX P w [] G t (fun _ _ _ => False) e s' from h)
      exact hE.elim
    | ok fl =>
      cases fl with
      | next => exact False.elim h
      | brk => exact False.elim h
      | cont => exact False.elim h
      | ret u =>
        obtain ⟨v, G', os, bare, un, hok2, rv, q⟩ := h
        have q : v = .bl true := q
        subst q
        obtain rfl : u = Value.bool true := rv
        refine (⟨rfl, OldK.of_keep fun b o e => ?_, os, bare⟩)
        cases q : G b with
        | none => exact un.keep b o e q (fun z => absurd (show b ∈ ([] : List Addr) from z) (by simp)) (by simp)
        | some u =>
          rcases (hO b) with z | ⟨ob, xs, z⟩
          · rw [q] at z; cases z
          · obtain ⟨e1, _⟩ := hok b _ z
            obtain ⟨e2, _⟩ := hok2 b _ (un.frzs b ob _ z)
            rw [e] at e1
            cases e1
            exact e2
  cases hk : K.lookup a with
  | some o =>
    have e := kin a o hk
    rw [ha] at e
    cases e
    exact core (fun _ => none) (fun _ => .inl rfl) (.inr ⟨_, vs.toArray, _, hk, rfl, rfl, rfl, by rw [List.size_toArray, len]; exact hl, by simpa using rvs⟩) (fun b u z => by cases (show (none : Option HO) = some u from z)) (fun b z => absurd rfl z) fun z => absurd rfl z
  | none =>
    have pos : ∀ {b : Addr}, b = a → (fun b => if b = a then some (HO.frz { cls := .type "list", data := .seq vs.toArray } (.lst (ns.map V.int))) else none) b = some (HO.frz { cls := .type "list", data := .seq vs.toArray } (.lst (ns.map V.int))) := fun h => if_pos h
    have neg : ∀ {b : Addr}, ¬ b = a → (fun b => if b = a then some (HO.frz { cls := .type "list", data := .seq vs.toArray } (.lst (ns.map V.int))) else none) b = none := fun h => if_neg h
    refine core (fun b => if b = a then some (.frz { cls := .type "list", data := .seq vs.toArray } (.lst (ns.map V.int))) else none) (fun b => ?_) (.inl (.inr ⟨_, pos rfl⟩)) (fun b u z => ?_) (fun b z => ?_) fun _ => hk
    · by_cases h : b = a
      · exact .inr ⟨_, _, pos h⟩
      · exact .inl (neg h)
    · by_cases h : b = a
      · have z2 := (pos h).symm.trans z
        cases z2
        subst h
        exact ⟨ha, by rw [List.length_map]; exact hl, vs, _, rvs, ha⟩
      · have z2 := (neg h).symm.trans z
        cases z2
    · by_cases h : b = a
      · exact h
      · exact absurd (neg h) z
end R

/-! R31: a program's defs keep what callN says. -/
namespace R
open L2 PyProof.Rows PySem.Spec PySem
/-- what must be seen of a def's text -/
def fitB (S : Sg) (sub : Nat → Nat → Bool) (fn : Fn) (st : Stmt) (N ps : List Str) : Bool :=
  (match (defScope st).kind with | .function => true | _ => false) && !(defScope st).isCoroutine && !(defScope st).isGenerator && decide N.Nodup && decide (N.take ps.length = ps) &&
    (ps.all fun x => match (defScope st).names.lookup x with | some .local => true | some .cell => true | _ => false) && ((defScope st).names.all fun y => match y.2 with | .free => false | _ => true) &&
    decide (N.length = fn.n) && decide (ps.length = fn.ps) && isSs S N sub (defScope st) fn.body (defBody st)
theorem fit_of {S : Sg} {sub : Nat → Nat → Bool} {fn : Fn} {st : Stmt} {N ps : List Str} (h : fitB S sub fn st N ps = true) : FnScope N ps (defScope st) ∧ N.length = fn.n ∧ ps.length = fn.ps ∧ isSs S N sub (defScope st) fn.body (defBody st) = true := by
  unfold fitB at h
  simp only [Bool.and_eq_true, decide_eq_true_eq, Bool.not_eq_true', List.all_eq_true] at h
  obtain ⟨⟨⟨⟨⟨⟨⟨⟨⟨h1, h2⟩, h3⟩, h4⟩, h5⟩, h6⟩, h7⟩, h8⟩, h9⟩, h10⟩ := h
  refine ⟨⟨?_, h2, h3, h4, h5, fun x hx => ?_, fun y hy z => ?_⟩, h8, h9, h10⟩
  · split at h1
    · assumption
    · cases h1
  · have q := h6 x hx
    split at q
    · exact .inl (by assumption)
    · exact .inr (by assumption)
    · cases q
  · have q := h7 y hy
    rw [z] at q
    cases q
/-- the i-th def stands at a -/
def Def (K : PySem.W.Frag) (S : Sg) (P : Prog) (i : Nat) (a : Addr) (fd : FuncData) (ps : List Str) : Prop := ∃ (nm qual : Str) (st : Stmt) (N : List Str) (fn : Fn), P.fns[i]? = some fn ∧ FunD K nm qual (defArgs st) (defBody st) (defScope st) [] [] a fd ∧ fitB S P.sub fn st N ps = true ∧ Binds K fd ps []
/-- what the top has written -/
structure TX (Pm : Program) (w : World) (K : PySem.W.Frag) (mg : Str → Option Value) (T : Tb) (S : Sg) (P : Prog) : Prop where
  hK : K = T.K
  bi : ∀ b ∈ biNames, mg b = none
  gcd : S.gcd = true → mg "gcd" = some (.builtin "math.gcd")
  gl : ∀ (g : Nat) (x : Str) (d : D), S.gls[g]? = some x → P.gl[g]? = some d → ∃ u v, mg x = some u ∧ RelV v u ∧ ∀ w, RV T w v d
  fns : ∀ (f : Nat) (x : Str), S.fns[f]? = some x → x ≠ "" → ∃ (a : Addr) (fd : FuncData) (ps : List Str), mg x = some (.ref a) ∧ PySem.W.keepIn K (.ref a) = true ∧ Def K S P f a fd ps
  ins : ∀ (c : Nat) (C : Addr) (nms : List Str), T.ins c = some (C, nms) → InsOk T.K C ∧ (∃ x, S.cls[c]? = some (x, nms) ∧ mg x = some (.ref C)) ∧ nms.Nodup ∧ ∀ f ∈ nms, NoAttr T.K C f
  insAll : ∀ c ∈ S.ins, ∃ C nms, T.ins c = some (C, nms)
  mkC : ∀ (c : Nat) (C : Addr) (nms : List Str), T.ins c = some (C, nms) → ∃ (fI : Addr) (fd : FuncData) (ps : List Str), Mk K C fI ∧ (∀ base : Heap, FnG Pm w K mg base 1 fI fd ps (spI C nms)) ∧ Binds K fd ps []
  eqF : ∀ (c f : Nat) (C : Addr) (nms : List Str), P.eqf c = some f → T.ins c = some (C, nms) → ∃ (a : Addr) (fd : FuncData) (ps : List Str), PySem.W.findIn K (.ref C) "__eq__" = some (some (.ref a)) ∧ PySem.W.isFn K (.ref a) = true ∧ Def K S P f a fd ps ∧ PySem.W.notFirst K C (.type "tuple") = true
  ins2 : ∀ (c c' : Nat) (C C' : Addr) (nms nms' : List Str), c ≠ c' → T.ins c = some (C, nms) → T.ins c' = some (C', nms') → PySem.W.kitOne T.K (.ref C) (.ref C') = some false
  exn : ∀ c ∈ S.exs, ∀ x nms, S.cls[c]? = some (x, nms) → nms ≠ [] → ∃ C, T.exc c = some (C, nms)
  exc : ∀ (c : Nat) (C : Addr) (nms : List Str), T.exc c = some (C, nms) → ∃ x f, nms = [f] ∧ S.cls[c]? = some (x, [f]) ∧ c ∈ S.exs ∧ mg x = some (.ref C) ∧ OexC K C ∧ PySem.W.findIn K (.ref C) f = some none ∧
    PySem.W.findIn K (.ref C) "__getattribute__" = some (some (.builtin "BaseException.__getattribute__")) ∧ PySem.W.findIn K (.ref C) "__getattr__" = some none ∧ PySem.W.hasDictIn K C = true ∧
    ∃ (fI : Addr) (fd : FuncData) (ps : List Str), PySem.W.findIn K (.ref C) "__init__" = some (some (.ref fI)) ∧ PySem.W.typeIn K (.ref fI) = some (.type "function") ∧ (∀ base : Heap, FnOk Pm w K mg base (L2.CX Pm w) 1 fI fd ps (spX C f)) ∧ Binds K fd ps []
  han : ∀ c' ∈ S.exs, ∃ C' x nms', S.cls[c']? = some (x, nms') ∧ mg x = some (.ref C') ∧ ∀ (c : Nat) (C : Addr) (nms : List Str), T.exc c = some (C, nms) → PySem.W.exmOne K (.ref C) (.ref C') = some (P.sub c c')
theorem prog_ok {Pm : Program} {w : World} {K : PySem.W.Frag} {mg : Str → Option Value} {base : Heap} {T : Tb} {S : Sg} {P : Prog} (t : TX Pm w K mg T S P) : ∀ (n i : Nat) (a : Addr) (fd : FuncData) (ps : List Str), Def K S P i a fd ps → FnG Pm w K mg base (n + 2) a fd ps (spD T (callN P n) i)
  | 0, i, a, fd, ps, _ => ⟨fun vs H Q E h => by obtain ⟨w, κ, ds, _, _, p⟩ := h; exact p.elim, fun A outer s H args us vs Q E _ _ _ _ _ h => by obtain ⟨w, κ, ds, _, _, p⟩ := h; exact p.elim⟩
  | n + 1, i, a, fd, ps, df => by
    have IH := prog_ok (base := base) t n
    obtain ⟨nm, qual, st, N, fn, ei, F, fit, hb⟩ := df
    obtain ⟨sc, hn, hps, hss⟩ := fit_of fit
    obtain ⟨oc, od, dV, kV, doc, pm, an, cdv, ct, osl, rfl, lk, hcd, _, _⟩ := (F.ex)
    have un : ∀ ds κ, callN P (n + 1) i ds κ = if ds.length = fn.ps then (exec ⟨P.gl, [], callN P n, P.fuel, P.sub, P.eqf⟩ fn.body (startS fn ds) κ).out else .bad := fun ds κ => by
      simp only [callN, ei]
    refine fnG_of (N := N) lk hcd sc (fun vs H Q E h => ?_) fun A outer s H vs Q E gd room h => ?_
    · obtain ⟨w', κ, ds, hv, hw, p⟩ := h
      rw [un] at p
      by_cases hl : ds.length = fn.ps
      · rw [hv.length, hl, hps]
      · rw [if_neg hl] at p; exact p.elim
    · obtain ⟨w', κ, ds, hv, hw, p⟩ := h
      rw [un] at p
      by_cases hl : ds.length = fn.ps
      · rw [if_pos hl] at p
        refine ⟨_, (stmts_ok (T := T) (Γ := ⟨P.gl, [], callN P n, P.fuel, P.sub, P.eqf⟩) (S := S) (N := N) (n := n + 2) (sc := defScope st) fn.body).2 _ (fun cls d _ H' => E cls d H') (defBody st) ?_ (takes_of rfl rfl rfl rfl) hss, body_sem hw hv hn p⟩
        exact {
          hK := t.hK
          hN := rfl
          nd := sc.nd
          hsc := rfl
          calm := rfl
          gd := gd
          room := room
          lv := by omega
          bi := t.bi
          gcd := t.gcd
          gl := t.gl
          call := fun f x h1 h2 => by
            obtain ⟨a', fd', ps', h3, h4, h5⟩ := t.fns f x h1 h2
            exact ⟨a', fd', ps', h3, h4, IH f a' fd' ps' h5, h5.choose_spec.choose_spec.choose_spec.choose_spec.choose_spec.2.2.2⟩
          ins := t.ins
          insAll := t.insAll
          mkC := fun c C nms h => by
            obtain ⟨fI, fd', ps', h1, h2, h3⟩ := t.mkC c C nms h
            exact ⟨fI, fd', ps', h1, h2 base, h3⟩
          eqF := fun c f C nms h1 h2 => by
            obtain ⟨a', fd', ps', h3, h4, h5, h6⟩ := t.eqF c f C nms h1 h2
            exact ⟨a', fd', ps', h3, h4, IH f a' fd' ps' h5, h5.choose_spec.choose_spec.choose_spec.choose_spec.choose_spec.2.2.2, h6⟩
          ins2 := t.ins2
          fn := fun _ _ => rfl
          kind := sc.kind
          own := passes_of rfl
          stk := rfl
          frm := rfl
          exn := t.exn
          exc := fun c C nms h => by
            obtain ⟨x, f, h1, h2, h3, h4, h5, h6, h7, h8, h9, fI, fd', ps', h10, h11, h12, h13⟩ := t.exc c C nms h
            exact ⟨x, f, h1, h2, h3, h4, ⟨h5, h6, h7, h8, h9, fI, fd', ps', h10, h11, h12 base, h13⟩⟩
          han := t.han }
      · rw [if_neg hl] at p; exact p.elim
end R

/-! R32: the starts of classes. -/
namespace R
open L2 PyProof.Rows PySem.Spec PySem
/-- self.f = f, alone -/
def initB (st : Stmt) (s y f : Str) : Bool := (match defBody st with
  | [.Assign [.Attribute (.Name s' _) f' _] (.Name y' _) _] => decide (s' = s) && decide (y' = y) && decide (f' = f)
  | _ => false) && (match (defScope st).names.lookup s with | some .local => true | _ => false) && (match (defScope st).names.lookup y with | some .local => true | _ => false) &&
  notDbg s && notDbg y && (match (defScope st).kind with | .function => true | _ => false) && !(defScope st).isCoroutine && !(defScope st).isGenerator && decide (s ≠ y) && ((defScope st).names.all fun y => match y.2 with | .free => false | _ => true)
theorem initB_of {st : Stmt} {s y f : Str} (h : initB st s y f = true) : (∃ p1 p2 p3 p4, defBody st = [.Assign [.Attribute (.Name s p1) f p2] (.Name y p3) p4]) ∧ (defScope st).names.lookup s = some .local ∧ (defScope st).names.lookup y = some .local ∧ notDbg s = true ∧ notDbg y = true ∧ FnScope [s, y] [s, y] (defScope st) := by
  unfold initB at h
  simp only [Bool.and_eq_true, decide_eq_true_eq, Bool.not_eq_true', List.all_eq_true] at h
  obtain ⟨⟨⟨⟨⟨⟨⟨⟨⟨h1, h2⟩, h3⟩, h4⟩, h5⟩, h6⟩, h7⟩, h8⟩, h9⟩, h10⟩ := h
  have l1 : (defScope st).names.lookup s = some .local := by
    cases e : (defScope st).names.lookup s with
    | none => (rw [e] at h2; cases h2)
    | some k => rw [e] at h2; cases k <;> first | rfl | cases h2
  have l2 : (defScope st).names.lookup y = some .local := by
    cases e : (defScope st).names.lookup y with
    | none => rw [e] at h3; cases h3
    | some k => rw [e] at h3; cases k <;> first | rfl | cases h3
  refine ⟨?_, l1, l2, h4, h5, ⟨?_, h7, h8, by simp [h9], rfl, fun x hx => ?_, fun z hz q => ?_⟩⟩
  · split at h1
    · rename_i s' p1 f' p2 y' p3 p4 e
      simp only [decide_eq_true_eq, Bool.and_eq_true] at h1
      obtain ⟨⟨rfl, rfl⟩, rfl⟩ := h1
      exact ⟨p1, p2, p3, p4, e⟩
    · cases h1
  · cases e : (defScope st).kind <;> rw [e] at h6 <;> first | rfl | cases h6
  · simp only [List.mem_cons, List.not_mem_nil, or_false] at hx
    rcases hx with rfl | rfl
    · exact .inl l1
    · exact .inl l2
  · have q2 := h10 z hz
    rw [q] at q2
    cases q2
section
variable {P : Program} {w : World} {K : PySem.W.Frag} {mg : Str → Option Value} {base : Heap} {nm qual : Str} {st : Stmt} {a C : Addr} {fd : FuncData} {s y f : Str}
theorem initX_ok (F : FunD K nm qual (defArgs st) (defBody st) (defScope st) [] [] a fd) (hb : initB st s y f = true) (ok : OexC K C) (no : PySem.W.findIn K (.ref C) f = some none) : FnOk P w K mg base (L2.CX P w) 1 a fd [s, y] (spX C f) := by
  obtain ⟨⟨p1, p2, p3, p4, eb⟩, l1, l2, d1, d2, sc⟩ := initB_of hb
  refine F.ok sc (fun vs H Q E h => by obtain ⟨a', y', rfl, _⟩ := h; rfl) fun cdv A outer t H vs Q E hr h => ?_
  obtain ⟨e, v, rfl, he, hq⟩ := h
  have d1 := dbg_of d1
  have d2 := dbg_of d2
  rw [eb]
  refine ⟨_, pss_one (ps_ost (pe_var (i := 0) rfl (.inl l1) d1.1 d1.2.1) (pe_var (i := 1) rfl (.inl l2) d2.1 d2.2.1) rfl), v, rfl, .ref e, rfl, e, C, rfl, ok, no, .inl ⟨he, fun dx hd ne => hq dx hd ne⟩⟩
theorem initI_ok (F : FunD K nm qual (defArgs st) (defBody st) (defScope st) [] [] a fd) (hb : initB st s y f = true) (ok : Cls K C) (no : NoAttr K C f) : FnG P w K mg base 1 a fd [s, y] (spI C [f]) := by
  obtain ⟨⟨p1, p2, p3, p4, eb⟩, l1, l2, d1, d2, sc⟩ := initB_of hb
  have len : ∀ vs H Q E, spI C [f] vs H Q E → vs.length = [s, y].length := fun vs H Q E h => by obtain ⟨x, dx, us, rfl, hl, _⟩ := h; simp at hl ⊢; exact hl
  have G : FnOk P w K mg base (L2.CX P w) 1 a fd [s, y] (spI C [f]) := by
    refine F.ok sc len fun cdv A outer t H vs Q E hr h => ?_
    obtain ⟨x, dx, us, rfl, hl, hx, ne, hq⟩ := h
    have d1 := dbg_of d1
    have d2 := dbg_of d2
    rw [eb]
    match us, hl with
    | [v], _ =>
    refine ⟨_, pss_one (ps_fld (pe_var (i := 0) rfl (.inl l1) d1.1 d1.2.1) (pe_var (i := 1) rfl (.inl l2) d2.1 d2.2.1) rfl), v, rfl, .ref x, rfl, x, C, dx, [], rfl, hx, ok, no, by simp, hq⟩
  exact ⟨len, fun A outer t H args us vs Q E hr _ e0 hb2 hv h => G.run A outer t H args us vs Q E hr e0 hb2 hv h⟩
end
end R

/-! R33: further facts of the head. -/
namespace R
open PySem PySem.Spec PyProof.Rows L2 He
/-- the class at C is an exception's, its start its own -/
def oexIn (K : PySem.W.Frag) (C : Addr) : Bool := match K.lookup C with
  | some ⟨.type "type", _, .cls cd, slt⟩ => (match cd.mro, slt.toList with
    | .ref Cx :: bm, [_, _, _, _, some (.builtin nn), _] => decide (Cx = C) && (decide (nn = "ValueError.__new__") && (!cd.hasDel && (cd.hasDict && PySem.HandSPX.refsVE bm)))
    | _, _ => false)
  | _ => false
theorem oexIn_ok {K : PySem.W.Frag} {C : Addr} (q : oexIn K C = true) : ∃ nm qn N bs bm sn sub ab col dd k0 k1 k2 k3 k5, K.lookup C = some (excClassObj nm qn C N bs bm true sn sub ab col dd k0 k1 k2 k3 k5 "ValueError.__new__") ∧ PySem.HandSPX.refsVE bm = true := by
  unfold oexIn at q
  split at q
  · rename_i dd cd sl ho
    split at q
    · rename_i Cx bm k0 k1 k2 k3 nn k5 hm hs
      simp only [Bool.and_eq_true, decide_eq_true_eq, Bool.not_eq_true'] at q
      obtain ⟨rfl, rfl, h1, h2, h3⟩ := q
      obtain ⟨nm, bs, mro, ns, qn, hd, sn, sub, ab, col, del⟩ := (cd)
      dsimp only at hm h1 h2
      subst hm h1 h2
      have e : sl = #[k0, k1, k2, k3, some (.builtin "ValueError.__new__"), k5] := by
        obtain ⟨l⟩ := sl
        simp only at hs
        rw [hs]
      subst e
      exact ⟨nm, qn, ns, bs, bm, sn, sub, ab, col, dd, k0, k1, k2, k3, k5, ho, h3⟩
    · cases q
  · cases q
/-- ins x: an instance's facts of the class x; two x y: x is not y's; nf x: x's == comes first against a tuple; exg x f: an exception's field is read plainly; oex x: an exception's class with a start of its own -/
inductive Fx where
  | ins (x : Str) | two (x y : Str) | nf (x : Str) | exg (x f : Str) | oex (x : Str) | gcd
def Fx.ok (K : PySem.W.Frag) : Fx → Bool
  | .ins x => decide (PySem.W.findIn K (.ref (ga K x)) "__class__" = some (some (.builtin "object.__class__"))) && decide (PySem.W.specialIn K (.builtin "object.__class__") "__get__" = some (some (.builtin "getset_descriptor.__get__"))) &&
      decide (PySem.W.takesIn K (.builtin "object.__class__") = some true) && decide (PySem.W.mroIn K (ga K x) (.type "object") = some true) && decide (PySem.W.kitOne K (.ref (ga K x)) (.ref (ga K x)) = some true) &&
      ((["int", "bool", "str", "tuple", "list"] : List String).all fun n => decide (PySem.W.kitOne K (.ref (ga K x)) (.type n) = some false)) && ((["NoneType", "int", "bool", "str", "tuple", "list"] : List String).all fun n => decide (PySem.W.kitOne K (.type n) (.ref (ga K x)) = some false))
  | .two x y => decide (PySem.W.kitOne K (.ref (ga K x)) (.ref (ga K y)) = some false)
  | .nf x => PySem.W.notFirst K (ga K x) (.type "tuple")
  | .exg x f => decide (PySem.W.findIn K (.ref (ga K x)) f = some none) && decide (PySem.W.findIn K (.ref (ga K x)) "__getattribute__" = some (some (.builtin "BaseException.__getattribute__"))) && decide (PySem.W.findIn K (.ref (ga K x)) "__getattr__" = some none) &&
      PySem.W.hasDictIn K (ga K x) && decide (PySem.W.findIn K (.ref (ga K x)) "__setattr__" = some (some (.builtin "object.__setattr__"))) && decide (PySem.W.findIn K (.ref (ga K x)) "__init__" = some (some (.ref (ma K (ga K x) "__init__")))) && decide (PySem.W.typeIn K (.ref (ma K (ga K x) "__init__")) = some (.type "function"))
  | .oex x => oexIn K (ga K x) && (decide (PySem.W.findIn K (.ref (ga K x)) "__setattr__" = some (some (.builtin "object.__setattr__"))) && (decide (PySem.W.subIn K (.ref (ga K x)) (.type "BaseException") = some true) &&
      (decide (PySem.W.typeIn K (.ref (ga K x)) = some (.type "type")) && PySem.W.keepIn K (.ref (ga K x)))))
  | .gcd => decide (PySem.W.nsIn K mainGlobals "gcd" = some (some (.builtin "math.gcd")))
theorem gcd_ok {K : PySem.W.Frag} {h : Heap} {mg : Str → Option Value} (X : K.In h) (G : h.Ns mainGlobals mg) (c : Fx.gcd.ok K = true) : mg "gcd" = some (.builtin "math.gcd") := PySem.W.mg_of X G (of_decide_eq_true c)
theorem two_ok {K : PySem.W.Frag} {x y : Str} (c : (Fx.two x y).ok K = true) : PySem.W.kitOne K (.ref (ga K x)) (.ref (ga K y)) = some false := of_decide_eq_true c
theorem exg_ok {K : PySem.W.Frag} {x f : Str} (c : (Fx.exg x f).ok K = true) : PySem.W.findIn K (.ref (ga K x)) f = some none ∧ PySem.W.findIn K (.ref (ga K x)) "__getattribute__" = some (some (.builtin "BaseException.__getattribute__")) ∧ PySem.W.findIn K (.ref (ga K x)) "__getattr__" = some none ∧
    PySem.W.hasDictIn K (ga K x) = true ∧ PySem.W.findIn K (.ref (ga K x)) "__setattr__" = some (some (.builtin "object.__setattr__")) ∧ PySem.W.findIn K (.ref (ga K x)) "__init__" = some (some (.ref (ma K (ga K x) "__init__"))) ∧ PySem.W.typeIn K (.ref (ma K (ga K x) "__init__")) = some (.type "function") := by
  simp only [Fx.ok, Bool.and_eq_true, decide_eq_true_eq] at c
  obtain ⟨⟨⟨⟨⟨⟨c1, c2⟩, c3⟩, c4⟩, c5⟩, c6⟩, c7⟩ := c
  exact ⟨c1, c2, c3, c4, c5, c6, c7⟩
theorem oex_ok {K : PySem.W.Frag} {x : Str} (c : (Fx.oex x).ok K = true) : OexC K (ga K x) := by
  simp only [Fx.ok, Bool.and_eq_true, decide_eq_true_eq] at c
  obtain ⟨c1, c2, c3, c4, c5⟩ := c
  exact ⟨oexIn_ok c1, c2, c3, c4, c5⟩
theorem ins_ok {K : PySem.W.Frag} {x : Str} (cl : Cls K (ga K x)) (c : (Fx.ins x).ok K = true) : InsOk K (ga K x) := by
  simp only [Fx.ok, Bool.and_eq_true, decide_eq_true_eq, List.all_eq_true] at c
  obtain ⟨⟨⟨⟨⟨⟨c1, c2⟩, c3⟩, c4⟩, c5⟩, c6⟩, c7⟩ := c
  exact ⟨cl, c1, c2, c3, c4, fun n hn => c6 n hn, c5, fun n hn => c7 n hn⟩
def obsX (n : Nat) (fa : List Fa) (fn : List DefD) (fx : List Fx) (g : Addr → Option Obj) : AlD × Bool := (obsD fa fn (frG g (asD g n)), fx.all fun f => f.ok (frG g (asD g n)))
def hookX (n : Nat) (fa : List Fa) (fn : List DefD) (fx : List Fx) : PySem.W.Hook where
  α := AlD × Bool
  obs := fun s => obsX n fa fn fx s.heap.get?
  val := fun _ => (valD fn, true)
  says := fun _ h => ∃ K : PySem.W.Frag, K.In h ∧ SaysD fa fn K ∧ (fx.all fun f => f.ok K) = true
  of := fun _ _ e => ⟨_, frG_in, congrArg (fun z : AlD × Bool => z.1) e, congrArg (fun z : AlD × Bool => z.2) e⟩
  keeps := (fun _ _ _ ⟨K, hK, c⟩ k => ⟨K, PySem.W.Frag.In.keeps hK k, c⟩)
theorem obsX_eq {n : Nat} {fa : List Fa} {fn : List DefD} {fx : List Fx} {g : Addr → Option Obj} {s : Shared} (h : ∀ a, g a = s.heap.get? a) : obsX n fa fn fx g = (hookX n fa fn fx).obs s := by
  have e : g = s.heap.get? := (funext h)
  rw [e]
  rfl
end R

/-! R34: the law's end. -/
namespace R
open L2 PyProof.Rows PySem.Spec PySem
theorem walk_G {l : PySem.W.OpenLaw} {n k : Nat} {q : Program} {loose : List Str} {XP : (Str → Option Value) → Heap → Prop} {YP : World → Heap → Prop} {dr : DefRec} {x : Str}
    (hn : l.most = some n) (hn2 : n ≤ sizeLine) (hdf : dr.params.defaults = []) (room : Room k callerA)
    (F : ∀ (w : World) (mg : Str → Option Value) (at_ : Addr) (h : Heap), YP w h → h.Ns mainGlobals mg → mg dr.name = some (.ref at_) →
      ∃ (K : PySem.W.Frag) (fd : FuncData) (sp : Sp), K.In h ∧ (∀ (sh : Shared) (u : Value), BindsTo sh fd ⟨[u], []⟩ [(x, u)]) ∧
        (∀ (H : Hp) (a : Addr) (is : List Int), is.length ≤ n → Only H → SqL K H a (is.map V.int) → sp [.ref a] H (fun v _ => v = .bl true) fun _ _ _ => False) ∧
        ∀ base : Heap, K.In base → base.Ns mainGlobals mg → FnG l.prog w K mg base k at_ fd [x] sp) :
    PySem.W.WalkO q loose XP YP l.row.toRowW dr [] (fun f vs => PySem.call f vs) := by
  refine Att.attach_call hn hdf fun w s₀ t mg mb at_ o pm cd doc a vs is Gr Y ho hd hcd hmg hobj hints hlen hg => ?_
  obtain ⟨K, fd, sp, kin, hb, hsp, hF⟩ := F w mg at_ _ Y Gr.T.g hmg
  exact law_callG kin Gr.T.g Gr.T.b Gr.T.builtins Gr.T.nolimit hg hobj hints (Nat.le_trans hlen hn2) room hF hb fun H hO hS => hsp H a is hlen hO hS
theorem sp_start {T : Tb} {P : Prog} {n f : Nat} {H : Hp} {a : Addr} {is : List Int} (hS : SqL T.K H a (is.map V.int)) (h : ∃ κ, callN P n f [.scr (is.map .int)] [] = .ok (.bl true, κ)) :
    spD T (callN P n) f [.ref a] H (fun v _ => v = .bl true) fun _ _ _ => False := by
  obtain ⟨κ, e⟩ := h
  refine ⟨⟨H, []⟩, [], [.scr (is.map .int)], .cons (.scr hS (RVs.ints is)) .nil, ⟨Same.refl _, by simp, by simp, rfl, by simp⟩, ?_⟩
  rw [e]
  intro w' H' _ _ v hv
  cases hv
  rfl
end R

/-! M0: the plain sums behind k38. -/
namespace R
structure Row where
  fs : List Int
  st : Bool
  num : Int
/-- the numbers c 0, c 1, ... -/
def Sq (many : Nat) (c : Nat → Int) : List Int := (List.range many).map c
def Row.at_ (r : Row) (k : Nat) : Int := r.fs[k]?.getD 0
theorem sq_of {many : Nat} {fs : List Int} (h : fs.length = many) : fs = Sq many (fun k => fs[k]?.getD 0) := by
  apply List.ext_getElem?
  intro k
  by_cases hk : k < many
  · have : k < fs.length := by omega
    simp [Sq, hk, this]
  · have : ¬ k < fs.length := by omega
    simp [Sq, hk, this]
theorem sq_len (many : Nat) (c : Nat → Int) : (Sq many c).length = many := by simp [Sq]
theorem sq_get {many k : Nat} (c : Nat → Int) (h : k < many) : (Sq many c)[k]? = some (c k) := by simp [Sq, h]
theorem sq_eq {many : Nat} {c d : Nat → Int} (h : ∀ k, k < many → c k = d k) : Sq many c = Sq many d := by
  apply List.map_congr_left
  intro k hk
  exact h k (List.mem_range.mp hk)
theorem sq_zero (many : Nat) : List.replicate many (0 : Int) = Sq many (fun _ => 0) := by
  simp [Sq, List.map_const']
theorem sq_set {many j : Nat} (c d : Nat → Int) (h : j < many) :
    (Sq many (fun k => if k < j then d k else c k)).set j (d j) = Sq many (fun k => if k < j + 1 then d k else c k) := by
  apply List.ext_getElem?
  intro k
  by_cases hk : k < many
  · rw [List.getElem?_set]
    by_cases hj : j = k
    · subst hj; rw [if_pos rfl, if_pos (by rw [sq_len]; exact hk), sq_get _ hk, if_pos (by omega)]
    · rw [if_neg hj, sq_get _ hk, sq_get _ hk]
      by_cases h1 : k < j
      · rw [if_pos h1, if_pos (by omega)]
      · rw [if_neg h1, if_neg (by omega)]
  · rw [List.getElem?_eq_none (by simp [sq_len]; omega), List.getElem?_eq_none (by simp [sq_len]; omega)]
/-- sums along rows -/
def colS (k : Nat) (prs : List (Row × Int)) : Int := (prs.map fun p => p.2 * p.1.at_ k).sum
def numS (prs : List (Row × Int)) : Int := (prs.map fun p => p.2 * p.1.num).sum
def strS (prs : List (Row × Int)) : Bool := prs.any fun p => decide (0 < p.2) && p.1.st
def refB (many : Nat) (prs : List (Row × Int)) : Bool :=
  (List.range many).all (fun k => colS k prs == 0) && (decide (0 < numS prs) || (numS prs == 0 && strS prs))
theorem sum_perm {xs ys : List Int} (h : List.Perm xs ys) : xs.sum = ys.sum := by
  induction h with
  | nil => rfl
  | cons x _ ih => simp [ih]
  | swap x y l => simp; omega
  | trans _ _ h1 h2 => rw [h1, h2]
theorem any_perm {α : Type} {f : α → Bool} {xs ys : List α} (h : List.Perm xs ys) : xs.any f = ys.any f := by
  induction h with
  | nil => rfl
  | cons x _ ih => simp [ih]
  | swap x y l => simp [← Bool.or_assoc, Bool.or_comm]
  | trans _ _ h1 h2 => rw [h1, h2]
theorem refB_perm (many : Nat) {xs ys : List (Row × Int)} (h : List.Perm xs ys) : refB many xs = refB many ys := by
  have h1 : ∀ k, colS k xs = colS k ys := fun k => sum_perm (h.map _)
  have h2 : numS xs = numS ys := sum_perm (h.map _)
  have h3 : strS xs = strS ys := any_perm h
  simp only [refB, h1, h2, h3]
theorem colS_app (k : Nat) (xs : List (Row × Int)) (p : Row × Int) : colS k (xs ++ [p]) = colS k xs + p.2 * p.1.at_ k := by
  simp [colS]
theorem numS_app (xs : List (Row × Int)) (p : Row × Int) : numS (xs ++ [p]) = numS xs + p.2 * p.1.num := by
  simp [numS]
theorem strS_app (xs : List (Row × Int)) (p : Row × Int) : strS (xs ++ [p]) = (strS xs || (decide (0 < p.2) && p.1.st)) := by
  simp [strS]
theorem euc_half {a b : Nat} (hb : 0 < b) (hab : b ≤ a) : b * (a % b) * 2 ≤ a * b := by
  have h1 := Nat.mod_add_div a b
  have h2 : 1 ≤ a / b := (Nat.one_le_div_iff hb).mpr hab
  have h3 := Nat.mod_lt a hb
  have h4 : b ≤ b * (a / b) := Nat.le_mul_of_pos_right b (by omega)
  have h5 : a % b * 2 ≤ a := by omega
  calc b * (a % b) * 2 = b * (a % b * 2) := by rw [Nat.mul_assoc]
    _ ≤ b * a := Nat.mul_le_mul_left b h5
    _ = a * b := Nat.mul_comm b a
/-- a fraction in lowest terms, for a bottom above 0 -/
def frF (a b : Int) : Int × Int := (a.fdiv (Nat.gcd a.natAbs b.natAbs : Nat), b.fdiv (Nat.gcd a.natAbs b.natAbs : Nat))
theorem gcd_pos_of {a b : Int} (hb : 0 < b) : 0 < Nat.gcd a.natAbs b.natAbs := Nat.gcd_pos_of_pos_right _ (by omega)
theorem frF_bot {a b : Int} (hb : 0 < b) : 0 < (frF a b).2 := by
  have hg := gcd_pos_of (a := a) hb
  have hd : ((Nat.gcd a.natAbs b.natAbs : Nat) : Int) ∣ b := Int.ofNat_dvd_left.mpr (Nat.gcd_dvd_right _ _)
  obtain ⟨c, hc⟩ := hd
  have hg' : (0 : Int) < (Nat.gcd a.natAbs b.natAbs : Nat) := by omega
  show 0 < b.fdiv _
  have : b.fdiv ((Nat.gcd a.natAbs b.natAbs : Nat) : Int) = c := by
    rw [Int.fdiv_eq_ediv_of_nonneg _ (by omega)]
    conv => lhs; arg 1; rw [hc]
    exact Int.mul_ediv_cancel_left c (by omega)
  rw [this]
  by_cases h0 : 0 < c
  · exact h0
  · exfalso
    have : ((Nat.gcd a.natAbs b.natAbs : Nat) : Int) * c ≤ 0 := Int.mul_nonpos_of_nonneg_of_nonpos (by omega) (by omega)
    omega
theorem frF_gcd {a b : Int} (hb : 0 < b) : Nat.gcd (frF a b).1.natAbs (frF a b).2.natAbs = 1 := by
  have hg := gcd_pos_of (a := a) hb
  have e1 : (frF a b).1.natAbs = a.natAbs / Nat.gcd a.natAbs b.natAbs := by
    show (a.fdiv _).natAbs = _
    rw [Int.fdiv_eq_ediv_of_nonneg _ (by omega), Int.natAbs_ediv_of_dvd (Int.ofNat_dvd_left.mpr (Nat.gcd_dvd_left _ _))]
    simp
  have e2 : (frF a b).2.natAbs = b.natAbs / Nat.gcd a.natAbs b.natAbs := by
    show (b.fdiv _).natAbs = _
    rw [Int.fdiv_eq_ediv_of_nonneg _ (by omega), Int.natAbs_ediv_of_dvd (Int.ofNat_dvd_left.mpr (Nat.gcd_dvd_right _ _))]
    simp
  rw [e1, e2, Nat.gcd_div (Nat.gcd_dvd_left _ _) (Nat.gcd_dvd_right _ _), Nat.div_self hg]
theorem fdiv_abs (a : Int) (g : Nat) : (a.fdiv (g : Int)).natAbs ≤ a.natAbs := by
  rw [Int.fdiv_eq_ediv_of_nonneg _ (by omega)]
  exact Int.natAbs_ediv_le_natAbs a g
theorem frF_abs1 (a b : Int) : (frF a b).1.natAbs ≤ a.natAbs := fdiv_abs a _
theorem frF_abs2 (a b : Int) : (frF a b).2.natAbs ≤ b.natAbs := fdiv_abs b _
end R

/-! M1: how the evaluator is simplified, and what its loops keep. -/
namespace R
open PySem L2

/-- a mark by which what stands behind is left alone till its turn -/
structure Tk {A : Type} (f : A) : Type where
theorem mbind_ok {α β : Type} (a : α) (f : α → Out β) : Out.bind (.ok a) f = f a := rfl
def bd {α β : Type} (f : α → Out β) (t : Tk f) (m : Out α) : Out β := m.bind f
@[simp ↓] theorem bind_bd {α β : Type} (m : Out α) (f : α → Out β) : Out.bind m f = bd f ⟨⟩ m := rfl
@[simp] theorem bd_ok {α β : Type} (a : α) (f : α → Out β) (t : Tk f) : bd f t (.ok a) = f a := rfl
@[simp] theorem bd_exc {α β : Type} (c : Nat) (fs : List D) (k : Cells) (f : α → Out β) (t : Tk f) : bd f t (.exc c fs k) = .exc c fs k := rfl
@[simp] theorem opt_some' {α : Type} (a : α) : opt (some a) = .ok a := rfl
def exEd {α : Type} (f : α → Res) (t : Tk f) (o : Out α) (σ : Sl) : Res := exE o σ f
@[simp ↓] theorem exE_d {α : Type} (o : Out α) (σ : Sl) (f : α → Res) : exE o σ f = exEd f ⟨⟩ o σ := rfl
@[simp] theorem exE_ok' {α : Type} (a : α) (σ : Sl) (f : α → Res) (t : Tk f) : exEd f t (.ok a) σ = f a := rfl
@[simp] theorem exE_exc' {α : Type} (c : Nat) (fs : List D) (k : Cells) (σ : Sl) (f : α → Res) (t : Tk f) : exEd f t (.exc c fs k) σ = .xc c fs σ k := rfl
def exOd {α : Type} (f : α → Res) (t : Tk f) (o : Option α) : Res := exO o f
@[simp ↓] theorem exO_d {α : Type} (o : Option α) (f : α → Res) : exO o f = exOd f ⟨⟩ o := rfl
@[simp] theorem exO_some' {α : Type} (a : α) (f : α → Res) (t : Tk f) : exOd f t (some a) = f a := rfl
/-- the rest of a block -/
def Res.then (f : Sl → Cells → Res) (t : Tk f) (r : Res) : Res := match r with
  | .nx σ κ => f σ κ
  | r => r
@[simp] theorem then_nx (σ : Sl) (κ : Cells) (f : Sl → Cells → Res) (t : Tk f) : Res.then f t (.nx σ κ) = f σ κ := rfl
@[simp] theorem then_rt (d : D) (κ : Cells) (f : Sl → Cells → Res) (t : Tk f) : Res.then f t (.rt d κ) = .rt d κ := rfl
@[simp] theorem then_bk (σ : Sl) (κ : Cells) (f : Sl → Cells → Res) (t : Tk f) : Res.then f t (.bk σ κ) = .bk σ κ := rfl
@[simp] theorem then_xc (c : Nat) (fs : List D) (σ : Sl) (κ : Cells) (f : Sl → Cells → Res) (t : Tk f) : Res.then f t (.xc c fs σ κ) = .xc c fs σ κ := rfl
/-- loops, left alone -/
def forD (step : D → Sl → Cells → Res) (t : Tk step) (xs : List D) (σ : Sl) (κ : Cells) : Res := forLoop step xs σ κ
@[simp ↓] theorem for_d (step : D → Sl → Cells → Res) (xs : List D) (σ : Sl) (κ : Cells) : forLoop step xs σ κ = forD step ⟨⟩ xs σ κ := rfl
def compD (step : D → Cells → Out (List D × Cells)) (t : Tk step) (xs : List D) (κ : Cells) : Out (List D × Cells) := compLoop step xs κ
@[simp ↓] theorem comp_d (step : D → Cells → Out (List D × Cells)) (xs : List D) (κ : Cells) : compLoop step xs κ = compD step ⟨⟩ xs κ := rfl
@[simp] theorem exec_cons (Γ : Cxt) (s t : S) (σ : Sl) (κ : Cells) : exec Γ (.cons s t) σ κ = Res.then (fun σ κ => exec Γ t σ κ) ⟨⟩ (exec Γ s σ κ) := by
  rw [exec]
  cases exec Γ s σ κ <;> rfl
@[simp] theorem out_nx (σ : Sl) (κ : Cells) : Res.out (.nx σ κ) = .ok (.non, κ) := rfl
@[simp] theorem out_rt (d : D) (κ : Cells) : Res.out (.rt d κ) = .ok (d, κ) := rfl
@[simp] theorem out_xc (c : Nat) (fs : List D) (σ : Sl) (κ : Cells) : Res.out (.xc c fs σ κ) = .exc c fs κ := rfl
@[simp] theorem d_fz (x : D) : O.d (.fz x) = x := rfl
@[simp] theorem d_ol (b : Option Nat) (xs : List D) : O.d (.ol b xs) = .lst xs := rfl
@[simp] theorem frz_fz (x : D) : O.frz (.fz x) = some x := rfl
@[simp] theorem frz_ol (xs : List D) : O.frz (.ol none xs) = some (.lst xs) := rfl
@[simp] theorem read_fz (i : Nat) (x : D) : O.read i (.fz x) = .fz x := rfl
@[simp] theorem read_ol (i : Nat) (b : Option Nat) (xs : List D) : O.read i (.ol b xs) = .ol (some i) xs := rfl
@[simp] theorem bor_fz (x : D) : O.bor (.fz x) = [] := rfl
@[simp] theorem bor_oln (xs : List D) : O.bor (.ol none xs) = [] := rfl
@[simp] theorem bor_ols (i : Nat) (xs : List D) : O.bor (.ol (some i) xs) = [i] := rfl
@[simp] theorem mnoexc_ok {α : Type} (a : α) : noexc (.ok a) = .ok a := rfl

/-- a block's k-th statement, what stands behind k statements -/
def sN : Nat → S → S
  | 0, .cons s _ => s
  | n + 1, .cons _ t => sN n t
  | _, s => s
def sR : Nat → S → S
  | n + 1, .cons _ t => sR n t
  | _, s => s
/-- one turn of a call -/
theorem callN_eq {P : Prog} {n f : Nat} {fn : Fn} {ds : List D} {κ : Cells} (hf : P.fns[f]? = some fn) (hl : ds.length = fn.ps) :
    callN P (n + 1) f ds κ = (exec ⟨P.gl, [], callN P n, P.fuel, P.sub, P.eqf⟩ fn.body (startS fn ds) κ).out := by
  rw [callN, hf]
  exact if_pos hl

/-- a comprehension each turn of which gives one thing -/
theorem comp_each {I : Nat → Cells → Prop} {T : Nat → D → Prop} {step : D → Cells → Out (List D × Cells)} : ∀ (xs : List D) (k : Nat) (κ : Cells),
    (∀ (j : Nat) (x : D) (κ : Cells), xs[j]? = some x → I (k + j) κ → ∃ y κ', step x κ = .ok ([y], κ') ∧ I (k + j + 1) κ' ∧ T (k + j) y) →
    I k κ → ∃ ys κ', compLoop step xs κ = .ok (ys, κ') ∧ ys.length = xs.length ∧ I (k + xs.length) κ' ∧ ∀ (j : Nat) (y : D), ys[j]? = some y → T (k + j) y
  | [], k, κ, _, hi => ⟨[], κ, rfl, rfl, hi, fun j y h => by simp at h⟩
  | x :: xs, k, κ, hs, hi => by
    obtain ⟨y, κ1, e1, i1, t1⟩ := hs 0 x κ rfl hi
    obtain ⟨ys, κ2, e2, l2, i2, t2⟩ := comp_each xs (k + 1) κ1 (fun j x' κ' hx hi' => by
      have := hs (j + 1) x' κ' (by simpa using hx) (by rw [show k + (j + 1) = k + 1 + j by omega]; exact hi')
      rw [show k + (j + 1) = k + 1 + j by omega] at this
      exact this) i1
    refine ⟨y :: ys, κ2, ?_, by simp [l2], by rw [show k + (x :: xs).length = k + 1 + xs.length by simp; omega]; exact i2, ?_⟩
    · rw [compLoop, e1, mbind_ok, e2, mbind_ok]
      rfl
    · intro j z hz
      cases j with
      | zero => simp at hz; subst hz; exact t1
      | succ j =>
        have := t2 j z (by simpa using hz)
        rw [show k + (j + 1) = k + 1 + j by omega]
        exact this
/-- a comprehension without effect -/
theorem comp_map {g : D → D} {step : D → Cells → Out (List D × Cells)} (κ : Cells) : ∀ (xs : List D),
    (∀ x ∈ xs, step x κ = .ok ([g x], κ)) → compLoop step xs κ = .ok (xs.map g, κ)
  | [], _ => rfl
  | x :: xs, h => by
    rw [compLoop, h x (by simp), mbind_ok, comp_map κ xs (fun y hy => h y (by simp [hy])), mbind_ok]
    rfl
/-- a comprehension that keeps some things -/
theorem comp_filter {p : D → Bool} {g : D → D} {step : D → Cells → Out (List D × Cells)} (κ : Cells) : ∀ (xs : List D),
    (∀ x ∈ xs, step x κ = .ok (if p x then [g x] else [], κ)) → compLoop step xs κ = .ok ((xs.filter p).map g, κ)
  | [], _ => rfl
  | x :: xs, h => by
    rw [compLoop, h x (by simp), mbind_ok, comp_filter κ xs (fun y hy => h y (by simp [hy])), mbind_ok]
    cases hp : p x <;> simp [hp]
/-- a for that goes through -/
theorem for_inv {I : Nat → Sl → Cells → Prop} {step : D → Sl → Cells → Res} : ∀ (xs : List D) (k : Nat) (σ : Sl) (κ : Cells),
    (∀ (j : Nat) (x : D) (σ : Sl) (κ : Cells), xs[j]? = some x → I (k + j) σ κ → ∃ σ' κ', step x σ κ = .nx σ' κ' ∧ I (k + j + 1) σ' κ') →
    I k σ κ → ∃ σ' κ', forLoop step xs σ κ = .nx σ' κ' ∧ I (k + xs.length) σ' κ'
  | [], k, σ, κ, _, hi => ⟨σ, κ, rfl, hi⟩
  | x :: xs, k, σ, κ, hs, hi => by
    obtain ⟨σ1, κ1, e1, i1⟩ := hs 0 x σ κ rfl hi
    obtain ⟨σ2, κ2, e2, i2⟩ := for_inv xs (k + 1) σ1 κ1 (fun j x' σ' κ' hx hi' => by
      have := hs (j + 1) x' σ' κ' (by simpa using hx) (by rw [show k + (j + 1) = k + 1 + j by omega]; exact hi')
      rw [show k + (j + 1) = k + 1 + j by omega] at this
      exact this) i1
    refine ⟨σ2, κ2, ?_, by rw [show k + (x :: xs).length = k + 1 + xs.length by simp; omega]; exact i2⟩
    rw [forLoop, e1]
    exact e2
/-- the same, by an invariant that looks at what is left -/
theorem for_list {I : List D → Sl → Cells → Prop} {step : D → Sl → Cells → Res}
    (hs : ∀ (x : D) (xs : List D) (σ : Sl) (κ : Cells), I (x :: xs) σ κ → ∃ σ' κ', step x σ κ = .nx σ' κ' ∧ I xs σ' κ') : ∀ (xs : List D) (σ : Sl) (κ : Cells),
    I xs σ κ → ∃ σ' κ', forLoop step xs σ κ = .nx σ' κ' ∧ I [] σ' κ'
  | [], σ, κ, hi => ⟨σ, κ, rfl, hi⟩
  | x :: xs, σ, κ, hi => by
    obtain ⟨σ1, κ1, e1, i1⟩ := hs x xs σ κ hi
    obtain ⟨σ2, κ2, e2, i2⟩ := for_list hs xs σ1 κ1 i1
    refine ⟨σ2, κ2, ?_, i2⟩
    rw [forLoop, e1]
    exact e2

/-! ### comparisons -/
@[simp] theorem eqD_int (i j : Int) : eqD (.int i) (.int j) = some (i == j) := by
  simp [eqD, D.py, SeqAt.shaped, PyData.canLay0, PyData.depth, PyData.eqv]
theorem eqD_str {x y : Str} (hx : PyData.strOk x = true) (hy : PyData.strOk y = true) : eqD (.str x) (.str y) = some (x == y) := by
  simp [eqD, D.py, SeqAt.shaped, PyData.canLay0, PyData.depth, PyData.eqv, hx, hy]
theorem idxT (xs : List D) (i : Nat) (d : D) (h : xs[i]? = some d) : idxD (.tup xs) (.int i) = some d := by
  have hl : i < xs.length := by
    rcases Nat.lt_or_ge i xs.length with h' | h'
    · exact h'
    · rw [List.getElem?_eq_none h'] at h; simp at h
  have e : ixN xs.length (i : Int) = some i := by simp [ixN, hl]
  show (ixN xs.length (i : Int)).bind _ = _
  rw [e]
  exact h
theorem idxL (xs : List D) (i : Nat) (d : D) (h : xs[i]? = some d) : idxD (.lst xs) (.int i) = some d := idxT xs i d h

/-! ### what each form comes to -/
def varO (κ : Cells) (i : Nat) : Option (Option O) → Out (O × Cells)
  | some (some o) => .ok (o.read i, κ)
  | _ => .bad
@[simp] theorem varO_some (κ : Cells) (i : Nat) (o : O) : varO κ i (some (some o)) = .ok (o.read i, κ) := rfl
@[simp] theorem e_var (Γ : Cxt) {i} (σ : Sl) (κ : Cells) : ev Γ (.var i) σ κ = varO κ i σ[i]? := by
  rw [ev]
  rcases σ[i]? with _ | _ | _ <;> rfl
@[simp] theorem e_cst (Γ : Cxt) {d} (σ : Sl) (κ : Cells) : ev Γ (.cst d) σ κ = (.ok (.fz d, κ)) := by
  rw [ev]
@[simp] theorem e_gcn (Γ : Cxt) {g} (σ : Sl) (κ : Cells) : ev Γ (.gcn g) σ κ = ((opt Γ.gl[g]?).bind fun d => .ok (.fz d, κ)) := by
  rw [ev]
@[simp] theorem e_tup (Γ : Cxt) {es} (σ : Sl) (κ : Cells) : ev Γ (.tup es) σ κ = ((evs Γ es σ κ).bind fun r => .ok (.fz (.tup r.1), r.2)) := by
  rw [ev]
@[simp] theorem e_lst (Γ : Cxt) {es} (σ : Sl) (κ : Cells) : ev Γ (.lst es) σ κ = ((evs Γ es σ κ).bind fun r => .ok (.ol none r.1, r.2)) := by
  rw [ev]
@[simp] theorem e_bin (Γ : Cxt) {op a b} (σ : Sl) (κ : Cells) : ev Γ (.bin op a b) σ κ = ((ev Γ a σ κ).bind fun x => (ev Γ b σ x.2).bind fun y => (opt (binD op x.1.d y.1.d)).bind fun o => .ok (o, y.2)) := by
  rw [ev]
@[simp] theorem e_neg (Γ : Cxt) {a} (σ : Sl) (κ : Cells) : ev Γ (.neg a) σ κ = ((ev Γ a σ κ).bind fun x => (opt (negD x.1.d)).bind fun d => .ok (.fz d, x.2)) := by
  rw [ev]
@[simp] theorem e_not (Γ : Cxt) {a} (σ : Sl) (κ : Cells) : ev Γ (.not a) σ κ = ((ev Γ a σ κ).bind fun x => (opt (truD x.1.d)).bind fun b => .ok (.fz (.bl (!b)), x.2)) := by
  rw [ev]
@[simp] theorem e_and (Γ : Cxt) {a b} (σ : Sl) (κ : Cells) : ev Γ (.and a b) σ κ = ((ev Γ a σ κ).bind fun x => (opt (truD x.1.d)).bind fun c => if c then ev Γ b σ x.2 else .ok x) := by
  rw [ev]
@[simp] theorem e_or (Γ : Cxt) {a b} (σ : Sl) (κ : Cells) : ev Γ (.or a b) σ κ = ((ev Γ a σ κ).bind fun x => (opt (truD x.1.d)).bind fun c => if c then .ok x else ev Γ b σ x.2) := by
  rw [ev]
@[simp] theorem e_cmp (Γ : Cxt) {op a b} (σ : Sl) (κ : Cells) : ev Γ (.cmp op a b) σ κ = ((ev Γ a σ κ).bind fun x => (ev Γ b σ x.2).bind fun y => (opt (cmpD op x.1.d y.1.d)).bind fun c => .ok (.fz (.bl c), y.2)) := by
  rw [ev]
@[simp] theorem e_chain (Γ : Cxt) {op op' a b c} (σ : Sl) (κ : Cells) : ev Γ (.chain op op' a b c) σ κ = ((ev Γ a σ κ).bind fun x => (ev Γ b σ x.2).bind fun y => (opt (cmpD op x.1.d y.1.d)).bind fun t =>
      if t then (ev Γ c σ y.2).bind fun z => (opt (cmpD op' y.1.d z.1.d)).bind fun t' => .ok (.fz (.bl t'), z.2) else .ok (.fz (.bl false), y.2)) := by
  rw [ev]
@[simp] theorem e_ite (Γ : Cxt) {c a b} (σ : Sl) (κ : Cells) : ev Γ (.ite c a b) σ κ = ((ev Γ c σ κ).bind fun x => (opt (truD x.1.d)).bind fun t => if t then ev Γ a σ x.2 else ev Γ b σ x.2) := by
  rw [ev]
@[simp] theorem e_idx (Γ : Cxt) {a i} (σ : Sl) (κ : Cells) : ev Γ (.idx a i) σ κ = ((ev Γ a σ κ).bind fun x => (ev Γ i σ x.2).bind fun y => (opt (idxC y.2 x.1.d y.1.d)).bind fun d => .ok (.fz d, y.2)) := by
  rw [ev]
@[simp] theorem e_slc (Γ : Cxt) {a lo hi} (σ : Sl) (κ : Cells) : ev Γ (.slc a lo hi) σ κ = ((ev Γ a σ κ).bind fun x => (ev Γ lo σ x.2).bind fun l => (opt (boundD l.1)).bind fun lo' => (ev Γ hi σ l.2).bind fun h =>
      (opt (boundD h.1)).bind fun hi' => (opt (slcD lo' hi' x.1.d)).bind fun o => .ok (o, h.2)) := by
  rw [ev]
@[simp] theorem e_rev (Γ : Cxt) {a} (σ : Sl) (κ : Cells) : ev Γ (.rev a) σ κ = ((ev Γ a σ κ).bind fun x => (opt (revD x.1.d)).bind fun o => .ok (o, x.2)) := by
  rw [ev]
def fldO (m : List (Nat × Nat)) (d : D) : Option D := match d with
  | .ins c fs => (m.lookup c).bind fun j => fs[j]?
  | _ => none
@[simp] theorem fldO_ins (m : List (Nat × Nat)) (c : Nat) (fs : List D) : fldO m (.ins c fs) = (m.lookup c).bind fun j => fs[j]? := rfl
@[simp] theorem e_fld (Γ : Cxt) {a m} (σ : Sl) (κ : Cells) : ev Γ (.fld a m) σ κ = ((ev Γ a σ κ).bind fun x => (opt (fldO m x.1.d)).bind fun d => .ok (.fz d, x.2)) := by
  rw [ev]
  refine congrArg (Out.bind _) (funext fun x => ?_)
  generalize x.1.d = d
  cases d <;> rfl
@[simp] theorem e_exf (Γ : Cxt) {f} (σ : Sl) (κ : Cells) : ev Γ (.exf f) σ κ = ((opt Γ.hx[f]?).bind fun d => .ok (.fz d, κ)) := by
  rw [ev]
@[simp] theorem e_isi (Γ : Cxt) {a tys tt_} (σ : Sl) (κ : Cells) : ev Γ (.isi a tys tt_) σ κ = ((ev Γ a σ κ).bind fun x => if hasTy x.1.d then .ok (.fz (.bl (tys.any (isTy x.1.d))), x.2) else .bad) := by
  rw [ev]
@[simp] theorem e_call (Γ : Cxt) {f es} (σ : Sl) (κ : Cells) : ev Γ (.call f es) σ κ = ((evs Γ es σ κ).bind fun r => (Γ.calls f r.1 r.2).bind fun x => .ok (.fz x.1, x.2)) := by
  rw [ev]
@[simp] theorem e_blt1 (Γ : Cxt) {b a} (σ : Sl) (κ : Cells) : ev Γ (.blt1 b a) σ κ = ((ev Γ a σ κ).bind fun x => (opt (blt1D b x.1)).bind fun o => .ok (o, x.2)) := by
  rw [ev]
@[simp] theorem e_blt2 (Γ : Cxt) {b a a'} (σ : Sl) (κ : Cells) : ev Γ (.blt2 b a a') σ κ = ((ev Γ a σ κ).bind fun x => (ev Γ a' σ x.2).bind fun y => (opt (blt2D b x.1.d y.1.d)).bind fun d => .ok (.fz d, y.2)) := by
  rw [ev]
@[simp] theorem e_make (Γ : Cxt) {c es} (σ : Sl) (κ : Cells) : ev Γ (.make c es) σ κ = ((evs Γ es σ κ).bind fun r => .ok (.fz (.ins c r.1), r.2)) := by
  rw [ev]
def boolD : D → Option Bool
  | .bl t => some t
  | _ => none
@[simp] theorem boolD_bl (b : Bool) : boolD (.bl b) = some b := rfl
def insC : D → Option Nat
  | .ins c _ => some c
  | _ => none
@[simp] theorem insC_ins (c : Nat) (fs : List D) : insC (.ins c fs) = some c := rfl
@[simp] theorem e_eqo (Γ : Cxt) {a b} (σ : Sl) (κ : Cells) : ev Γ (.eqo a b) σ κ = ((ev Γ a σ κ).bind fun x => (ev Γ b σ x.2).bind fun y => (opt x.1.frz).bind fun xd => (opt y.1.frz).bind fun yd =>
      (opt (insC xd)).bind fun c => (opt (Γ.eqf c)).bind fun f => if eqoOk c yd then (noexc (Γ.calls f [xd, yd] y.2)).bind fun r => (opt (boolD r.1)).bind fun t => .ok (.fz (.bl t), r.2) else .bad) := by
  rw [ev]
  refine congrArg (Out.bind _) (funext fun x => ?_)
  refine congrArg (Out.bind _) (funext fun y => ?_)
  refine congrArg (Out.bind _) (funext fun xd => ?_)
  refine congrArg (Out.bind _) (funext fun yd => ?_)
  cases xd <;> try rfl
  refine congrArg (Out.bind _) (funext fun f => ?_)
  split
  · refine congrArg (Out.bind _) (funext fun r => ?_)
    rcases r with ⟨r, k⟩
    cases r <;> rfl
  · rfl
@[simp] theorem e_cell (Γ : Cxt) {ks es} (σ : Sl) (κ : Cells) : ev Γ (.cell ks es) σ κ = ((evs Γ es σ κ).bind fun r => if decide (ks.Nodup) && decide (ks.length = r.1.length) && decide (ks.length ≤ 15) then .ok (.fz (.obj r.2.length), r.2 ++ [(ks.zip r.1).foldl (fun acc kv => putP acc kv.1 kv.2) []]) else .bad) := by
  rw [ev]
@[simp] theorem e_lrng (Γ : Cxt) {it} (σ : Sl) (κ : Cells) : ev Γ (.lrng it) σ κ = ((evIt Γ it σ κ).bind fun r => if r.1.1.length ≤ sizeLine then .ok (.ol none r.1.1, r.2) else .bad) := by
  rw [ev]
@[simp] theorem e_comp (Γ : Cxt) {own tg it ifs elt} (σ : Sl) (κ : Cells) : ev Γ (.comp own tg it ifs elt) σ κ = ((evIt Γ it σ κ).bind fun r =>
      (noexc (compLoop (fun x κ => (opt (assignT tg x (wipeS σ own))).bind fun σ' => (noexc (evIf Γ ifs σ' κ)).bind fun t =>
        if t.1 then (noexc (ev Γ elt σ' t.2)).bind fun y => (opt y.1.frz).bind fun d => .ok ([d], y.2) else .ok ([], t.2)) r.1.1 r.2)).bind fun r =>
      if r.1.length < sizeLine then .ok (.ol none r.1, r.2) else .bad) := by
  rw [ev]
@[simp] theorem es_nil (Γ : Cxt) (σ : Sl) (κ : Cells) : evs Γ (.nil) σ κ = (.ok ([], κ)) := by
  rw [evs]
@[simp] theorem es_cons (Γ : Cxt) {e es} (σ : Sl) (κ : Cells) : evs Γ (.cons e es) σ κ = ((ev Γ e σ κ).bind fun x => (opt x.1.frz).bind fun d => (evs Γ es σ x.2).bind fun r => if r.1.length < sizeLine then .ok (d :: r.1, r.2) else .bad) := by
  rw [evs]
@[simp] theorem eif_n (Γ : Cxt) (σ : Sl) (κ : Cells) : evIf Γ (.nil) σ κ = (.ok (true, κ)) := by
  rw [evIf]
@[simp] theorem eif_c (Γ : Cxt) {e} (σ : Sl) (κ : Cells) : evIf Γ (.cons e .nil) σ κ = ((ev Γ e σ κ).bind fun x => (opt (truD x.1.d)).bind fun b => .ok (b, x.2)) := by
  rw [evIf]
def intO : D → Option Int
  | .int j => some j
  | _ => none
@[simp] theorem intO_int (j : Int) : intO (.int j) = some j := rfl
@[simp] theorem eit_rng1 (Γ : Cxt) {a} (σ : Sl) (κ : Cells) : evIt Γ (.rng1 a) σ κ = ((ev Γ a σ κ).bind fun x => (opt (intO x.1.d)).bind fun j => (opt (rangeD 0 j)).bind fun xs => .ok ((xs, []), x.2)) := by
  rw [evIt]
  refine congrArg (Out.bind _) (funext fun x => ?_)
  generalize x.1.d = d
  cases d <;> rfl
@[simp] theorem eit_zip (Γ : Cxt) {a b} (σ : Sl) (κ : Cells) : evIt Γ (.zip a b) σ κ = ((ev Γ a σ κ).bind fun x => (ev Γ b σ x.2).bind fun y => (opt (seqD x.1.d)).bind fun xs => (opt (seqD y.1.d)).bind fun ys => .ok ((zipD xs ys, x.1.bor ++ y.1.bor), y.2)) := by
  rw [evIt]
@[simp] theorem eit_walk (Γ : Cxt) {a} (σ : Sl) (κ : Cells) : evIt Γ (.walk a) σ κ = ((ev Γ a σ κ).bind fun x => (opt (seqD x.1.d)).bind fun xs => .ok ((xs, x.1.bor), x.2)) := by
  rw [evIt]
@[simp] theorem x_nil (Γ : Cxt) (σ : Sl) (κ : Cells) : exec Γ (.nil) σ κ = (.nx σ κ) := by
  rw [exec]
@[simp] theorem x_set (Γ : Cxt) {i e} (σ : Sl) (κ : Cells) : exec Γ (.set i e) σ κ = (exE (ev Γ e σ κ) σ fun x => storeO σ i x.1 fun σ => .nx σ x.2) := by
  rw [exec]
@[simp] theorem x_sets (Γ : Cxt) {tg e} (σ : Sl) (κ : Cells) : exec Γ (.sets tg e) σ κ = (exE (ev Γ e σ κ) σ fun x => exO x.1.frz fun d => exO (assignT tg d σ) fun σ => .nx σ x.2) := by
  rw [exec]
@[simp] theorem x_par (Γ : Cxt) {is es} (σ : Sl) (κ : Cells) : exec Γ (.par is es) σ κ = (exec.exec1 Γ is es σ κ) := by
  rw [exec]
def augAt (Γ : Cxt) (i : Nat) (e : E) (o : Option (Option O)) (σ : Sl) (κ : Cells) : Res := match o with
  | some (some (.fz (.int a))) => exE (ev Γ e σ κ) σ fun x => exO (intO x.1.d) fun b => exO (setAt σ i (some (.fz (.int (a + b))))) fun σ => .nx σ x.2
  | _ => .bad
@[simp] theorem augAt_int (Γ : Cxt) (i : Nat) (e : E) (a : Int) (σ : Sl) (κ : Cells) : augAt Γ i e (some (some (.fz (.int a)))) σ κ =
    exE (ev Γ e σ κ) σ fun x => exO (intO x.1.d) fun b => exO (setAt σ i (some (.fz (.int (a + b))))) fun σ => .nx σ x.2 := rfl
@[simp] theorem x_augA (Γ : Cxt) {i e} (σ : Sl) (κ : Cells) : exec Γ (.aug i .add e) σ κ = augAt Γ i e σ[i]? σ κ := by
  rw [exec]
  rcases σ[i]? with _ | _ | o <;> try rfl
  cases o with
  | fz d =>
    cases d <;> try rfl
    refine congrArg (exE _ _) (funext fun x => ?_)
    rcases x with ⟨x, k⟩
    cases x with
    | fz d => cases d <;> rfl
    | _ => rfl
  | _ => rfl
def appAt (Γ : Cxt) (i : Nat) (e : E) (o : Option (Option O)) (σ : Sl) (κ : Cells) : Res := match o with
  | some (some (.ol none xs)) => exE (ev Γ e σ κ) σ fun x => exO x.1.frz fun d => if xs.length < sizeLine then .nx (σ.set i (some (.ol none (xs ++ [d])))) x.2 else .bad
  | _ => .bad
@[simp] theorem appAt_ol (Γ : Cxt) (i : Nat) (e : E) (xs : List D) (σ : Sl) (κ : Cells) : appAt Γ i e (some (some (.ol none xs))) σ κ =
    exE (ev Γ e σ κ) σ fun x => exO x.1.frz fun d => if xs.length < sizeLine then .nx (σ.set i (some (.ol none (xs ++ [d])))) x.2 else .bad := rfl
@[simp] theorem x_app (Γ : Cxt) {i e} (σ : Sl) (κ : Cells) : exec Γ (.app i e) σ κ = appAt Γ i e σ[i]? σ κ := by
  rw [exec]
  rcases σ[i]? with _ | _ | o <;> try rfl
def putAt (Γ : Cxt) (k : E) (i : Nat) (o : Option (Option O)) (d : D) (σ : Sl) (κ : Cells) : Res := match o with
  | some (some o) => exE (ev Γ k σ κ) σ fun y => (match o with
      | .fz (.obj n) => exO (keyOf y.1.d) fun kk => exO y.2[n]? fun kvs => if kvs.length < sizeLine then .nx σ (y.2.set n (putP kvs kk d)) else .bad
      | o => exO (putO o y.1.d d) fun o => .nx (σ.set i (some o)) y.2)
  | _ => .bad
@[simp] theorem putAt_obj (Γ : Cxt) (k : E) (i n : Nat) (d : D) (σ : Sl) (κ : Cells) : putAt Γ k i (some (some (.fz (.obj n)))) d σ κ =
    exE (ev Γ k σ κ) σ fun y => exO (keyOf y.1.d) fun kk => exO y.2[n]? fun kvs => if kvs.length < sizeLine then .nx σ (y.2.set n (putP kvs kk d)) else .bad := rfl
@[simp] theorem putAt_ol (Γ : Cxt) (k : E) (i : Nat) (xs : List D) (d : D) (σ : Sl) (κ : Cells) : putAt Γ k i (some (some (.ol none xs))) d σ κ =
    exE (ev Γ k σ κ) σ fun y => exO (putO (.ol none xs) y.1.d d) fun o => .nx (σ.set i (some o)) y.2 := rfl
@[simp] theorem x_put (Γ : Cxt) {i k e} (σ : Sl) (κ : Cells) : exec Γ (.put i k e) σ κ =
    (exE (ev Γ e σ κ) σ fun x => exO x.1.frz fun d => putAt Γ k i σ[i]? d σ x.2) := by
  rw [exec]
  refine congrArg (exE _ _) (funext fun x => ?_)
  refine congrArg (exO _) (funext fun d => ?_)
  rcases σ[i]? with _ | _ | o <;> try rfl
@[simp] theorem x_drop (Γ : Cxt) {e} (σ : Sl) (κ : Cells) : exec Γ (.drop e) σ κ = (exE (ev Γ e σ κ) σ fun x => .nx σ x.2) := by
  rw [exec]
@[simp] theorem x_ret (Γ : Cxt) {e} (σ : Sl) (κ : Cells) : exec Γ (.ret e) σ κ = (exE (ev Γ e σ κ) σ fun x => exO x.1.frz fun d => .rt d x.2) := by
  rw [exec]
@[simp] theorem x_retN (Γ : Cxt) (σ : Sl) (κ : Cells) : exec Γ (.retN) σ κ = (.rt .non κ) := by
  rw [exec]
@[simp] theorem x_ite (Γ : Cxt) {c a b} (σ : Sl) (κ : Cells) : exec Γ (.ite c a b) σ κ = (exE (ev Γ c σ κ) σ fun x => exO (truD x.1.d) fun t => if t then exec Γ a σ x.2 else exec Γ b σ x.2) := by
  rw [exec]
@[simp] theorem x_for (Γ : Cxt) {tg it b} (σ : Sl) (κ : Cells) : exec Γ (.for_ tg it b) σ κ = (exE (evIt Γ it σ κ) σ fun r =>
      unlockR σ r.1.2 (forLoop (fun x σ κ => exO (assignT tg x σ) fun σ => exec Γ b σ κ) r.1.1 (lockAll σ r.1.2) r.2)) := by
  rw [exec]
@[simp] theorem x_whl (Γ : Cxt) {c b} (σ : Sl) (κ : Cells) : exec Γ (.whl c b) σ κ = (whileLoop (fun σ κ => (ev Γ c σ κ).bind fun x => (opt (truD x.1.d)).bind fun t => .ok (t, x.2)) (fun σ κ => exec Γ b σ κ) Γ.fuel σ κ) := by
  rw [exec]
@[simp] theorem x_raise (Γ : Cxt) {c es} (σ : Sl) (κ : Cells) : exec Γ (.raise c es) σ κ = (exE (evs Γ es σ κ) σ fun r => .xc c r.1 σ r.2) := by
  rw [exec]
def caught (Γ : Cxt) (hs : S) (r : Res) : Res := match r with
  | .xc c fs σ κ => exec.execH Γ hs c fs σ κ
  | r => r
@[simp] theorem x_try (Γ : Cxt) {b hs} (σ : Sl) (κ : Cells) : exec Γ (.try_ b hs) σ κ = caught Γ hs (exec Γ b σ κ) := by
  rw [exec]
  cases exec Γ b σ κ <;> rfl
@[simp] theorem caught_xc (Γ : Cxt) (hs : S) (c : Nat) (fs : List D) (σ : Sl) (κ : Cells) : caught Γ hs (.xc c fs σ κ) = exec.execH Γ hs c fs σ κ := rfl
@[simp] theorem caught_nx (Γ : Cxt) (hs : S) (σ : Sl) (κ : Cells) : caught Γ hs (.nx σ κ) = .nx σ κ := rfl
@[simp] theorem x_brk (Γ : Cxt) (σ : Sl) (κ : Cells) : exec Γ (.brk) σ κ = (.bk σ κ) := by
  rw [exec]
@[simp] theorem x_cnt (Γ : Cxt) (σ : Sl) (κ : Cells) : exec Γ (.cnt) σ κ = (.ct σ κ) := by
  rw [exec]
@[simp] theorem x_pass (Γ : Cxt) (σ : Sl) (κ : Cells) : exec Γ (.pass) σ κ = (.nx σ κ) := by
  rw [exec]
def frzAt (i : Nat) (o : Option (Option O)) (σ : Sl) (κ : Cells) : Res := match o with
  | some (some (.fz _)) => .nx σ κ
  | some (some o) => exO o.frz fun d => .nx (σ.set i (some (.fz d))) κ
  | _ => .nx σ κ
@[simp] theorem frzAt_fz (i : Nat) (d : D) (σ : Sl) (κ : Cells) : frzAt i (some (some (.fz d))) σ κ = .nx σ κ := rfl
@[simp] theorem frzAt_ol (i : Nat) (xs : List D) (σ : Sl) (κ : Cells) : frzAt i (some (some (.ol none xs))) σ κ = .nx (σ.set i (some (.fz (.lst xs)))) κ := rfl
@[simp] theorem x_frz (Γ : Cxt) {i} (σ : Sl) (κ : Cells) : exec Γ (.frz i) σ κ = frzAt i σ[i]? σ κ := by
  rw [exec]
  rcases σ[i]? with _ | _ | o <;> try rfl



/-! ### the small operations -/
@[simp] theorem truD_bl (b : Bool) : truD (.bl b) = some b := rfl
@[simp] theorem truD_int (i : Int) : truD (.int i) = some (i != 0) := rfl
@[simp] theorem b_add (i j : Int) : binD .add (.int i) (.int j) = some (.fz (.int (i + j))) := rfl
@[simp] theorem b_sub (i j : Int) : binD .sub (.int i) (.int j) = some (.fz (.int (i - j))) := rfl
theorem b_mul {i j : Int} (h : mulOk i j = true) : binD .mul (.int i) (.int j) = some (.fz (.int (i * j))) := if_pos h
theorem b_fdiv {i j : Int} (h : divOk j = true) : binD .fdiv (.int i) (.int j) = some (.fz (.int (i.fdiv j))) := if_pos h
theorem b_mod {i j : Int} (h : j ≠ 0) : binD .mod (.int i) (.int j) = some (.fz (.int (i.fmod j))) := if_neg h
theorem b_pow {i : Int} {j : Nat} (h : j ≤ 1000) (hi : i.natAbs < 2 ^ 64) : binD .pow (.int i) (.int j) = some (.fz (.int (i ^ j))) := by
  have h1 : (0 : Int) ≤ (j : Int) := by omega
  have h2 : (j : Int) ≤ 1000000 := by omega
  unfold binD
  simp only [decide_eq_true h1, decide_eq_true h2, decide_eq_true hi, Bool.and_self, if_true, Int.toNat_natCast]
theorem b_addT {xs ys : List D} (h : xs.length + ys.length ≤ sizeLine) : binD .add (.tup xs) (.tup ys) = some (.fz (.tup (xs ++ ys))) := if_pos h
theorem b_addL {xs ys : List D} (h : xs.length + ys.length ≤ sizeLine) : binD .add (.lst xs) (.lst ys) = some (.ol none (xs ++ ys)) := if_pos h
theorem flat_rep {α : Type} (d : α) : ∀ n : Nat, (List.replicate n [d]).flatten = List.replicate n d
  | 0 => rfl
  | n + 1 => by rw [List.replicate_succ, List.replicate_succ, List.flatten_cons, flat_rep d n]; rfl
theorem b_mulL {d : D} {n : Nat} (h : n ≤ 1000) : binD .mul (.lst [d]) (.int n) = some (.ol none (List.replicate n d)) := by
  have h1 : -(2 ^ 63) ≤ (n : Int) := by omega
  have h2 : (n : Int) < 2 ^ 63 := by omega
  have h3 : n ≤ sizeLine := by rw [sizeLine_eq]; omega
  rw [← flat_rep]
  have h4 : ([d].length * n ≤ sizeLine) := by
    rw [List.length_singleton, Nat.one_mul]
    exact h3
  unfold binD
  simp only [decide_eq_true h1, decide_eq_true h2, decide_eq_true h4, Bool.and_self, if_true, Int.toNat_natCast]
theorem b_mulT {d : D} {n : Nat} (h0 : 1 ≤ n) (h : n ≤ 1000) : binD .mul (.tup [d]) (.int n) = some (.fz (.tup (List.replicate n d))) := by
  have h1 : 1 ≤ (n : Int) := by omega
  have h2 : (n : Int) ≤ 1000 := by omega
  rw [← flat_rep]
  simp [binD, h1, h2]
@[simp] theorem n_int (i : Int) : negD (.int i) = some (.int (-i)) := rfl
@[simp] theorem c_eq (x y : D) : cmpD .eq x y = eqD x y := rfl
@[simp] theorem c_ne (x y : D) : cmpD .ne x y = (eqD x y).map (!·) := rfl
@[simp] theorem c_lt (i j : Int) : cmpD .lt (.int i) (.int j) = some (decide (i < j)) := rfl
@[simp] theorem c_gt (i j : Int) : cmpD .gt (.int i) (.int j) = some (decide (j < i)) := rfl
@[simp] theorem c_le (i j : Int) : cmpD .le (.int i) (.int j) = some (decide (i ≤ j)) := rfl
@[simp] theorem c_ge (i j : Int) : cmpD .ge (.int i) (.int j) = some (decide (j ≤ i)) := rfl
@[simp] theorem c_isB (a b : Bool) : cmpD .is (.bl a) (.bl b) = some (decide (a = b)) := rfl
@[simp] theorem c_isntB (a b : Bool) : cmpD .isnt (.bl a) (.bl b) = some (!decide (a = b)) := rfl
@[simp] theorem ix_tup (κ : Cells) (xs : List D) (i : Int) : idxC κ (.tup xs) (.int i) = atI xs i := rfl
@[simp] theorem ix_lst (κ : Cells) (xs : List D) (i : Int) : idxC κ (.lst xs) (.int i) = atI xs i := rfl
theorem atI_nat {α : Type} {xs : List α} {j : Nat} {d : α} (h : xs[j]? = some d) : atI xs (j : Int) = some d := by
  have hl : j < xs.length := by
    rcases (Nat.lt_or_ge j xs.length) with h' | h'
    · exact h'
    · rw [List.getElem?_eq_none h'] at h; simp at h
  have e : ixN xs.length (j : Int) = some j := by simp [ixN, hl]
  show (ixN xs.length (j : Int)).bind _ = _
  rw [e]
  exact h
@[simp] theorem atI_0 {α : Type} (a : α) (xs : List α) : atI (a :: xs) 0 = some a := atI_nat (j := 0) rfl
@[simp] theorem atI_1 {α : Type} (a b : α) (xs : List α) : atI (a :: b :: xs) 1 = some b := atI_nat (j := 1) rfl
@[simp] theorem atI_2 {α : Type} (a b c : α) (xs : List α) : atI (a :: b :: c :: xs) 2 = some c := atI_nat (j := 2) rfl
@[simp] theorem bd_non : boundD (.fz .non) = some none := rfl
@[simp] theorem bd_int (i : Int) : boundD (.fz (.int i)) = some (some i) := rfl
@[simp] theorem l_tup (xs : List D) : blt1D .len (.fz (.tup xs)) = some (.fz (.int xs.length)) := rfl
@[simp] theorem l_lst (b : Option Nat) (xs : List D) : blt1D .len (.ol b xs) = some (.fz (.int xs.length)) := rfl
@[simp] theorem l_flst (xs : List D) : blt1D .len (.fz (.lst xs)) = some (.fz (.int xs.length)) := rfl
@[simp] theorem t_tup (xs : List D) : blt1D .tuple (.fz (.tup xs)) = some (.fz (.tup xs)) := rfl
@[simp] theorem t_lst (b : Option Nat) (xs : List D) : blt1D .tuple (.ol b xs) = some (.fz (.tup xs)) := rfl
@[simp] theorem t_flst (xs : List D) : blt1D .tuple (.fz (.lst xs)) = some (.fz (.tup xs)) := rfl
@[simp] theorem li_tup (xs : List D) : blt1D .list (.fz (.tup xs)) = some (.ol none xs) := rfl
@[simp] theorem li_lst (b : Option Nat) (xs : List D) : blt1D .list (.ol b xs) = some (.ol none xs) := rfl
@[simp] theorem li_flst (xs : List D) : blt1D .list (.fz (.lst xs)) = some (.ol none xs) := rfl
@[simp] theorem li_fscr (xs : List D) : blt1D .list (.fz (.scr xs)) = some (.ol none xs) := rfl
@[simp] theorem i_int (i : Int) : blt1D .int (.fz (.int i)) = some (.fz (.int i)) := rfl
@[simp] theorem a_int (i : Int) : blt1D .abs (.fz (.int i)) = some (.fz (.int (if i < 0 then -i else i))) := rfl
@[simp] theorem b2_max (i j : Int) : blt2D .max (.int i) (.int j) = some (.int (if j > i then j else i)) := rfl
@[simp] theorem b2_gcd (i j : Int) : blt2D .gcd (.int i) (.int j) = some (.int ((Nat.gcd i.natAbs j.natAbs : Nat) : Int)) := rfl
theorem asBools_map {α : Type} (f : α → Bool) : ∀ xs : List α, asBools (xs.map fun x => .bl (f x)) = some (xs.map f)
  | [] => rfl
  | x :: xs => by simp [asBools, asBools_map f xs]
theorem all_map {α : Type} (b : Option Nat) (f : α → Bool) (xs : List α) : blt1D .all (.ol b (xs.map fun x => .bl (f x))) = some (.fz (.bl (xs.all f))) := by
  simp [blt1D, asBools_map]
theorem any_map {α : Type} (b : Option Nat) (f : α → Bool) (xs : List α) : blt1D .any (.ol b (xs.map fun x => .bl (f x))) = some (.fz (.bl (xs.any f))) := by
  simp [blt1D, asBools_map]
@[simp] theorem sq_tup (xs : List D) : seqD (.tup xs) = some xs := rfl
@[simp] theorem sq_lst (xs : List D) : seqD (.lst xs) = some xs := rfl
@[simp] theorem sq_scr (xs : List D) : seqD (.scr xs) = some xs := rfl
theorem range_nat {n : Nat} (h : n ≤ 2 ^ 40) : rangeD 0 (n : Int) = some ((List.range n).map fun (k : Nat) => D.int (k : Int)) := by
  have h2 : (n : Int) < 2 ^ 62 := by omega
  have h1 : -(2 ^ 62) ≤ (n : Int) := by omega
  unfold rangeD
  rw [decide_eq_true h1, decide_eq_true h2]
  simp
theorem zip_eq : ∀ xs ys : List D, zipD xs ys = (xs.zip ys).map fun p => .tup [p.1, p.2]
  | [], ys => by simp [zipD]
  | x :: xs, [] => by simp [zipD]
  | x :: xs, y :: ys => by simp [zipD, zip_eq xs ys]
@[simp] theorem st_fz (σ : Sl) (i : Nat) (d : D) (f : Sl → Res) : storeO σ i (.fz d) f = exO (setAt σ i (some (.fz d))) f := rfl
@[simp] theorem st_ol (σ : Sl) (i : Nat) (xs : List D) (f : Sl → Res) : storeO σ i (.ol none xs) f = exO (setAt σ i (some (.ol none xs))) f := rfl
@[simp] theorem k_int (i : Int) : keyOf (.int i) = some (.inl i) := rfl
@[simp] theorem k_str (x : Str) : keyOf (.str x) = some (.inr x) := rfl
@[simp] theorem h_non : hasTy .non = true := by simp only [hasTy]
@[simp] theorem h_bl (b : Bool) : hasTy (.bl b) = true := by simp only [hasTy]
@[simp] theorem h_int (i : Int) : hasTy (.int i) = true := by simp only [hasTy]
@[simp] theorem h_str (x : Str) : hasTy (.str x) = true := by simp only [hasTy]
@[simp] theorem h_tup (xs : List D) : hasTy (.tup xs) = true := by simp only [hasTy]
@[simp] theorem h_lst (xs : List D) : hasTy (.lst xs) = true := by simp only [hasTy]
@[simp] theorem h_ins (c : Nat) (xs : List D) : hasTy (.ins c xs) = true := by simp only [hasTy]

def slotFree : Option (Option O) → Bool
  | some (some (.ol (some _) _)) => false
  | some (some (.od (some _) _)) => false
  | some (some (.ot (some _) _)) => false
  | some _ => true
  | none => false
@[simp] theorem sf_none : slotFree (some none) = true := by simp only [slotFree]
@[simp] theorem sf_fz (d : D) : slotFree (some (some (.fz d))) = true := by simp only [slotFree]
@[simp] theorem sf_ol (xs : List D) : slotFree (some (some (.ol none xs))) = true := by simp only [slotFree]
@[simp] theorem sf_map (u : Option D) : slotFree (some (Option.map O.fz u)) = true := by cases u <;> simp only [slotFree, Option.map]
theorem setAt_eq (σ : Sl) (i : Nat) (o : Option O) : setAt σ i o = if slotFree σ[i]? = true then some (σ.set i o) else none := by
  unfold setAt unlocked
  rcases σ[i]? with _ | _ | o <;> rfl
end R

namespace R
open PySem L2
namespace Pr
/-- is_whole: 0 value -/
def b_is_whole : S := (.cons (.ret (.and (.isi (.var 0) [.int] false) (.not (.isi (.var 0) [.bool] false)))) .nil)
/-- is_count: 0 value -/
def b_is_count : S := (.cons (.ret (.and (.call 0 (.cons (.var 0) .nil)) (.cmp .ge (.var 0) (.cst (.int 0))))) .nil)
/-- is_fraction: 0 value 1 item -/
def b_is_fraction : S := (.cons (.ite (.or (.not (.isi (.var 0) [.tuple] false)) (.or (.cmp .ne (.blt1 .len (.var 0)) (.cst (.int 2))) (.not (.blt1 .all (.comp [1] (.v 1) (.walk (.var 0)) .nil (.call 0 (.cons (.var 1) .nil))))))) (.cons (.ret (.cst (.bl false))) .nil) .nil) (.cons (.ret (.and (.cmp .ge (.idx (.var 0) (.cst (.int 1))) (.cst (.int 1))) (.cmp .eq (.blt2 .gcd (.idx (.var 0) (.cst (.int 0))) (.idx (.var 0) (.cst (.int 1)))) (.cst (.int 1))))) .nil))
/-- fraction_of: 0 top 1 bottom 2 shared -/
def b_fraction_of : S := (.cons (.set 2 (.ite (.cmp .gt (.var 1) (.cst (.int 0))) (.blt2 .gcd (.var 0) (.var 1)) (.neg (.blt2 .gcd (.var 0) (.var 1))))) (.cons (.ret (.tup (.cons (.bin .fdiv (.var 0) (.var 2)) (.cons (.bin .fdiv (.var 1) (.var 2)) .nil)))) .nil))
/-- added: 0 first 1 second -/
def b_added : S := (.cons (.ret (.call 3 (.cons (.bin .add (.bin .mul (.idx (.var 0) (.cst (.int 0))) (.idx (.var 1) (.cst (.int 1)))) (.bin .mul (.idx (.var 1) (.cst (.int 0))) (.idx (.var 0) (.cst (.int 1))))) (.cons (.bin .mul (.idx (.var 0) (.cst (.int 1))) (.idx (.var 1) (.cst (.int 1)))) .nil)))) .nil)
/-- is_less: 0 first 1 second -/
def b_is_less : S := (.cons (.ret (.cmp .lt (.bin .mul (.idx (.var 0) (.cst (.int 0))) (.idx (.var 1) (.cst (.int 1)))) (.bin .mul (.idx (.var 1) (.cst (.int 0))) (.idx (.var 0) (.cst (.int 1)))))) .nil)
/-- Refuted_eq: 0 self 1 other -/
def b_Refuted_eq : S := (.cons (.ite (.not (.isi (.var 1) [.cls 2] false)) (.cons (.ret (.cst (.bl false))) .nil) .nil) (.cons (.ret (.cmp .eq (.fld (.var 0) [(2, 0)]) (.fld (.var 1) [(2, 0)]))) .nil))
/-- is_row: 0 value 1 many 2 factor -/
def b_is_row : S := (.cons (.ite (.or (.not (.isi (.var 0) [.tuple] false)) (.or (.cmp .ne (.blt1 .len (.var 0)) (.cst (.int 3))) (.or (.not (.isi (.idx (.var 0) (.cst (.int 0))) [.tuple] false)) (.cmp .ne (.blt1 .len (.idx (.var 0) (.cst (.int 0)))) (.var 1))))) (.cons (.ret (.cst (.bl false))) .nil) .nil) (.cons (.ite (.or (.not (.blt1 .all (.comp [2] (.v 2) (.walk (.idx (.var 0) (.cst (.int 0)))) .nil (.call 0 (.cons (.var 2) .nil))))) (.not (.call 0 (.cons (.idx (.var 0) (.cst (.int 2))) .nil)))) (.cons (.ret (.cst (.bl false))) .nil) .nil) (.cons (.ret (.and (.isi (.idx (.var 0) (.cst (.int 1))) [.str] false) (.cmp .in_ (.idx (.var 0) (.cst (.int 1))) (.tup (.cons (.cst (.str ">=")) (.cons (.cst (.str ">")) .nil)))))) .nil)))
/-- is_system: 0 value 1 row -/
def b_is_system : S := (.cons (.ite (.or (.not (.isi (.var 0) [.tuple] false)) (.or (.cmp .ne (.blt1 .len (.var 0)) (.cst (.int 2))) (.or (.not (.call 1 (.cons (.idx (.var 0) (.cst (.int 0))) .nil))) (.not (.isi (.idx (.var 0) (.cst (.int 1))) [.tuple] false))))) (.cons (.ret (.cst (.bl false))) .nil) .nil) (.cons (.ret (.blt1 .all (.comp [1] (.v 1) (.walk (.idx (.var 0) (.cst (.int 1)))) .nil (.call 7 (.cons (.var 1) (.cons (.idx (.var 0) (.cst (.int 0))) .nil)))))) .nil))
/-- need_system: 0 value -/
def b_need_system : S := (.cons (.ite (.not (.call 8 (.cons (.var 0) .nil))) (.cons (.raise 1 (.cons (.var 0) .nil)) .nil) .nil) .nil)
/-- sum_at: 0 factors 1 point 2 found 3 factor 4 part -/
def b_sum_at : S := (.cons (.set 2 (.tup (.cons (.cst (.int 0)) (.cons (.cst (.int 1)) .nil)))) (.cons (.for_ (.t [3, 4]) (.zip (.var 0) (.var 1)) (.cons (.set 2 (.call 4 (.cons (.var 2) (.cons (.call 3 (.cons (.bin .mul (.var 3) (.idx (.var 4) (.cst (.int 0)))) (.cons (.idx (.var 4) (.cst (.int 1))) .nil))) .nil)))) .nil)) (.cons (.ret (.var 2)) .nil)))
/-- keeps_row: 0 row 1 point 2 amount 3 number -/
def b_keeps_row : S := (.cons (.par [2, 3] (.cons (.call 10 (.cons (.idx (.var 0) (.cst (.int 0))) (.cons (.var 1) .nil))) (.cons (.tup (.cons (.idx (.var 0) (.cst (.int 2))) (.cons (.cst (.int 1)) .nil))) .nil))) (.cons (.ret (.ite (.cmp .eq (.idx (.var 0) (.cst (.int 1))) (.cst (.str ">"))) (.call 5 (.cons (.var 3) (.cons (.var 2) .nil))) (.not (.call 5 (.cons (.var 2) (.cons (.var 3) .nil)))))) .nil))
/-- is_point: 0 value 1 many 2 part -/
def b_is_point : S := (.cons (.ret (.and (.isi (.var 0) [.tuple] false) (.and (.cmp .eq (.blt1 .len (.var 0)) (.var 1)) (.blt1 .all (.comp [2] (.v 2) (.walk (.var 0)) .nil (.call 2 (.cons (.var 2) .nil))))))) .nil)
/-- keeps: 0 system 1 value 2 row -/
def b_keeps : S := (.cons (.drop (.call 9 (.cons (.var 0) .nil))) (.cons (.ret (.and (.call 12 (.cons (.var 1) (.cons (.idx (.var 0) (.cst (.int 0))) .nil))) (.blt1 .all (.comp [2] (.v 2) (.walk (.idx (.var 0) (.cst (.int 1)))) .nil (.call 11 (.cons (.var 2) (.cons (.var 1) .nil))))))) .nil))
/-- are_refuting: 0 system 1 multipliers 2 many 3 rows 4 sums 5 number 6 is_strict 7 row 8 amount 9 one 10 factor -/
def b_are_refuting : S := (.cons (.sets (.t [2, 3]) (.var 0)) (.cons (.par [4, 5, 6] (.cons (.bin .mul (.lst (.cons (.cst (.int 0)) .nil)) (.var 2)) (.cons (.cst (.int 0)) (.cons (.cst (.bl false)) .nil)))) (.cons (.for_ (.t [7, 8]) (.zip (.var 3) (.var 1)) (.cons (.set 4 (.comp [9, 10] (.t [9, 10]) (.zip (.var 4) (.idx (.var 7) (.cst (.int 0)))) .nil (.bin .add (.var 9) (.bin .mul (.var 8) (.var 10))))) (.cons (.aug 5 .add (.bin .mul (.var 8) (.idx (.var 7) (.cst (.int 2))))) (.cons (.set 6 (.or (.var 6) (.and (.cmp .gt (.var 8) (.cst (.int 0))) (.cmp .eq (.idx (.var 7) (.cst (.int 1))) (.cst (.str ">")))))) .nil)))) (.cons (.ite (.blt1 .any (.comp [9] (.v 9) (.walk (.var 4)) .nil (.cmp .ne (.var 9) (.cst (.int 0))))) (.cons (.ret (.cst (.bl false))) .nil) .nil) (.cons (.ret (.or (.cmp .gt (.var 5) (.cst (.int 0))) (.and (.cmp .eq (.var 5) (.cst (.int 0))) (.var 6)))) .nil)))))
/-- refutes: 0 system 1 value 2 amount -/
def b_refutes : S := (.cons (.drop (.call 9 (.cons (.var 0) .nil))) (.cons (.ite (.or (.not (.isi (.var 1) [.cls 2] false)) (.not (.isi (.fld (.var 1) [(2, 0)]) [.tuple] false))) (.cons (.ret (.cst (.bl false))) .nil) .nil) (.cons (.ite (.or (.cmp .ne (.blt1 .len (.fld (.var 1) [(2, 0)])) (.blt1 .len (.idx (.var 0) (.cst (.int 1))))) (.not (.blt1 .all (.comp [2] (.v 2) (.walk (.fld (.var 1) [(2, 0)])) .nil (.call 1 (.cons (.var 2) .nil)))))) (.cons (.ret (.cst (.bl false))) .nil) .nil) (.cons (.ret (.call 14 (.cons (.var 0) (.cons (.fld (.var 1) [(2, 0)]) .nil)))) .nil))))
/-- Tableau_exchange: 0 self 1 at 2 by 3 row 4 old 5 found 6 key 7 place 8 other 9 part 10 new 11 spot 12 number -/
def b_Tableau_exchange : S := (.cons .stuck (.cons (.set 6 (.idx (.var 3) (.var 2))) (.cons .stuck (.cons .stuck (.cons .stuck (.cons .stuck .nil))))))
/-- Tableau_entering: 0 self 1 found 2 by 3 number -/
def b_Tableau_entering : S := (.cons .stuck (.cons .stuck .nil))
/-- Tableau_is_nearer: 0 self 1 one 2 two 3 by 4 first 5 second -/
def b_Tableau_is_nearer : S := (.cons .stuck (.cons .stuck (.cons .stuck .nil)))
/-- Tableau_leaving: 0 self 1 by 2 best 3 at -/
def b_Tableau_leaving : S := (.cons (.set 2 (.cst .non)) (.cons .stuck (.cons (.ret (.var 2)) .nil)))
/-- Tableau_improve: 0 self 1 by -/
def b_Tableau_improve : S := (.cons .stuck (.cons (.whl (.cmp .isnt (.var 1) (.cst .non)) (.cons .stuck (.cons .stuck .nil))) .nil))
/-- Tableau_get_ready: 0 self 1 lows 2 place 3 row 4 by -/
def b_Tableau_get_ready : S := (.cons .stuck (.cons .stuck (.cons .stuck (.cons .stuck (.cons .stuck (.cons .stuck (.cons .stuck (.cons .stuck (.cons .stuck (.cons .stuck (.cons (.ret (.cst (.bl true))) .nil)))))))))))
/-- Tableau_aim: 0 self 1 goal 2 row 3 unknown 4 factor 5 part 6 one 7 two -/
def b_Tableau_aim : S := (.cons .stuck (.cons (.for_ (.t [3, 4]) (.enum (.var 1)) (.cons .stuck .nil)) (.cons .stuck (.cons .stuck .nil))))
/-- Tableau_reached: 0 self -/
def b_Tableau_reached : S := (.cons .stuck .nil)
/-- Tableau_worth_of: 0 self 1 unknown -/
def b_Tableau_worth_of : S := (.cons .stuck (.cons .stuck .nil))
/-- Tableau_price_of: 0 self 1 unknown -/
def b_Tableau_price_of : S := (.cons .stuck .nil)
/-- solved: 0 system 1 many 2 rows 3 tasks 4 factors 5 sign 6 number 7 turned 8 tableau 9 found 10 unknown 11 top 12 bottom 13 factor 14 place -/
def b_solved : S := (.cons (.drop (.call 9 (.cons (.var 0) .nil))) (.cons (.sets (.t [1, 2]) (.var 0)) (.cons (.set 3 (.lst .nil)) (.cons (.for_ (.t [4, 5, 6]) (.walk (.var 2)) (.cons (.set 7 (.comp [13] (.v 13) (.walk (.var 4)) .nil (.neg (.var 13)))) (.cons (.app 3 (.tup (.cons (.bin .add (.bin .add (.var 7) (.blt1 .list (.var 4))) (.lst (.cons (.ite (.cmp .eq (.var 5) (.cst (.str ">"))) (.cst (.int 1)) (.cst (.int 0))) .nil))) (.cons (.neg (.var 6)) .nil)))) .nil))) (.cons (.app 3 (.tup (.cons (.bin .add (.bin .mul (.lst (.cons (.cst (.int 0)) .nil)) (.bin .mul (.cst (.int 2)) (.var 1))) (.lst (.cons (.cst (.int 1)) .nil))) (.cons (.cst (.int 1)) .nil)))) (.cons .stuck (.cons .stuck (.cons .stuck .nil))))))))
/-- _law_pen: 0 script 1 fold 2 cell -/
def b__law_pen : S := (.cons (.set 1 (.cst (.int 0))) (.cons (.for_ (.v 2) (.walk (.var 0)) (.cons (.set 1 (.bin .mod (.blt1 .int (.bin .add (.bin .mul (.var 1) (.cst (.int 61))) (.var 2))) (.cst (.int 1000000123)))) .nil)) (.cons (.ret (.cell [.inr "cells", .inr "at", .inr "digits", .inr "count", .inr "fold"] (.cons (.blt1 .list (.var 0)) (.cons (.cst (.int 0)) (.cons (.cst (.int 0)) (.cons (.cst (.int 0)) (.cons (.var 1) .nil))))))) .nil)))
/-- _law_draw: 0 pen 1 many 2 cell 3 digit 4 blend -/
def b__law_draw : S := (.cons (.put 0 (.cst (.str "count")) (.bin .add (.idx (.var 0) (.cst (.str "count"))) (.cst (.int 1)))) (.cons (.ite (.and (.cmp .eq (.idx (.var 0) (.cst (.str "digits"))) (.cst (.int 0))) (.cmp .lt (.idx (.var 0) (.cst (.str "at"))) (.blt1 .len (.idx (.var 0) (.cst (.str "cells")))))) (.cons (.set 2 (.idx (.idx (.var 0) (.cst (.str "cells"))) (.idx (.var 0) (.cst (.str "at"))))) (.cons (.put 0 (.cst (.str "at")) (.bin .add (.idx (.var 0) (.cst (.str "at"))) (.cst (.int 1)))) (.cons (.ite (.cmp .ge (.var 2) (.bin .pow (.cst (.int 10)) (.cst (.int 18)))) (.cons (.put 0 (.cst (.str "digits")) (.bin .sub (.var 2) (.bin .pow (.cst (.int 10)) (.cst (.int 18))))) .nil) (.cons (.put 0 (.cst (.str "fold")) (.bin .mod (.blt1 .int (.bin .add (.bin .mul (.idx (.var 0) (.cst (.str "fold"))) (.cst (.int 69621))) (.var 2))) (.cst (.int 2147483497)))) .nil)) .nil))) .nil) (.cons (.ite (.cmp .gt (.idx (.var 0) (.cst (.str "digits"))) (.cst (.int 0))) (.cons (.set 3 (.bin .mod (.blt1 .int (.idx (.var 0) (.cst (.str "digits")))) (.var 1))) (.cons (.put 0 (.cst (.str "digits")) (.bin .fdiv (.idx (.var 0) (.cst (.str "digits"))) (.var 1))) (.cons (.ret (.var 3)) .nil))) .nil) (.cons (.set 4 (.bin .add (.bin .add (.idx (.var 0) (.cst (.str "fold"))) (.bin .mul (.idx (.var 0) (.cst (.str "count"))) (.cst (.int 8161)))) (.cst (.int 37)))) (.cons (.ret (.bin .mod (.bin .fdiv (.blt1 .int (.bin .mod (.bin .pow (.var 4) (.cst (.int 17))) (.cst (.int 2305843009213693951)))) (.cst (.int 512))) (.var 1))) .nil)))))
/-- _law_pick: 0 pen 1 some -/
def b__law_pick : S := (.cons (.ret (.idx (.var 1) (.call 28 (.cons (.var 0) (.cons (.blt1 .len (.var 1)) .nil))))) .nil)
/-- _law_shuffled: 0 pen 1 some 2 rest 3 found 4 lap 5 k -/
def b__law_shuffled : S := (.cons (.par [2, 3] (.cons (.blt1 .list (.var 1)) (.cons (.lst .nil) .nil))) (.cons (.for_ (.v 4) (.rng1 (.blt1 .len (.var 1))) (.cons (.set 5 (.call 28 (.cons (.var 0) (.cons (.blt1 .len (.var 2)) .nil)))) (.cons (.app 3 (.idx (.var 2) (.var 5))) (.cons (.set 2 (.bin .add (.slc (.var 2) (.cst .non) (.var 5)) (.slc (.var 2) (.bin .add (.var 5) (.cst (.int 1))) (.cst .non)))) .nil)))) (.cons (.frz 3) (.cons (.ret (.var 3)) .nil))))
/-- _law_frac: 0 top 1 bottom 2 a 3 b 4 lap 5 sign -/
def b__law_frac : S := (.cons (.par [2, 3] (.cons (.blt1 .abs (.var 0)) (.cons (.blt1 .abs (.var 1)) .nil))) (.cons (.for_ (.v 4) (.rng1 (.cst (.int 20000))) (.cons (.ite (.cmp .eq (.var 3) (.cst (.int 0))) (.cons .brk .nil) .nil) (.cons (.par [2, 3] (.cons (.var 3) (.cons (.bin .mod (.blt1 .int (.var 2)) (.var 3)) .nil))) .nil))) (.cons (.set 5 (.ite (.cmp .gt (.var 1) (.cst (.int 0))) (.cst (.int 1)) (.neg (.cst (.int 1))))) (.cons (.ret (.tup (.cons (.bin .fdiv (.bin .mul (.var 5) (.var 0)) (.var 2)) (.cons (.bin .fdiv (.bin .mul (.var 5) (.var 1)) (.var 2)) .nil)))) .nil))))
/-- _law_add: 0 one 1 two -/
def b__law_add : S := (.cons (.ret (.call 31 (.cons (.bin .add (.bin .mul (.idx (.var 0) (.cst (.int 0))) (.idx (.var 1) (.cst (.int 1)))) (.bin .mul (.idx (.var 1) (.cst (.int 0))) (.idx (.var 0) (.cst (.int 1))))) (.cons (.bin .mul (.idx (.var 0) (.cst (.int 1))) (.idx (.var 1) (.cst (.int 1)))) .nil)))) .nil)
/-- _law_row: 0 pen 1 many 2 much 3 factors 4 k -/
def b__law_row : S := (.cons (.set 3 (.blt1 .tuple (.comp [4] (.v 4) (.rng1 (.var 1)) .nil (.ite (.cmp .gt (.call 28 (.cons (.var 0) (.cons (.cst (.int 3)) .nil))) (.cst (.int 0))) (.bin .sub (.call 28 (.cons (.var 0) (.cons (.bin .add (.bin .mul (.cst (.int 2)) (.var 2)) (.cst (.int 1))) .nil))) (.var 2)) (.cst (.int 0)))))) (.cons (.ret (.tup (.cons (.var 3) (.cons (.call 29 (.cons (.var 0) (.cons (.lst (.cons (.cst (.str ">=")) (.cons (.cst (.str ">=")) (.cons (.cst (.str ">")) .nil)))) .nil))) (.cons (.bin .sub (.call 28 (.cons (.var 0) (.cons (.bin .add (.bin .mul (.cst (.int 4)) (.var 2)) (.cst (.int 1))) .nil))) (.bin .mul (.cst (.int 2)) (.var 2))) .nil))))) .nil))
/-- _law_keeps: 0 row 1 point 2 total 3 factor 4 part 5 by -/
def b__law_keeps : S := (.cons (.set 2 (.tup (.cons (.cst (.int 0)) (.cons (.cst (.int 1)) .nil)))) (.cons (.for_ (.t [3, 4]) (.zip (.idx (.var 0) (.cst (.int 0))) (.var 1)) (.cons (.set 2 (.call 32 (.cons (.var 2) (.cons (.call 31 (.cons (.bin .mul (.var 3) (.idx (.var 4) (.cst (.int 0)))) (.cons (.idx (.var 4) (.cst (.int 1))) .nil))) .nil)))) .nil)) (.cons (.set 5 (.bin .sub (.idx (.var 2) (.cst (.int 0))) (.bin .mul (.idx (.var 0) (.cst (.int 2))) (.idx (.var 2) (.cst (.int 1)))))) (.cons (.ret (.ite (.cmp .eq (.idx (.var 0) (.cst (.int 1))) (.cst (.str ">"))) (.cmp .gt (.var 5) (.cst (.int 0))) (.cmp .ge (.var 5) (.cst (.int 0))))) .nil))))
/-- _law_refuting: 0 rows 1 multipliers 2 many 3 sums 4 number 5 is_strict 6 row 7 amount 8 k -/
def b__law_refuting : S := (.cons (.par [3, 4, 5] (.cons (.bin .mul (.lst (.cons (.cst (.int 0)) .nil)) (.var 2)) (.cons (.cst (.int 0)) (.cons (.cst (.bl false)) .nil)))) (.cons (.for_ (.t [6, 7]) (.zip (.var 0) (.var 1)) (.cons (.set 4 (.bin .add (.var 4) (.bin .mul (.var 7) (.idx (.var 6) (.cst (.int 2)))))) (.cons (.set 5 (.or (.var 5) (.and (.cmp .gt (.var 7) (.cst (.int 0))) (.cmp .eq (.idx (.var 6) (.cst (.int 1))) (.cst (.str ">")))))) (.cons (.for_ (.v 8) (.rng1 (.var 2)) (.cons (.put 3 (.var 8) (.bin .add (.idx (.var 3) (.var 8)) (.bin .mul (.var 7) (.idx (.idx (.var 6) (.cst (.int 0))) (.var 8))))) .nil)) .nil)))) (.cons (.ret (.and (.cmp .eq (.var 3) (.bin .mul (.lst (.cons (.cst (.int 0)) .nil)) (.var 2))) (.or (.cmp .gt (.var 4) (.cst (.int 0))) (.and (.cmp .eq (.var 4) (.cst (.int 0))) (.var 5))))) .nil)))
/-- _law_is_integer: 0 value -/
def b__law_is_integer : S := (.cons (.ret (.and (.isi (.var 0) [.int] false) (.not (.isi (.var 0) [.bool] false)))) .nil)
/-- _law_planted: 0 pen 1 many 2 rows 3 amounts 4 sums 5 number 6 row 7 amount 8 k 9 is_strict 10 sign 11 more 12 order 13 lap 14 one -/
def b__law_planted : S := (.cons (.set 2 (.comp [13] (.v 13) (.rng1 (.bin .add (.cst (.int 1)) (.call 28 (.cons (.var 0) (.cons (.cst (.int 5)) .nil))))) .nil (.call 33 (.cons (.var 0) (.cons (.var 1) (.cons (.cst (.int 5)) .nil)))))) (.cons (.set 3 (.comp [6] (.v 6) (.walk (.var 2)) .nil (.call 28 (.cons (.var 0) (.cons (.cst (.int 4)) .nil))))) (.cons (.par [4, 5] (.cons (.bin .mul (.lst (.cons (.cst (.int 0)) .nil)) (.var 1)) (.cons (.cst (.int 0)) .nil))) (.cons (.for_ (.t [6, 7]) (.zip (.var 2) (.var 3)) (.cons (.set 5 (.bin .add (.var 5) (.bin .mul (.var 7) (.idx (.var 6) (.cst (.int 2)))))) (.cons (.for_ (.v 8) (.rng1 (.var 1)) (.cons (.put 4 (.var 8) (.bin .add (.idx (.var 4) (.var 8)) (.bin .mul (.var 7) (.idx (.idx (.var 6) (.cst (.int 0))) (.var 8))))) .nil)) .nil))) (.cons (.set 9 (.cmp .ne (.comp [6, 7] (.t [6, 7]) (.zip (.var 2) (.var 3)) (.cons (.and (.cmp .eq (.idx (.var 6) (.cst (.int 1))) (.cst (.str ">"))) (.cmp .gt (.var 7) (.cst (.int 0)))) .nil) (.cst (.int 1))) (.lst .nil))) (.cons (.par [10, 11] (.cons (.call 29 (.cons (.var 0) (.cons (.lst (.cons (.cst (.str ">=")) (.cons (.cst (.str ">")) .nil))) .nil))) (.cons (.call 28 (.cons (.var 0) (.cons (.cst (.int 3)) .nil))) .nil))) (.cons (.set 11 (.ite (.and (.cmp .eq (.var 11) (.cst (.int 0))) (.and (.cmp .eq (.var 10) (.cst (.str ">="))) (.not (.var 9)))) (.cst (.int 1)) (.var 11))) (.cons (.app 2 (.tup (.cons (.blt1 .tuple (.comp [14] (.v 14) (.walk (.var 4)) .nil (.neg (.var 14)))) (.cons (.var 10) (.cons (.bin .sub (.var 11) (.var 5)) .nil))))) (.cons (.set 12 (.call 30 (.cons (.var 0) (.cons (.lrng (.rng1 (.blt1 .len (.var 2)))) .nil)))) (.cons (.app 3 (.cst (.int 1))) (.cons (.ret (.tup (.cons (.blt1 .tuple (.comp [8] (.v 8) (.walk (.var 12)) .nil (.idx (.var 2) (.var 8)))) (.cons (.blt1 .tuple (.comp [8] (.v 8) (.walk (.var 12)) .nil (.idx (.var 3) (.var 8)))) .nil)))) .nil)))))))))))
/-- _law_is_right_refuted: 0 system 1 value 2 amount -/
def b__law_is_right_refuted : S := (.cons (.ite (.or (.not (.isi (.var 1) [.cls 2] false)) (.not (.isi (.fld (.var 1) [(2, 0)]) [.tuple] false))) (.cons (.ret (.cst (.bl false))) .nil) .nil) (.cons (.ite (.cmp .ne (.blt1 .len (.fld (.var 1) [(2, 0)])) (.blt1 .len (.idx (.var 0) (.cst (.int 1))))) (.cons (.ret (.cst (.bl false))) .nil) .nil) (.cons (.ite (.cmp .ne (.comp [2] (.v 2) (.walk (.fld (.var 1) [(2, 0)])) (.cons (.or (.not (.call 36 (.cons (.var 2) .nil))) (.cmp .lt (.var 2) (.cst (.int 0)))) .nil) (.var 2)) (.lst .nil)) (.cons (.ret (.cst (.bl false))) .nil) .nil) (.cons (.ret (.call 35 (.cons (.idx (.var 0) (.cst (.int 1))) (.cons (.fld (.var 1) [(2, 0)]) (.cons (.idx (.var 0) (.cst (.int 0))) .nil))))) .nil))))
/-- _law_refuted_right: 0 pen 1 many 2 rows 3 amounts 4 system 5 at 6 all_amounts 7 by 8 one 9 odd 10 same -/
def b__law_refuted_right : S := (.cons (.sets (.t [2, 3]) (.call 37 (.cons (.var 0) (.cons (.var 1) .nil)))) (.cons (.par [4, 5, 6] (.cons (.tup (.cons (.var 1) (.cons (.var 2) .nil))) (.cons (.call 28 (.cons (.var 0) (.cons (.blt1 .len (.var 3)) .nil))) (.cons (.lst (.cons (.var 3) (.cons (.bin .mul (.tup (.cons (.cst (.int 0)) .nil)) (.blt1 .len (.var 3))) .nil))) .nil)))) (.cons (.ite (.cmp .isnt (.call 15 (.cons (.var 4) (.cons (.make 2 (.cons (.var 3) .nil)) .nil))) (.cst (.bl true))) (.cons (.ret (.cst (.bl false))) .nil) .nil) (.cons (.for_ (.v 7) (.walk (.lst (.cons (.cst (.int 1)) (.cons (.neg (.cst (.int 1))) (.cons (.bin .sub (.neg (.idx (.var 3) (.var 5))) (.cst (.int 1))) .nil))))) (.cons (.app 6 (.bin .add (.bin .add (.slc (.var 3) (.cst .non) (.var 5)) (.tup (.cons (.bin .add (.idx (.var 3) (.var 5)) (.var 7)) .nil))) (.slc (.var 3) (.bin .add (.var 5) (.cst (.int 1))) (.cst .non)))) .nil)) (.cons (.set 6 (.bin .add (.var 6) (.lst (.cons (.blt1 .tuple (.comp [8] (.v 8) (.walk (.var 3)) .nil (.bin .mul (.cst (.int 3)) (.var 8)))) (.cons (.rev (.var 3)) (.cons (.bin .add (.var 3) (.tup (.cons (.cst (.int 0)) .nil))) (.cons (.slc (.var 3) (.cst .non) (.neg (.cst (.int 1)))) .nil))))))) (.cons (.set 6 (.bin .add (.var 6) (.lst (.cons (.blt1 .list (.var 3)) (.cons (.bin .add (.bin .add (.slc (.var 3) (.cst .non) (.var 5)) (.tup (.cons (.cst (.bl true)) .nil))) (.slc (.var 3) (.bin .add (.var 5) (.cst (.int 1))) (.cst .non))) (.cons (.cst .non) (.cons (.bin .mul (.tup (.cons (.cst .non) .nil)) (.blt1 .len (.var 3))) .nil))))))) (.cons (.for_ (.v 8) (.walk (.var 6)) (.cons (.ite (.cmp .ne (.blt1 .repr (.call 15 (.cons (.var 4) (.cons (.make 2 (.cons (.var 8) .nil)) .nil)))) (.blt1 .repr (.call 38 (.cons (.var 4) (.cons (.make 2 (.cons (.var 8) .nil)) .nil))))) (.cons (.ret (.cst (.bl false))) .nil) .nil) .nil)) (.cons (.for_ (.v 9) (.walk (.lst (.cons (.cst .non) (.cons (.var 3) (.cons (.blt1 .list (.var 3)) (.cons (.cst (.bl true)) (.cons (.cst (.int 0)) .nil))))))) (.cons (.ite (.cmp .isnt (.call 15 (.cons (.var 4) (.cons (.var 9) .nil))) (.cst (.bl false))) (.cons (.ret (.cst (.bl false))) .nil) .nil) .nil)) (.cons (.set 10 (.lst (.cons (.eqo (.make 2 (.cons (.var 3) .nil)) (.make 2 (.cons (.var 3) .nil))) (.cons (.eqo (.make 2 (.cons (.var 3) .nil)) (.make 2 (.cons (.bin .add (.var 3) (.tup (.cons (.cst (.int 0)) .nil))) .nil))) .nil)))) (.cons (.set 10 (.bin .add (.var 10) (.lst (.cons (.eqo (.make 2 (.cons (.var 3) .nil)) (.var 3)) (.cons (.eqo (.make 2 (.cons (.blt1 .tuple (.blt1 .list (.var 3))) .nil)) (.make 2 (.cons (.bin .add (.slc (.var 3) (.cst .non) (.neg (.cst (.int 1)))) (.slc (.var 3) (.neg (.cst (.int 1))) (.cst .non))) .nil))) .nil))))) (.cons (.ret (.cmp .eq (.var 10) (.lst (.cons (.cst (.bl true)) (.cons (.cst (.bl false)) (.cons (.cst (.bl false)) (.cons (.cst (.bl true)) .nil))))))) .nil)))))))))))
/-- _law_point: 0 pen 1 many 2 found 3 k -/
def b__law_point : S := (.cons (.set 2 (.lst .nil)) (.cons (.for_ (.v 3) (.rng1 (.var 1)) (.cons (.app 2 (.call 31 (.cons (.bin .sub (.call 28 (.cons (.var 0) (.cons (.cst (.int 41)) .nil))) (.cst (.int 20))) (.cons (.bin .add (.cst (.int 1)) (.call 28 (.cons (.var 0) (.cons (.cst (.int 4)) .nil)))) .nil)))) .nil)) (.cons (.ret (.blt1 .tuple (.var 2))) .nil)))
/-- _law_kept_right: 0 pen 1 many 2 point 3 rows 4 lap 5 factors 6 sign 7 number 8 total 9 factor 10 part 11 system 12 some 13 due 14 odds 15 odd 16 row -/
def b__law_kept_right : S := (.cons (.par [2, 3] (.cons (.call 40 (.cons (.var 0) (.cons (.var 1) .nil))) (.cons (.lst .nil) .nil))) (.cons (.for_ (.v 4) (.rng1 (.call 28 (.cons (.var 0) (.cons (.cst (.int 6)) .nil)))) (.cons (.sets (.t [5, 6, 7]) (.call 33 (.cons (.var 0) (.cons (.var 1) (.cons (.cst (.int 5)) .nil))))) (.cons (.set 8 (.tup (.cons (.cst (.int 0)) (.cons (.cst (.int 1)) .nil)))) (.cons (.for_ (.t [9, 10]) (.zip (.var 5) (.var 2)) (.cons (.set 8 (.call 32 (.cons (.var 8) (.cons (.call 31 (.cons (.bin .mul (.var 9) (.idx (.var 10) (.cst (.int 0)))) (.cons (.idx (.var 10) (.cst (.int 1))) .nil))) .nil)))) .nil)) (.cons (.set 7 (.bin .add (.bin .fdiv (.idx (.var 8) (.cst (.int 0))) (.idx (.var 8) (.cst (.int 1)))) (.call 29 (.cons (.var 0) (.cons (.ite (.cmp .gt (.var 4) (.cst (.int 0))) (.lst (.cons (.cst (.int 0)) (.cons (.cst (.int 0)) (.cons (.cst (.int 0)) (.cons (.neg (.cst (.int 1))) (.cons (.neg (.cst (.int 9))) .nil)))))) (.lst (.cons (.cst (.int 0)) (.cons (.cst (.int 1)) (.cons (.neg (.cst (.int 1))) .nil))))) .nil))))) (.cons (.app 3 (.tup (.cons (.var 5) (.cons (.var 6) (.cons (.var 7) .nil))))) .nil)))))) (.cons (.set 11 (.tup (.cons (.var 1) (.cons (.blt1 .tuple (.var 3)) .nil)))) (.cons (.for_ (.v 12) (.walk (.lst (.cons (.var 2) (.cons (.call 40 (.cons (.var 0) (.cons (.var 1) .nil))) (.cons (.blt1 .tuple (.bin .mul (.lst (.cons (.tup (.cons (.cst (.int 0)) (.cons (.cst (.int 1)) .nil))) .nil)) (.var 1))) .nil))))) (.cons (.set 13 (.cmp .eq (.comp [16] (.v 16) (.walk (.var 3)) (.cons (.not (.call 34 (.cons (.var 16) (.cons (.var 12) .nil)))) .nil) (.var 16)) (.lst .nil))) (.cons (.ite (.cmp .ne (.blt1 .repr (.call 13 (.cons (.var 11) (.cons (.var 12) .nil)))) (.blt1 .repr (.var 13))) (.cons (.ret (.cst (.bl false))) .nil) .nil) .nil))) (.cons (.set 14 (.lst (.cons (.cst .non) (.cons (.blt1 .list (.var 2)) (.cons (.bin .add (.var 2) (.tup (.cons (.tup (.cons (.cst (.int 0)) (.cons (.cst (.int 1)) .nil))) .nil))) (.cons (.cst (.int 5)) (.cons (.cst (.str "")) (.cons (.bin .add (.slc (.var 2) (.cst (.int 1)) (.cst .non)) (.tup (.cons (.tup (.cons (.cst (.int 2)) (.cons (.cst (.int 2)) .nil))) .nil))) (.cons (.bin .mul (.tup (.cons (.tup (.cons (.cst (.int 1)) (.cons (.cst (.int 0)) .nil))) .nil)) (.blt2 .max (.var 1) (.cst (.int 1)))) .nil))))))))) (.cons (.for_ (.v 10) (.walk (.lst (.cons (.tup (.cons (.cst (.int 0)) (.cons (.cst (.int 2)) .nil))) (.cons (.tup (.cons (.cst (.bl true)) (.cons (.cst (.int 1)) .nil))) (.cons (.cst (.int 5)) (.cons (.tup (.cons (.cst (.int 1)) (.cons (.neg (.cst (.int 1))) .nil))) (.cons (.lst (.cons (.cst (.int 1)) (.cons (.cst (.int 1)) .nil))) (.cons (.cst .non) .nil)))))))) (.cons (.app 14 (.bin .mul (.tup (.cons (.var 10) .nil)) (.blt2 .max (.var 1) (.cst (.int 1))))) .nil)) (.cons (.for_ (.v 15) (.walk (.var 14)) (.cons (.ite (.cmp .isnt (.call 13 (.cons (.var 11) (.cons (.var 15) .nil))) (.cst (.bl false))) (.cons (.ret (.cst (.bl false))) .nil) .nil) .nil)) (.cons (.ret (.cst (.bl true))) .nil))))))))
/-- _law_told: 0 way 1 value 2 found 3 e -/
def b__law_told : S := (.cons (.set 2 (.lst (.cons (.cst (.str "none")) .nil))) (.cons (.try_ (.cons (.ite (.cmp .eq (.var 0) (.cst (.int 0))) (.cons (.drop (.call 13 (.cons (.var 1) (.cons (.cst .non) .nil)))) .nil) (.cons (.ite (.cmp .eq (.var 0) (.cst (.int 1))) (.cons (.drop (.call 15 (.cons (.var 1) (.cons (.cst .non) .nil)))) .nil) (.cons (.drop (.call 26 (.cons (.var 1) .nil))) .nil)) .nil)) .nil) (.han 1 (some 3) (.cons (.set 2 (.lst (.cons (.cst (.str "facts")) (.cons (.exf 0) .nil)))) .nil) (.han 0 none (.cons (.set 2 (.lst (.cons (.cst (.str "other")) .nil))) .nil) .nil))) (.cons (.frz 2) (.cons (.ret (.var 2)) .nil))))
/-- _law_systems_right: 0 pen 1 many 2 rows 3 system 4 row 5 odds 6 word 7 number 8 odd 9 way 10 lap -/
def b__law_systems_right : S := (.cons (.set 2 (.blt1 .tuple (.comp [10] (.v 10) (.rng1 (.bin .add (.cst (.int 1)) (.call 28 (.cons (.var 0) (.cons (.cst (.int 8)) .nil))))) .nil (.call 33 (.cons (.var 0) (.cons (.var 1) (.cons (.cst (.int 1000)) .nil))))))) (.cons (.par [3, 4] (.cons (.tup (.cons (.var 1) (.cons (.var 2) .nil))) (.cons (.idx (.var 2) (.cst (.int 0))) .nil))) (.cons (.ite (.or (.cmp .isnt (.call 8 (.cons (.var 3) .nil)) (.cst (.bl true))) (.cmp .isnt (.call 8 (.cons (.tup (.cons (.var 1) (.cons (.tup .nil) .nil))) .nil)) (.cst (.bl true)))) (.cons (.ret (.cst (.bl false))) .nil) .nil) (.cons (.set 5 (.lst (.cons (.cst .non) (.cons (.tup .nil) (.cons (.var 2) (.cons (.lst (.cons (.var 1) (.cons (.var 2) .nil))) (.cons (.tup (.cons (.var 1) (.cons (.blt1 .list (.var 2)) .nil))) (.cons (.tup (.cons (.bin .add (.var 1) (.cst (.int 1))) (.cons (.var 2) .nil))) (.cons (.tup (.cons (.neg (.cst (.int 1))) (.cons (.var 2) .nil))) (.cons (.tup (.cons (.cst (.bl true)) (.cons (.var 2) .nil))) (.cons (.tup (.cons (.cst .non) (.cons (.var 2) .nil))) .nil))))))))))) (.cons (.set 5 (.bin .add (.var 5) (.lst (.cons (.tup (.cons (.var 1) (.cons (.bin .add (.var 2) (.tup (.cons (.cst .non) .nil))) .nil))) (.cons (.tup (.cons (.var 1) (.cons (.bin .add (.var 2) (.tup (.cons (.slc (.var 4) (.cst .non) (.cst (.int 2))) .nil))) .nil))) (.cons (.tup (.cons (.var 1) (.cons (.bin .add (.var 2) (.tup (.cons (.blt1 .list (.var 4)) .nil))) .nil))) (.cons (.tup (.cons (.var 1) (.cons (.var 2) (.cons (.tup .nil) .nil)))) .nil))))))) (.cons (.app 5 (.tup (.cons (.var 1) (.cons (.bin .add (.var 2) (.tup (.cons (.tup (.cons (.blt1 .list (.idx (.var 4) (.cst (.int 0)))) (.cons (.idx (.var 4) (.cst (.int 1))) (.cons (.idx (.var 4) (.cst (.int 2))) .nil)))) .nil))) .nil)))) (.cons (.app 5 (.tup (.cons (.var 1) (.cons (.bin .add (.var 2) (.tup (.cons (.tup (.cons (.bin .add (.idx (.var 4) (.cst (.int 0))) (.tup (.cons (.cst (.int 0)) .nil))) (.cons (.idx (.var 4) (.cst (.int 1))) (.cons (.idx (.var 4) (.cst (.int 2))) .nil)))) .nil))) .nil)))) (.cons (.for_ (.v 6) (.walk (.lst (.cons (.cst (.str "<")) (.cons (.cst (.str "=>")) (.cons (.cst .non) (.cons (.cst (.str "")) (.cons (.cst (.str ">=>")) .nil))))))) (.cons (.app 5 (.tup (.cons (.var 1) (.cons (.bin .add (.var 2) (.tup (.cons (.tup (.cons (.idx (.var 4) (.cst (.int 0))) (.cons (.var 6) (.cons (.idx (.var 4) (.cst (.int 2))) .nil)))) .nil))) .nil)))) .nil)) (.cons (.for_ (.v 7) (.walk (.lst (.cons (.cst (.bl true)) (.cons (.cst (.str "0")) (.cons (.cst .non) (.cons (.tup (.cons (.cst (.int 1)) (.cons (.cst (.int 1)) .nil))) .nil)))))) (.cons (.app 5 (.tup (.cons (.var 1) (.cons (.bin .add (.tup (.cons (.tup (.cons (.idx (.var 4) (.cst (.int 0))) (.cons (.idx (.var 4) (.cst (.int 1))) (.cons (.var 7) .nil)))) .nil)) (.var 2)) .nil)))) .nil)) (.cons (.ite (.cmp .gt (.var 1) (.cst (.int 0))) (.cons (.app 5 (.tup (.cons (.var 1) (.cons (.bin .add (.var 2) (.tup (.cons (.tup (.cons (.bin .add (.slc (.idx (.var 4) (.cst (.int 0))) (.cst .non) (.neg (.cst (.int 1)))) (.tup (.cons (.cst (.bl true)) .nil))) (.cons (.idx (.var 4) (.cst (.int 1))) (.cons (.idx (.var 4) (.cst (.int 2))) .nil)))) .nil))) .nil)))) (.cons (.app 5 (.tup (.cons (.var 1) (.cons (.bin .add (.var 2) (.tup (.cons (.tup (.cons (.bin .add (.slc (.idx (.var 4) (.cst (.int 0))) (.cst .non) (.neg (.cst (.int 1)))) (.tup (.cons (.tup (.cons (.cst (.int 1)) (.cons (.cst (.int 1)) .nil))) .nil))) (.cons (.idx (.var 4) (.cst (.int 1))) (.cons (.idx (.var 4) (.cst (.int 2))) .nil)))) .nil))) .nil)))) .nil)) .nil) (.cons (.for_ (.v 8) (.walk (.var 5)) (.cons (.ite (.cmp .isnt (.call 8 (.cons (.var 8) .nil)) (.cst (.bl false))) (.cons (.ret (.cst (.bl false))) .nil) .nil) (.cons (.for_ (.v 9) (.rng1 (.cst (.int 3))) (.cons (.ite (.cmp .ne (.blt1 .repr (.call 42 (.cons (.var 9) (.cons (.var 8) .nil)))) (.blt1 .repr (.lst (.cons (.cst (.str "facts")) (.cons (.var 8) .nil))))) (.cons (.ret (.cst (.bl false))) .nil) .nil) .nil)) .nil))) (.cons (.ret (.cst (.bl true))) .nil))))))))))))
/-- law: 0 script 1 pen 2 lap 3 many -/
def b_law : S := (.cons (.set 1 (.call 27 (.cons (.var 0) .nil))) (.cons (.for_ (.v 2) (.rng1 (.cst (.int 4))) (.cons (.set 3 (.call 28 (.cons (.var 1) (.cons (.cst (.int 7)) .nil)))) (.cons (.ite (.or (.not (.call 39 (.cons (.var 1) (.cons (.var 3) .nil)))) (.or (.not (.call 41 (.cons (.var 1) (.cons (.var 3) .nil)))) (.not (.call 43 (.cons (.var 1) (.cons (.var 3) .nil)))))) (.cons (.ret (.cst (.bl false))) .nil) .nil) .nil))) (.cons (.ret (.cst (.bl true))) .nil)))
def prog (fuel : Nat) : Prog := {
  fns := [⟨1, 1, b_is_whole⟩, ⟨1, 1, b_is_count⟩, ⟨1, 2, b_is_fraction⟩, ⟨2, 3, b_fraction_of⟩, ⟨2, 2, b_added⟩, ⟨2, 2, b_is_less⟩, ⟨2, 2, b_Refuted_eq⟩, ⟨2, 3, b_is_row⟩, ⟨1, 2, b_is_system⟩, ⟨1, 1, b_need_system⟩, ⟨2, 5, b_sum_at⟩, ⟨2, 4, b_keeps_row⟩, ⟨2, 3, b_is_point⟩, ⟨2, 3, b_keeps⟩, ⟨2, 11, b_are_refuting⟩, ⟨2, 3, b_refutes⟩, ⟨3, 13, b_Tableau_exchange⟩, ⟨1, 4, b_Tableau_entering⟩, ⟨4, 6, b_Tableau_is_nearer⟩, ⟨2, 4, b_Tableau_leaving⟩, ⟨1, 2, b_Tableau_improve⟩, ⟨1, 5, b_Tableau_get_ready⟩, ⟨2, 8, b_Tableau_aim⟩, ⟨1, 1, b_Tableau_reached⟩, ⟨2, 2, b_Tableau_worth_of⟩, ⟨2, 2, b_Tableau_price_of⟩, ⟨1, 15, b_solved⟩, ⟨1, 3, b__law_pen⟩, ⟨2, 5, b__law_draw⟩, ⟨2, 2, b__law_pick⟩, ⟨2, 6, b__law_shuffled⟩, ⟨2, 6, b__law_frac⟩, ⟨2, 2, b__law_add⟩, ⟨3, 5, b__law_row⟩, ⟨2, 6, b__law_keeps⟩, ⟨3, 9, b__law_refuting⟩, ⟨1, 1, b__law_is_integer⟩, ⟨2, 15, b__law_planted⟩, ⟨2, 3, b__law_is_right_refuted⟩, ⟨2, 11, b__law_refuted_right⟩, ⟨2, 4, b__law_point⟩, ⟨2, 17, b__law_kept_right⟩, ⟨2, 4, b__law_told⟩, ⟨2, 11, b__law_systems_right⟩, ⟨1, 4, b_law⟩],
  gl := [],
  sub := fun a b => [(0, 0), (1, 1), (1, 0), (2, 2), (3, 3)].contains (a, b),
  eqf := fun c => ([(2, 6)] : List (Nat × Nat)).lookup c,
  fuel := fuel }
def lawF : Nat := 44
end Pr
end R

/-! M2: the law's pen and its draws. -/
namespace R
open PySem L2
abbrev P0 : Prog := Pr.prog 1
structure Pen where
  cells : List Int
  at_ : Nat
  digits : Int
  count : Nat
  fold : Int
def Pen.kv (p : Pen) : List (Key × D) :=
  [(.inr "cells", .lst (p.cells.map .int)), (.inr "at", .int p.at_), (.inr "digits", .int p.digits), (.inr "count", .int p.count), (.inr "fold", .int p.fold)]
structure Pen.ok (p : Pen) (N : Nat) : Prop where
  dig : 0 ≤ p.digits
  cnt : p.count ≤ N
  fol : 0 ≤ p.fold
  fol' : p.fold < 2147483497
theorem Pen.ok.up {p : Pen} {N M : Nat} (h : p.ok N) (hm : N ≤ M) : p.ok M := ⟨h.1, by have := h.2; omega, h.3, h.4⟩
theorem g_cells (p : Pen) (κ : Cells) : idxC (p.kv :: κ) (.obj 0) (.str "cells") = some (.lst (p.cells.map .int)) := rfl
theorem g_at (p : Pen) (κ : Cells) : idxC (p.kv :: κ) (.obj 0) (.str "at") = some (.int p.at_) := rfl
theorem g_digits (p : Pen) (κ : Cells) : idxC (p.kv :: κ) (.obj 0) (.str "digits") = some (.int p.digits) := rfl
theorem g_count (p : Pen) (κ : Cells) : idxC (p.kv :: κ) (.obj 0) (.str "count") = some (.int p.count) := rfl
theorem g_fold (p : Pen) (κ : Cells) : idxC (p.kv :: κ) (.obj 0) (.str "fold") = some (.int p.fold) := rfl
theorem kv_len (p : Pen) : p.kv.length < sizeLine := by
  show 5 < sizeLine
  rw [sizeLine_eq]
  omega
theorem p_at (p : Pen) : putP p.kv (.inr "at") (.int (p.at_ + 1)) = Pen.kv { p with at_ := p.at_ + 1 } := rfl
theorem p_digits (p : Pen) (i : Int) : putP p.kv (.inr "digits") (.int i) = Pen.kv { p with digits := i } := rfl
theorem p_count (p : Pen) : putP p.kv (.inr "count") (.int (p.count + 1)) = Pen.kv { p with count := p.count + 1 } := rfl
theorem p_fold (p : Pen) (i : Int) : putP p.kv (.inr "fold") (.int i) = Pen.kv { p with fold := i } := rfl
theorem log_lt {n k : Nat} (h : n < 2 ^ (k + 1)) : n.log2 < k + 1 := by
  rcases Nat.eq_zero_or_pos n with h0 | h0
  · subst h0; simp
  · exact (Nat.log2_lt (by omega)).mpr h
theorem mulOk_of {i j : Int} {a b : Nat} (hi : i.natAbs < 2 ^ (a + 1)) (hj : j.natAbs < 2 ^ (b + 1)) (hab : a + b + 2 ≤ 1000000) : mulOk i j = true := by
  have h1 := log_lt hi
  have h2 := log_lt hj
  exact (decide_eq_true (by omega))
theorem divOk_of {j : Int} (h0 : j ≠ 0) (hj : j.natAbs < 2 ^ 200) : divOk j = true := by
  have h : j.natAbs.log2 < 200 := log_lt (k := 199) hj
  unfold divOk
  rw [decide_eq_true h0, decide_eq_true (show j.natAbs.log2 < 9000 by omega)]
  rfl
/-- what the bodies know -/
def Gm (n : Nat) : Cxt := ⟨P0.gl, [], callN P0 n, P0.fuel, P0.sub, P0.eqf⟩
@[simp] theorem Gm_calls (n : Nat) : (Gm n).calls = callN P0 n := rfl
@[simp] theorem Gm_eqf (n : Nat) : (Gm n).eqf 2 = some 6 := rfl
theorem call0 {n f : Nat} {fn : Fn} {ds : List D} {κ : Cells} (hf : P0.fns[f]? = some fn) (hl : ds.length = fn.ps) :
    callN P0 (n + 1) f ds κ = (exec (Gm n) fn.body (startS fn ds) κ).out := callN_eq hf hl
theorem fns28 : P0.fns[28]? = some ⟨2, 5, Pr.b__law_draw⟩ := rfl
/-- the draw's end -/
theorem draw_end (n : Nat) (p : Pen) (N : Nat) (hp : p.ok N) (hN : N ≤ 1000001) (m : Int) (hm : 0 < m) (hm' : m < 2 ^ 40) (c : Option O) :
    ∃ (k : Int) (p' : Pen), (exec (Gm n) (sR 2 Pr.b__law_draw) [some (.fz (.obj 0)), some (.fz (.int m)), c, none, none] [p.kv]).out = .ok (.int k, [p'.kv]) ∧ 0 ≤ k ∧ k < m ∧ p'.ok N := by
  obtain ⟨h1, h2, h3, h4⟩ := hp
  have hm0 : m ≠ 0 := by omega
  by_cases hd : 0 < p.digits
  · refine ⟨p.digits.fmod m, { p with digits := p.digits.fdiv m }, ?_, Int.fmod_nonneg_of_pos _ hm, Int.fmod_lt_of_pos _ hm, ⟨Int.fdiv_nonneg h1 (by omega), h2, h3, h4⟩⟩
    simp [sR, Pr.b__law_draw, g_count, g_cells, g_at, g_digits, g_fold, kv_len, p_count, p_at, hd, setAt_eq, b_mod hm0, b_fdiv (divOk_of hm0 (by omega)), p_digits]
  · have e : divOk 512 = true := by decide
    have e2 : mulOk p.count 8161 = true := mulOk_of (a := 29) (b := 29) (by omega) (by decide) (by decide)
    have e3 := b_pow (i := p.fold + p.count * 8161 + 37) (j := 17) (by decide) (by omega)
    refine ⟨((((p.fold + p.count * 8161 + 37) ^ 17).fmod 2305843009213693951).fdiv 512).fmod m, p, ?_, Int.fmod_nonneg_of_pos _ hm, Int.fmod_lt_of_pos _ hm, ⟨h1, h2, h3, h4⟩⟩
    simp [sR, Pr.b__law_draw, g_count, g_cells, g_at, g_digits, g_fold, kv_len, p_count, p_at, hd, setAt_eq, b_mod hm0, b_mod (show (2305843009213693951 : Int) ≠ 0 by decide), b_fdiv e, b_mul e2, show binD .pow (.int (p.fold + p.count * 8161 + 37)) (.int 17) = _ from e3]
theorem draw_split : Pr.b__law_draw = .cons (sN 0 Pr.b__law_draw) (.cons (sN 1 Pr.b__law_draw) (sR 2 Pr.b__law_draw)) := rfl
theorem draw_ok (n : Nat) (p : Pen) (N : Nat) (hp : p.ok N) (hN : N ≤ 1000000) (m : Int) (hm : 0 < m) (hm' : m < 2 ^ 40) :
    ∃ (k : Int) (p' : Pen), callN P0 (n + 1) 28 [.obj 0, .int m] [p.kv] = .ok (.int k, [p'.kv]) ∧ 0 ≤ k ∧ k < m ∧ p'.ok (N + 1) := by
  rw [call0 fns28 rfl]
  have hE := fun (p : Pen) (hp : p.ok (N + 1)) (c : Option O) => draw_end n p (N + 1) hp (by omega) m hm hm' c
  rw [show (⟨2, 5, Pr.b__law_draw⟩ : Fn).body = Pr.b__law_draw from rfl, draw_split]
  generalize sR 2 Pr.b__law_draw = R at hE
  obtain ⟨h1, h2, h3, h4⟩ := hp
  have e1 : binD .pow (.int 10) (.int 18) = some (.fz (.int (10 ^ 18))) := b_pow (i := 10) (j := 18) (by decide) (by decide)
  have e2 : mulOk p.fold 69621 = true := mulOk_of (a := 30) (b := 30) (by omega) (by decide) (by decide)
  by_cases h0 : p.digits = 0
  · by_cases ha : p.at_ < p.cells.length
    · have hc : atI (p.cells.map D.int) (p.at_ : Int) = some (.int p.cells[p.at_]) := atI_nat (by simp [ha])
      by_cases hb : (1000000000000000000 : Int) ≤ p.cells[p.at_]
      · obtain ⟨k, p', hk⟩ := hE { p with at_ := p.at_ + 1, count := p.count + 1, digits := p.cells[p.at_] - 1000000000000000000 } ⟨by show 0 ≤ p.cells[p.at_] - 1000000000000000000; omega, Nat.succ_le_succ h2, h3, h4⟩ (some (.fz (.int p.cells[p.at_])))
        refine ⟨k, p', ?_⟩
        simpa [startS, sN, Pr.b__law_draw, g_count, g_cells, g_at, g_digits, g_fold, kv_len, p_count, p_at, h0, ha, hb, hc, setAt_eq, b_fdiv, b_mul e2, p_digits, e1] using hk
      · obtain ⟨k, p', hk⟩ := hE { p with at_ := p.at_ + 1, count := p.count + 1, digits := 0, fold := (p.fold * 69621 + p.cells[p.at_]).fmod 2147483497 } ⟨by show (0 : Int) ≤ 0; omega, Nat.succ_le_succ h2, Int.fmod_nonneg_of_pos _ (by decide), Int.fmod_lt_of_pos _ (by decide)⟩ (some (.fz (.int p.cells[p.at_])))
        refine ⟨k, p', ?_⟩
        simpa [startS, sN, Pr.b__law_draw, g_count, g_cells, g_at, g_digits, g_fold, kv_len, p_count, p_at, h0, ha, hb, hc, setAt_eq, b_fdiv, b_mul e2, p_digits, p_fold, e1, b_mod (show (2147483497 : Int) ≠ 0 by decide)] using hk
    · obtain ⟨k, p', hk⟩ := hE { p with count := p.count + 1, digits := 0 } ⟨by show (0 : Int) ≤ 0; omega, Nat.succ_le_succ h2, h3, h4⟩ none
      refine ⟨k, p', ?_⟩
      simpa [startS, sN, Pr.b__law_draw, g_count, g_cells, g_at, g_digits, g_fold, kv_len, p_count, p_at, h0, ha, setAt_eq] using hk
  · obtain ⟨k, p', hk⟩ := hE { p with count := p.count + 1 } ⟨h1, Nat.succ_le_succ h2, h3, h4⟩ none
    refine ⟨k, p', ?_⟩
    simpa [startS, sN, Pr.b__law_draw, g_count, g_cells, g_at, g_digits, g_fold, kv_len, p_count, p_at, h0, setAt_eq] using hk
end R

/-! M3: what the kinds of values are. -/
namespace R
open PySem L2
mutual
def D.nice : D → Bool
  | .non | .bl _ | .int _ | .str _ => true
  | .tup xs | .lst xs => decide (xs.length ≤ 100) && niceAll xs
  | _ => false
def niceAll : List D → Bool
  | [] => true
  | x :: xs => D.nice x && niceAll xs
end
theorem nice_mem {xs : List D} (h : niceAll xs = true) : ∀ x ∈ xs, x.nice = true := by
  induction xs with
  | nil => simp
  | cons a r ih =>
    rw [niceAll, Bool.and_eq_true] at h
    intro x hx
    rcases List.mem_cons.mp hx with e | e
    · rw [e]; exact h.1
    · exact ih h.2 x e
theorem nice_all {xs : List D} (h : ∀ x ∈ xs, x.nice = true) : niceAll xs = true := by
  induction xs with
  | nil => simp [niceAll]
  | cons a r ih =>
    rw [niceAll, h a (by simp), ih (fun x hx => h x (by simp [hx]))]
    rfl
theorem nice_ty {d : D} (h : d.nice = true) : hasTy d = true := by
  cases d <;> simp [D.nice, hasTy] at h ⊢
theorem nice_tup {xs : List D} (h : (D.tup xs).nice = true) : xs.length ≤ 100 ∧ niceAll xs = true := by
  simpa [D.nice] using h
theorem all_is {α : Type} {b : Option Nat} {f : α → Bool} {xs : List α} {t : Bool} (h : xs.all f = t) : blt1D .all (.ol b (xs.map fun x => .bl (f x))) = some (.fz (.bl t)) := by
  rw [all_map, h]
def whole : D → Bool
  | .int _ => true
  | _ => false
def countB : D → Bool
  | .int i => decide (0 ≤ i)
  | _ => false
theorem comp_mapD {g : D → D} {step : D → Cells → Out (List D × Cells)} {t : Tk step} {κ : Cells} {xs : List D}
    (h : ∀ x ∈ xs, step x κ = .ok ([g x], κ)) : compD step t xs κ = .ok (xs.map g, κ) := comp_map κ xs h
theorem comp_filterD {p : D → Bool} {g : D → D} {step : D → Cells → Out (List D × Cells)} {t : Tk step} {κ : Cells} {xs : List D}
    (h : ∀ x ∈ xs, step x κ = .ok (if p x then [g x] else [], κ)) : compD step t xs κ = .ok ((xs.filter p).map g, κ) := comp_filter κ xs h
theorem le_line {n : Nat} (h : n ≤ 100000) : n < sizeLine := by rw [sizeLine_eq]; omega
theorem le_line' {n : Nat} (h : n ≤ 100000) : n ≤ sizeLine := by rw [sizeLine_eq]; omega
@[simp] theorem whole_ok (n : Nat) (d : D) (κ : Cells) (h : hasTy d = true) : callN P0 (n + 1) 0 [d] κ = .ok (.bl (whole d), κ) := by
  rw [call0 (fn := ⟨1, 1, Pr.b_is_whole⟩) rfl rfl]
  cases d <;> simp [hasTy] at h <;> simp [sizeLine_eq, startS, wipeS, assignT, assign1, setAt_eq, isTy, Pr.b_is_whole, whole]
@[simp] theorem lint_ok (n : Nat) (d : D) (κ : Cells) (h : hasTy d = true) : callN P0 (n + 1) 36 [d] κ = .ok (.bl (whole d), κ) := by
  rw [call0 (fn := ⟨1, 1, Pr.b__law_is_integer⟩) rfl rfl]
  cases d <;> simp [hasTy] at h <;> simp [sizeLine_eq, startS, wipeS, assignT, assign1, setAt_eq, isTy, Pr.b__law_is_integer, whole]
@[simp] theorem count_ok (n : Nat) (d : D) (κ : Cells) (h : hasTy d = true) : callN P0 (n + 2) 1 [d] κ = .ok (.bl (countB d), κ) := by
  rw [call0 (fn := ⟨1, 1, Pr.b_is_count⟩) rfl rfl]
  cases d <;> simp [hasTy] at h <;> simp [sizeLine_eq, startS, wipeS, assignT, assign1, setAt_eq, isTy, Pr.b_is_count, whole, countB]
def fracB : D → Bool
  | .tup [.int a, .int b] => decide (1 ≤ b) && (Nat.gcd a.natAbs b.natAbs == 1)
  | _ => false
@[simp] theorem whole_i (i : Int) : whole (.int i) = true := by simp only [whole]
theorem whole_int {d : D} (h : whole d = true) : ∃ i, d = .int i := by
  cases d <;> simp [whole] at h
  exact ⟨_, rfl⟩
theorem fracB_no {a b : D} (h : (whole a && whole b) = false) : fracB (.tup [a, b]) = false := by
  cases a <;> cases b <;> simp [whole, fracB] at h ⊢
theorem fracB_len {xs : List D} (h : xs.length ≠ 2) : fracB (.tup xs) = false := by
  match xs, h with
  | [], _ => rfl
  | [_], _ => simp [fracB]
  | _ :: _ :: _ :: _, _ => simp [fracB]
theorem frac_ok (n : Nat) (d : D) (κ : Cells) (h : d.nice = true) : callN P0 (n + 2) 2 [d] κ = .ok (.bl (fracB d), κ) := by
  rw [call0 (fn := ⟨1, 2, Pr.b_is_fraction⟩) rfl rfl]
  have hk := nice_ty h
  cases d with
  | tup xs =>
    obtain ⟨hl, ha⟩ := nice_tup h
    have hm := nice_mem ha
    by_cases h2 : xs.length = 2
    · obtain ⟨a, b, rfl⟩ : ∃ a b, xs = [a, b] := by
        match xs, h2 with
        | [a, b], _ => exact ⟨a, b, rfl⟩
      simp [sizeLine_eq, startS, wipeS, assignT, assign1, setAt_eq, isTy, Pr.b_is_fraction]
      rw [comp_mapD (g := fun x => .bl (whole x)) (by
        intro x hx
        simp [sizeLine_eq, startS, wipeS, assignT, assign1, setAt_eq, isTy, nice_ty (hm x hx)])]
      cases hw : (whole a && whole b) with
      | false =>
        rw [fracB_no hw]
        rw [Bool.and_eq_false_iff] at hw
        rcases hw with hw | hw <;> simp [blt1D, asBools, hw, sizeLine_eq, startS, wipeS, assignT, assign1, setAt_eq, isTy]
      | true =>
        rw [Bool.and_eq_true] at hw
        obtain ⟨i, rfl⟩ := whole_int hw.1
        obtain ⟨j, rfl⟩ := whole_int hw.2
        by_cases hj : 1 ≤ j
        · simp [blt1D, asBools, hw, sizeLine_eq, startS, wipeS, assignT, assign1, setAt_eq, isTy, hj, fracB]
          rw [Bool.eq_iff_iff]
          simp
          omega
        · simp [blt1D, asBools, hw, sizeLine_eq, startS, wipeS, assignT, assign1, setAt_eq, isTy, hj, fracB]
    · have h2' : ¬ (xs.length : Int) = 2 := by omega
      simp [sizeLine_eq, startS, wipeS, assignT, assign1, setAt_eq, isTy, Pr.b_is_fraction, fracB_len h2, h2']
  | _ => simp [hasTy] at hk <;> simp [sizeLine_eq, startS, wipeS, assignT, assign1, setAt_eq, isTy, Pr.b_is_fraction, fracB]

/-! ### rows, systems, points -/
def sgB (s : Str) : Bool := ((">=" : Str) == s) || ((">" : Str) == s)
@[simp] theorem in_sg (s : Str) : cmpD .in_ (.str s) (.tup [.str ">=", .str ">"]) = some (sgB s) := by
  simp [cmpD, inD, D.flat, flatEq, sgB]
def rowB (many : Int) : D → Bool
  | .tup [.tup fs, .str s, .int _] => decide ((fs.length : Int) = many) && fs.all whole && sgB s
  | _ => false
theorem rowB_len {many : Int} {xs : List D} (h : xs.length ≠ 3) : rowB many (.tup xs) = false := by
  match xs, h with
  | [], _ => rfl
  | [_], _ => simp [rowB]
  | [_, _], _ => simp [rowB]
  | _ :: _ :: _ :: _ :: _, _ => simp [rowB]
theorem row_ok (n : Nat) (d : D) (many : Int) (κ : Cells) (h : d.nice = true) : callN P0 (n + 2) 7 [d, .int many] κ = .ok (.bl (rowB many d), κ) := by
  rw [call0 (fn := ⟨2, 3, Pr.b_is_row⟩) rfl rfl]
  have hk := nice_ty h
  cases d with
  | tup xs =>
    obtain ⟨hl, ha⟩ := nice_tup h
    have hm := nice_mem ha
    by_cases h2 : xs.length = 3
    · obtain ⟨a, b, c, rfl⟩ : ∃ a b c, xs = [a, b, c] := by
        match xs, h2 with
        | [a, b, c], _ => exact ⟨a, b, c, rfl⟩
      have na := hm a (by simp)
      have nb := nice_ty (hm b (by simp))
      have nc := nice_ty (hm c (by simp))
      have ta := nice_ty na
      cases a with
      | tup fs =>
        obtain ⟨hl1, ha1⟩ := nice_tup na
        have hm1 := nice_mem ha1
        by_cases hq : (fs.length : Int) = many
        · simp [sizeLine_eq, startS, wipeS, assignT, assign1, setAt_eq, isTy, Pr.b_is_row, hq]
          rw [comp_mapD (g := fun x => .bl (whole x)) (by
            intro x hx
            simp [sizeLine_eq, startS, wipeS, assignT, assign1, setAt_eq, isTy, nice_ty (hm1 x hx)])]
          have hz : fs.length < 16777216 := by omega
          cases hw : fs.all whole with
          | false =>
            have e : rowB many (.tup [.tup fs, b, c]) = false := by
              cases b <;> cases c <;> simp only [rowB, hw, Bool.and_false, Bool.false_and]
            simp [all_is hw, hz, e, sizeLine_eq, startS, wipeS, assignT, assign1, setAt_eq, isTy]
          | true =>
            cases hc : whole c with
            | false =>
              have e : rowB many (.tup [.tup fs, b, c]) = false := by
                cases b <;> cases c <;> first | rfl | (simp [whole] at hc; done)
              simp [all_is hw, hz, e, sizeLine_eq, startS, wipeS, assignT, assign1, setAt_eq, isTy, nc, hc]
            | true =>
              obtain ⟨i, rfl⟩ := whole_int hc
              cases b <;> simp [hasTy] at nb <;> simp only [rowB, hw] <;> simp [all_is hw, hz, sizeLine_eq, startS, wipeS, assignT, assign1, setAt_eq, isTy, hq]
        · have e : rowB many (.tup [.tup fs, b, c]) = false := by
            cases b <;> cases c <;> simp [rowB, hq]
          simp [sizeLine_eq, startS, wipeS, assignT, assign1, setAt_eq, isTy, Pr.b_is_row, hq, e]
      | _ => simp [hasTy] at ta <;> simp [sizeLine_eq, startS, wipeS, assignT, assign1, setAt_eq, isTy, Pr.b_is_row, rowB]
    · have h2' : ¬ (xs.length : Int) = 3 := by omega
      simp [sizeLine_eq, startS, wipeS, assignT, assign1, setAt_eq, isTy, Pr.b_is_row, rowB_len h2, h2']
  | _ => simp [hasTy] at hk <;> simp [sizeLine_eq, startS, wipeS, assignT, assign1, setAt_eq, isTy, Pr.b_is_row, rowB]
def sysB : D → Bool
  | .tup [.int m, .tup rows] => decide (0 ≤ m) && rows.all (rowB m)
  | _ => false
theorem sysB_len {xs : List D} (h : xs.length ≠ 2) : sysB (.tup xs) = false := by
  match xs, h with
  | [], _ => rfl
  | [_], _ => simp [sysB]
  | _ :: _ :: _ :: _, _ => simp [sysB]
theorem sys_ok (n : Nat) (d : D) (κ : Cells) (h : d.nice = true) : callN P0 (n + 3) 8 [d] κ = .ok (.bl (sysB d), κ) := by
  rw [call0 (fn := ⟨1, 2, Pr.b_is_system⟩) rfl rfl]
  have hk := nice_ty h
  cases d with
  | tup xs =>
    obtain ⟨hl, ha⟩ := nice_tup h
    have hm := nice_mem ha
    by_cases h2 : xs.length = 2
    · obtain ⟨a, b, rfl⟩ : ∃ a b, xs = [a, b] := by
        match xs, h2 with
        | [a, b], _ => exact ⟨a, b, rfl⟩
      have ta := nice_ty (hm a (by simp))
      have nb := hm b (by simp)
      have tb := nice_ty nb
      cases hc : countB a with
      | false =>
        have e : sysB (.tup [a, b]) = false := by
          cases a <;> cases b <;> simp [sysB, countB] at hc ⊢
          omega
        simp [sizeLine_eq, startS, wipeS, assignT, assign1, setAt_eq, isTy, Pr.b_is_system, ta, hc, e]
      | true =>
        obtain ⟨m, rfl⟩ : ∃ m, a = .int m := by
          cases a <;> simp [countB] at hc
          exact ⟨_, rfl⟩
        cases b with
        | tup rows =>
          obtain ⟨hl1, ha1⟩ := nice_tup nb
          have hm1 := nice_mem ha1
          simp [sizeLine_eq, startS, wipeS, assignT, assign1, setAt_eq, isTy, Pr.b_is_system, ta, hc]
          rw [comp_mapD (g := fun x => .bl (rowB m x)) (by
            intro x hx
            simp [sizeLine_eq, startS, wipeS, assignT, assign1, setAt_eq, isTy, row_ok n x m _ (hm1 x hx)])]
          have hz : rows.length < 16777216 := by omega
          have hm0 : 0 ≤ m := by simpa [countB] using hc
          simp [all_is rfl, sizeLine_eq, startS, wipeS, assignT, assign1, setAt_eq, isTy, hz, sysB, hm0]
        | _ => simp [hasTy] at tb <;> simp [sizeLine_eq, startS, wipeS, assignT, assign1, setAt_eq, isTy, Pr.b_is_system, ta, hc, sysB]
    · have h2' : ¬ (xs.length : Int) = 2 := by omega
      simp [sizeLine_eq, startS, wipeS, assignT, assign1, setAt_eq, isTy, Pr.b_is_system, sysB_len h2, h2']
  | _ => simp [hasTy] at hk <;> simp [sizeLine_eq, startS, wipeS, assignT, assign1, setAt_eq, isTy, Pr.b_is_system, sysB]
theorem need_yes (n : Nat) (d : D) (κ : Cells) (h : d.nice = true) (hs : sysB d = true) : callN P0 (n + 4) 9 [d] κ = .ok (.non, κ) := by
  rw [call0 (fn := ⟨1, 1, Pr.b_need_system⟩) rfl rfl]
  simp [sizeLine_eq, startS, wipeS, assignT, assign1, setAt_eq, isTy, Pr.b_need_system, sys_ok n d _ h, hs]
theorem need_no (n : Nat) (d : D) (κ : Cells) (h : d.nice = true) (hs : sysB d = false) : callN P0 (n + 4) 9 [d] κ = .exc 1 [d] κ := by
  rw [call0 (fn := ⟨1, 1, Pr.b_need_system⟩) rfl rfl]
  simp [sizeLine_eq, startS, wipeS, assignT, assign1, setAt_eq, isTy, Pr.b_need_system, sys_ok n d _ h, hs]
def pointB (many : Int) : D → Bool
  | .tup xs => decide ((xs.length : Int) = many) && xs.all fracB
  | _ => false
theorem point_ok (n : Nat) (d : D) (many : Int) (κ : Cells) (h : d.nice = true) : callN P0 (n + 3) 12 [d, .int many] κ = .ok (.bl (pointB many d), κ) := by
  rw [call0 (fn := ⟨2, 3, Pr.b_is_point⟩) rfl rfl]
  have hk := nice_ty h
  cases d with
  | tup xs =>
    obtain ⟨hl, ha⟩ := nice_tup h
    have hm := nice_mem ha
    have hz : xs.length < 16777216 := by omega
    by_cases hq : (xs.length : Int) = many
    · simp [sizeLine_eq, startS, wipeS, assignT, assign1, setAt_eq, isTy, Pr.b_is_point, hq]
      rw [comp_mapD (g := fun x => .bl (fracB x)) (by
        intro x hx
        simp [sizeLine_eq, startS, wipeS, assignT, assign1, setAt_eq, isTy, frac_ok n x _ (hm x hx)])]
      simp [all_is rfl, sizeLine_eq, startS, wipeS, assignT, assign1, setAt_eq, isTy, hz, pointB, hq]
    · simp [sizeLine_eq, startS, wipeS, assignT, assign1, setAt_eq, isTy, Pr.b_is_point, hq, pointB]
  | _ => simp [hasTy] at hk <;> simp [sizeLine_eq, startS, wipeS, assignT, assign1, setAt_eq, isTy, Pr.b_is_point, pointB]
end R

/-! M4: fractions. -/
namespace R
open PySem L2
def frD (p : Int × Int) : D := .tup [.int p.1, .int p.2]
/-- a number below 2^k -/
def Lt2 (k : Nat) (i : Int) : Prop := i.natAbs < 2 ^ k
theorem Lt2.up {k l : Nat} {i : Int} (h : Lt2 k i) (hl : k ≤ l) : Lt2 l i := Nat.lt_of_lt_of_le h (Nat.pow_le_pow_right (by decide) hl)
theorem Lt2.mul {k l : Nat} {i j : Int} (h : Lt2 k i) (g : Lt2 l j) : Lt2 (k + l) (i * j) := by
  unfold Lt2 at *
  rw [Int.natAbs_mul]; rw [Nat.pow_add]
  exact Nat.mul_lt_mul'' h g
theorem Lt2.add {k : Nat} {i j : Int} (h : Lt2 k i) (g : Lt2 k j) : Lt2 (k + 1) (i + j) := by
  unfold Lt2 at *
  have := Int.natAbs_add_le i j
  rw [Nat.pow_succ]
  omega
theorem Lt2.sub {k : Nat} {i j : Int} (h : Lt2 k i) (g : Lt2 k j) : Lt2 (k + 1) (i - j) := by
  unfold Lt2 at *
  have := Int.natAbs_sub_le i j
  rw [Nat.pow_succ]
  omega
theorem Lt2.ok {k l : Nat} {i j : Int} (h : Lt2 (k + 1) i) (g : Lt2 (l + 1) j) (hk : k + l ≤ 10000) : mulOk i j = true := mulOk_of h g (by omega)
theorem divOk_lt {k : Nat} {j : Int} (h0 : j ≠ 0) (h : Lt2 (k + 1) j) (hk : k ≤ 8000) : divOk j = true := by
  have h := log_lt h
  unfold divOk
  rw [decide_eq_true h0, decide_eq_true (show j.natAbs.log2 < 9000 by omega)]
  rfl
theorem fracof_ok (n : Nat) (a b : Int) (κ : Cells) (hb : 0 < b) (hs : Lt2 (4000 + 1) b) : callN P0 (n + 1) 3 [.int a, .int b] κ = .ok (frD (frF a b), κ) := by
  rw [call0 (fn := ⟨2, 3, Pr.b_fraction_of⟩) rfl rfl]
  have hg := gcd_pos_of (a := a) hb
  have hd : divOk ((Nat.gcd a.natAbs b.natAbs : Nat) : Int) = true := by
    refine divOk_lt (k := 4000) (by omega) ?_ (by decide)
    have := Nat.gcd_le_right a.natAbs (show 0 < b.natAbs by omega)
    unfold Lt2 at *
    omega
  simp [sizeLine_eq, startS, wipeS, assignT, assign1, setAt_eq, isTy, Pr.b_fraction_of, hb, b_fdiv hd, frD, frF]
theorem added_ok (n : Nat) (p q : Int × Int) (κ : Cells) (hp : 0 < p.2) (hq : 0 < q.2) (h1 : Lt2 (1000 + 1) p.1) (h2 : Lt2 (1000 + 1) p.2) (h3 : Lt2 (1000 + 1) q.1) (h4 : Lt2 (1000 + 1) q.2) :
    callN P0 (n + 2) 4 [frD p, frD q] κ = .ok (frD (frF (p.1 * q.2 + q.1 * p.2) (p.2 * q.2)), κ) := by
  rw [call0 (fn := ⟨2, 2, Pr.b_added⟩) rfl rfl]
  have e := fracof_ok n (p.1 * q.2 + q.1 * p.2) (p.2 * q.2) κ (Int.mul_pos hp hq) ((h2.mul h4).up (by decide))
  simp [sizeLine_eq, startS, wipeS, assignT, assign1, setAt_eq, isTy, Pr.b_added, frD, b_mul (h1.ok h4 (by decide)), b_mul (h3.ok h2 (by decide)), b_mul (h2.ok h4 (by decide))]
  rw [e]
  simp [sizeLine_eq, startS, wipeS, assignT, assign1, setAt_eq, isTy, frD]
theorem less_ok (n : Nat) (p q : Int × Int) (κ : Cells) (h1 : Lt2 (1000 + 1) p.1) (h2 : Lt2 (1000 + 1) p.2) (h3 : Lt2 (1000 + 1) q.1) (h4 : Lt2 (1000 + 1) q.2) :
    callN P0 (n + 1) 5 [frD p, frD q] κ = .ok (.bl (decide (p.1 * q.2 < q.1 * p.2)), κ) := by
  rw [call0 (fn := ⟨2, 2, Pr.b_is_less⟩) rfl rfl]
  simp [sizeLine_eq, startS, wipeS, assignT, assign1, setAt_eq, isTy, Pr.b_is_less, frD, b_mul (h1.ok h4 (by decide)), b_mul (h3.ok h2 (by decide)), b_mul (h2.ok h4 (by decide))]
/-- the law's own way to the greatest common divisor -/
theorem euc_go {step : D → Sl → Cells → Res} {u v w : Option O} {κ : Cells}
    (h0 : ∀ (x : D) (l : Option D) (a : Nat), step x [u, v, some (.fz (.int a)), some (.fz (.int 0)), Option.map O.fz l, w] κ = .bk [u, v, some (.fz (.int a)), some (.fz (.int 0)), some (.fz x), w] κ)
    (h1 : ∀ (x : D) (l : Option D) (a b : Nat), 0 < b → step x [u, v, some (.fz (.int a)), some (.fz (.int b)), Option.map O.fz l, w] κ =
      .nx [u, v, some (.fz (.int b)), some (.fz (.int ((a % b : Nat) : Int))), some (.fz x), w] κ) :
    ∀ (xs : List D) (m a b : Nat) (l : Option D), b ≤ a → a * b < 2 ^ m → m < xs.length →
      ∃ l' : Option D, forLoop step xs [u, v, some (.fz (.int a)), some (.fz (.int b)), Option.map O.fz l, w] κ = .nx [u, v, some (.fz (.int (Nat.gcd a b : Nat))), some (.fz (.int 0)), Option.map O.fz l', w] κ
  | [], m, a, b, l, _, _, hm => absurd hm (by simp)
  | x :: xs, m, a, b, l, hab, hlt, hm => by
    rcases Nat.eq_zero_or_pos b with hb | hb
    · subst hb
      refine ⟨some x, ?_⟩
      rw [forLoop, show ((0 : Nat) : Int) = 0 from rfl, h0 x l a, Nat.gcd_zero_right]
      rfl
    · rw [forLoop, h1 x l a b hb]
      have hh := euc_half hb hab
      cases m with
      | zero =>
        have : 0 < a * b := Nat.mul_pos (by omega) hb
        simp at hlt
        omega
      | succ m =>
        obtain ⟨l', hl⟩ := euc_go h0 h1 xs m b (a % b) (some x) (Nat.le_of_lt (Nat.mod_lt a hb)) (by rw [Nat.pow_succ] at hlt; omega) (by simpa using hm)
        refine ⟨l', ?_⟩
        have eg : Nat.gcd a b = Nat.gcd b (a % b) := by rw [Nat.gcd_comm a b, Nat.gcd_rec b a, Nat.gcd_comm]
        rw [eg]
        exact hl
end R

/-! M5: goals with a post; the law's own fractions. -/
namespace R
open PySem L2
def Good (r : Res) (Q : D → Cells → Prop) : Prop := ∃ d κ, r.out = .ok (d, κ) ∧ Q d κ
theorem good_call {n f : Nat} {fn : Fn} {ds : List D} {κ : Cells} {Q : D → Cells → Prop} (hf : P0.fns[f]? = some fn) (hl : ds.length = fn.ps)
    (h : Good (exec (Gm n) fn.body (startS fn ds) κ) Q) : ∃ d κ', callN P0 (n + 1) f ds κ = .ok (d, κ') ∧ Q d κ' := by
  rw [call0 hf hl]
  exact h
@[simp] theorem good_rt (d : D) (κ : Cells) (Q : D → Cells → Prop) : Good (.rt d κ) Q ↔ Q d κ := by
  constructor
  · rintro ⟨d', κ', h, hq⟩
    simp at h
    rw [h.1, h.2]
    exact hq
  · exact fun h => ⟨d, κ, rfl, h⟩
@[simp] theorem good_nx (σ : Sl) (κ : Cells) (Q : D → Cells → Prop) : Good (.nx σ κ) Q ↔ Q .non κ := by
  constructor
  · rintro ⟨d', κ', h, hq⟩
    simp at h
    rw [h.1, h.2]
    exact hq
  · exact fun h => ⟨.non, κ, rfl, h⟩
@[simp] theorem unlockR_nil (σ : Sl) (r : Res) : unlockR σ [] r = r := by
  cases r <;> rfl
@[simp] theorem lockAll_nil (σ : Sl) : lockAll σ [] = σ := by rw [lockAll]
theorem good_for {I : List D → Sl → Cells → Prop} {step : D → Sl → Cells → Res} {t : Tk step} {f : Sl → Cells → Res} {t' : Tk f} {xs : List D} {σ : Sl} {κ : Cells} {Q : D → Cells → Prop}
    (h0 : I xs σ κ) (hs : ∀ (x : D) (xs : List D) (σ : Sl) (κ : Cells), I (x :: xs) σ κ → ∃ σ' κ', step x σ κ = .nx σ' κ' ∧ I xs σ' κ')
    (g : ∀ σ κ, I [] σ κ → Good (f σ κ) Q) : Good (Res.then f t' (forD step t xs σ κ)) Q := by
  obtain ⟨σ', κ', e, hi⟩ := for_list hs xs σ κ h0
  rw [show forD step t xs σ κ = forLoop step xs σ κ from rfl, e]
  exact g σ' κ' hi
theorem good_for1 {I : Nat → Sl → Cells → Prop} {step : D → Sl → Cells → Res} {t : Tk step} {f : Sl → Cells → Res} {t' : Tk f} {xs : List D} {σ : Sl} {κ : Cells} {Q : D → Cells → Prop}
    (h0 : I 0 σ κ) (hs : ∀ (j : Nat) (x : D) (σ : Sl) (κ : Cells), xs[j]? = some x → I j σ κ → ∃ σ' κ', step x σ κ = .nx σ' κ' ∧ I (j + 1) σ' κ')
    (g : ∀ σ κ, I xs.length σ κ → Good (f σ κ) Q) : Good (Res.then f t' (forD step t xs σ κ)) Q := by
  obtain ⟨σ', κ', e, hi⟩ := for_inv (I := I) xs 0 σ κ (fun j x σ κ hx hi => by
    rw [Nat.zero_add] at hi ⊢
    exact hs j x σ κ hx hi) h0
  rw [show forD step t xs σ κ = forLoop step xs σ κ from rfl, e]
  rw [Nat.zero_add] at hi
  exact g σ' κ' hi
theorem good_forx {I : Sl → Cells → Prop} {step : D → Sl → Cells → Res} {t : Tk step} {f : Sl → Cells → Res} {t' : Tk f} {xs : List D} {σ : Sl} {κ : Cells} {Q : D → Cells → Prop}
    (h : ∃ σ' κ', forLoop step xs σ κ = .nx σ' κ' ∧ I σ' κ') (g : ∀ σ κ, I σ κ → Good (f σ κ) Q) : Good (Res.then f t' (forD step t xs σ κ)) Q := by
  obtain ⟨σ', κ', e, hi⟩ := h
  rw [show forD step t xs σ κ = forLoop step xs σ κ from rfl, e]
  exact g σ' κ' hi
theorem euc_start {step : D → Sl → Cells → Res} {u v w : Option O} {κ : Cells}
    (h0 : ∀ (x : D) (l : Option D) (a : Nat), step x [u, v, some (.fz (.int a)), some (.fz (.int 0)), Option.map O.fz l, w] κ = .bk [u, v, some (.fz (.int a)), some (.fz (.int 0)), some (.fz x), w] κ)
    (h1 : ∀ (x : D) (l : Option D) (a b : Nat), 0 < b → step x [u, v, some (.fz (.int a)), some (.fz (.int b)), Option.map O.fz l, w] κ =
      .nx [u, v, some (.fz (.int b)), some (.fz (.int ((a % b : Nat) : Int))), some (.fz x), w] κ)
    (xs : List D) (m a b : Nat) (l : Option D) (hb : 0 < b) (hlt : a * b < 2 ^ m) (hm : m + 1 < xs.length) :
      ∃ l' : Option D, forLoop step xs [u, v, some (.fz (.int a)), some (.fz (.int b)), Option.map O.fz l, w] κ = .nx [u, v, some (.fz (.int (Nat.gcd a b : Nat))), some (.fz (.int 0)), Option.map O.fz l', w] κ := by
  rcases Nat.lt_or_ge a b with hab | hab
  · match xs, hm with
    | x :: xs, hm =>
      rw [forLoop, h1 x l a b hb, Nat.mod_eq_of_lt hab, Nat.gcd_comm a b]
      exact euc_go h0 h1 xs m b a (some x) (by omega) (by rw [Nat.mul_comm]; exact hlt) (by simpa using hm)
  · exact euc_go h0 h1 xs m a b l hab hlt (by omega)
theorem lfrac_ok (n : Nat) (a b : Int) (κ : Cells) (hb : 0 < b) (ha : Lt2 (4000 + 1) a) (hs : Lt2 (4000 + 1) b) : callN P0 (n + 1) 31 [.int a, .int b] κ = .ok (frD (frF a b), κ) := by
  suffices h : ∃ d κ', callN P0 (n + 1) 31 [.int a, .int b] κ = .ok (d, κ') ∧ (d = frD (frF a b) ∧ κ' = κ) by
    obtain ⟨d, κ', h, rfl, rfl⟩ := h
    exact h
  refine good_call (fn := ⟨2, 6, Pr.b__law_frac⟩) rfl rfl ?_
  have er : rangeD 0 20000 = some ((List.range 20000).map fun (k : Nat) => D.int (k : Int)) := range_nat (n := 20000) (by decide)
  have ea : (if a < 0 then -a else a) = (a.natAbs : Int) := by omega
  have eb : (if b < 0 then -b else b) = (b.natAbs : Int) := by omega
  simp only [sizeLine_eq, startS, wipeS, assignT, assign1, setAt_eq, isTy, Pr.b__law_frac]
  simp [ea, eb, exec.exec1, exec.evos, exec.assignO, setAt_eq, er]
  have hd : divOk ((Nat.gcd a.natAbs b.natAbs : Nat) : Int) = true := by
    have hg := gcd_pos_of (a := a) hb
    refine divOk_lt (k := 4000) (by omega) ?_ (by decide)
    have := Nat.gcd_le_right a.natAbs (show 0 < b.natAbs by omega)
    have := hs.up (show 4001 ≤ 4001 by decide)
    unfold Lt2 at *
    omega
  refine good_forx (I := fun σ' κ' => κ' = κ ∧ ∃ l' : Option D, σ' = [some (.fz (.int a)), some (.fz (.int b)), some (.fz (.int (Nat.gcd a.natAbs b.natAbs : Nat))), some (.fz (.int 0)), Option.map O.fz l', none]) ?_ ?_
  · refine Exists.elim (euc_start (u := some (.fz (.int a))) (v := some (.fz (.int b))) (w := none) (κ := κ) ?_ ?_
      (List.map (fun k => D.int (Int.ofNat k)) (List.range 20000)) 8002 a.natAbs b.natAbs none (by omega) (ha.mul hs |> fun h => by unfold Lt2 at h; rwa [Int.natAbs_mul] at h) (by rw [List.length_map, List.length_range]; decide)) (fun l' hl => ⟨_, _, hl, rfl, l', rfl⟩)
    · intro x l a
      cases l <;> simp [sizeLine_eq, startS, wipeS, assignT, assign1, setAt_eq, isTy]
    · intro x l a b hb
      have hb' : ¬ (b : Int) = 0 := by omega
      have hb2 : ¬ b = 0 := by omega
      cases l <;> simp [sizeLine_eq, startS, wipeS, assignT, assign1, setAt_eq, isTy, hb', hb2, exec.exec1, exec.evos, exec.assignO, b_mod hb', Int.fmod_eq_emod_of_nonneg]
  · rintro σ' κ' ⟨rfl, l', rfl⟩
    simp [sizeLine_eq, startS, wipeS, assignT, assign1, setAt_eq, isTy, hb, b_mul (show mulOk 1 a = true from Lt2.ok (k := 1) (l := 4000) (show Lt2 2 1 by unfold Lt2; decide) ha (by decide)),
      b_mul (show mulOk 1 b = true from Lt2.ok (k := 1) (l := 4000) (show Lt2 2 1 by unfold Lt2; decide) hs (by decide)), b_fdiv hd, frD, frF]
end R

/-! M6: sums along points; whether a point keeps a row. -/
namespace R
open PySem L2
theorem ladd_ok (n : Nat) (p q : Int × Int) (κ : Cells) (hp : 0 < p.2) (hq : 0 < q.2) (h1 : Lt2 (1000 + 1) p.1) (h2 : Lt2 (1000 + 1) p.2) (h3 : Lt2 (1000 + 1) q.1) (h4 : Lt2 (1000 + 1) q.2) :
    callN P0 (n + 2) 32 [frD p, frD q] κ = .ok (frD (frF (p.1 * q.2 + q.1 * p.2) (p.2 * q.2)), κ) := by
  rw [call0 (fn := ⟨2, 2, Pr.b__law_add⟩) rfl rfl]
  have e := lfrac_ok n (p.1 * q.2 + q.1 * p.2) (p.2 * q.2) κ (Int.mul_pos hp hq) (((h1.mul h4).add (h3.mul h2)).up (by decide)) ((h2.mul h4).up (by decide))
  simp [sizeLine_eq, startS, wipeS, assignT, assign1, setAt_eq, isTy, Pr.b__law_add, frD, b_mul (h1.ok h4 (by decide)), b_mul (h3.ok h2 (by decide)), b_mul (h2.ok h4 (by decide))]
  rw [e]
  simp [sizeLine_eq, startS, wipeS, assignT, assign1, setAt_eq, isTy, frD]
@[simp] theorem ix_fr0 (κ : Cells) (p : Int × Int) : idxC κ (frD p) (.int 0) = some (.int p.1) := rfl
@[simp] theorem ix_fr1 (κ : Cells) (p : Int × Int) : idxC κ (frD p) (.int 1) = some (.int p.2) := rfl
def addF (t : Int × Int) (x : Int × (Int × Int)) : Int × Int :=
  frF (t.1 * (frF (x.1 * x.2.1) x.2.2).2 + (frF (x.1 * x.2.1) x.2.2).1 * t.2) (t.2 * (frF (x.1 * x.2.1) x.2.2).2)
def sumF (fs : List Int) (pts : List (Int × Int)) : Int × Int := (fs.zip pts).foldl addF (0, 1)
/-- a fraction of moderate size -/
structure PtOk (p : Int × Int) : Prop where
  pos : 0 < p.2
  top : Lt2 40 p.1
  bot : Lt2 40 p.2
  one : Nat.gcd p.1.natAbs p.2.natAbs = 1
structure TotOk (k : Nat) (t : Int × Int) : Prop where
  pos : 0 < t.2
  top : Lt2 (k + 1) t.1
  bot : Lt2 (k + 1) t.2
theorem abs_le {k : Nat} {i j : Int} (h : Lt2 k j) (hi : i.natAbs ≤ j.natAbs) : Lt2 k i := Nat.lt_of_le_of_lt hi h
theorem TotOk.step {k : Nat} {t : Int × Int} {x : Int × (Int × Int)} (h : TotOk k t) (hx : Lt2 40 x.1) (hp : PtOk x.2) : TotOk (k + 82) (addF t x) := by
  have hb := frF_bot (a := x.1 * x.2.1) hp.pos
  have u1 : Lt2 80 (frF (x.1 * x.2.1) x.2.2).1 := abs_le (hx.mul hp.top) (frF_abs1 _ _)
  have u2 : Lt2 80 (frF (x.1 * x.2.1) x.2.2).2 := abs_le (hp.bot.up (by decide)) (frF_abs2 _ _)
  refine ⟨frF_bot (Int.mul_pos h.pos hb), abs_le ?_ (frF_abs1 _ _), abs_le ?_ (frF_abs2 _ _)⟩
  · exact ((h.top.mul u2).add ((u1.mul h.bot).up (by omega))).up (by omega)
  · exact (h.bot.mul u2).up (by omega)
/-- one step of the program, of the law -/
theorem step_p (n : Nat) (κ : Cells) {k : Nat} {t : Int × Int} {x : Int × (Int × Int)} (h : TotOk k t) (hk : k ≤ 900) (hx : Lt2 40 x.1) (hp : PtOk x.2) :
    callN P0 (n + 2) 4 [frD t, frD (frF (x.1 * x.2.1) x.2.2)] κ = .ok (frD (addF t x), κ) :=
  added_ok n t _ κ h.pos (frF_bot hp.pos) (h.top.up (by omega)) (h.bot.up (by omega)) ((show Lt2 80 _ from abs_le (hx.mul hp.top) (frF_abs1 _ _)).up (by decide)) ((show Lt2 40 _ from abs_le hp.bot (frF_abs2 _ _)).up (by decide))
theorem step_l (n : Nat) (κ : Cells) {k : Nat} {t : Int × Int} {x : Int × (Int × Int)} (h : TotOk k t) (hk : k ≤ 900) (hx : Lt2 40 x.1) (hp : PtOk x.2) :
    callN P0 (n + 2) 32 [frD t, frD (frF (x.1 * x.2.1) x.2.2)] κ = .ok (frD (addF t x), κ) :=
  ladd_ok n t _ κ h.pos (frF_bot hp.pos) (h.top.up (by omega)) (h.bot.up (by omega)) ((show Lt2 80 _ from abs_le (hx.mul hp.top) (frF_abs1 _ _)).up (by decide)) ((show Lt2 40 _ from abs_le hp.bot (frF_abs2 _ _)).up (by decide))
def pairD (x : Int × (Int × Int)) : D := .tup [.int x.1, frD x.2]
theorem zip_pts (fs : List Int) (pts : List (Int × Int)) : zipD (fs.map .int) (pts.map frD) = (fs.zip pts).map pairD := by
  induction fs generalizing pts with
  | nil => rfl
  | cons f fs ih =>
    cases pts with
    | nil => rfl
    | cons p pts => simp [zipD, ih, pairD]
/-- the invariant of the sums: what is left, what is reached -/
def SumI (tot : Int × Int) (m : Nat) (mk : Int × Int → Option D → Option D → Sl) (κ0 : Cells) (xs : List D) (σ : Sl) (κ : Cells) : Prop :=
  κ = κ0 ∧ ∃ (r : List (Int × (Int × Int))) (t : Int × Int) (u v : Option D), xs = r.map pairD ∧ r.foldl addF t = tot ∧ (∀ x ∈ r, Lt2 40 x.1 ∧ PtOk x.2) ∧
    r.length ≤ m ∧ TotOk (82 * (m - r.length)) t ∧ σ = mk t u v
theorem SumI.start {fs : List Int} {pts : List (Int × Int)} {m : Nat} {mk : Int × Int → Option D → Option D → Sl} {κ : Cells} {u v : Option D}
    (hf : ∀ f ∈ fs, Lt2 40 f) (hp : ∀ p ∈ pts, PtOk p) (hm : fs.length ≤ m) : SumI (sumF fs pts) m mk κ ((fs.zip pts).map pairD) (mk (0, 1) u v) κ := by
  refine ⟨rfl, fs.zip pts, (0, 1), u, v, rfl, rfl, ?_, by rw [List.length_zip]; omega, ⟨by decide, ?_, ?_⟩, rfl⟩
  · intro x hx
    have h := List.of_mem_zip (show (x.1, x.2) ∈ fs.zip pts from hx)
    exact ⟨hf _ h.1, hp _ h.2⟩
  · exact Lt2.up (k := 1) (by unfold Lt2; decide) (by omega)
  · exact Lt2.up (k := 1) (by unfold Lt2; decide) (by omega)
theorem SumI.next {tot : Int × Int} {m : Nat} {mk : Int × Int → Option D → Option D → Sl} {κ0 : Cells} {step : D → Sl → Cells → Res} (hm : m ≤ 10)
    (hs : ∀ (x : Int × (Int × Int)) (k : Nat) (t : Int × Int) (u v : Option D), TotOk k t → k ≤ 900 → Lt2 40 x.1 → PtOk x.2 → step (pairD x) (mk t u v) κ0 = .nx (mk (addF t x) (some (.int x.1)) (some (frD x.2))) κ0)
    (x : D) (xs : List D) (σ : Sl) (κ : Cells) (h : SumI tot m mk κ0 (x :: xs) σ κ) : ∃ σ' κ', step x σ κ = .nx σ' κ' ∧ SumI tot m mk κ0 xs σ' κ' := by
  obtain ⟨rfl, r, t, u, v, hx, hf, hr, hl, ht, rfl⟩ := h
  cases r with
  | nil => simp at hx
  | cons y r =>
    simp only [List.map_cons, List.cons.injEq] at hx
    obtain ⟨rfl, rfl⟩ := hx
    have hy := hr y (by simp)
    have hl' : r.length + 1 ≤ m := by simpa using hl
    refine ⟨_, _, hs y _ t u v ht (by simp; omega) hy.1 hy.2, rfl, r, _, _, _, rfl, hf, fun z hz => hr z (by simp [hz]), by omega, ?_, rfl⟩
    have := ht.step hy.1 hy.2
    rw [show 82 * (m - (y :: r).length) + 82 = 82 * (m - r.length) by simp; omega] at this
    exact this
theorem SumI.done {tot : Int × Int} {m : Nat} {mk : Int × Int → Option D → Option D → Sl} {κ0 : Cells} {σ : Sl} {κ : Cells}
    (h : SumI tot m mk κ0 [] σ κ) : κ = κ0 ∧ ∃ u v, TotOk (82 * m) tot ∧ σ = mk tot u v := by
  obtain ⟨rfl, r, t, u, v, hx, hf, hr, hl, ht, rfl⟩ := h
  cases r with
  | nil =>
    simp at hf
    subst hf
    exact ⟨rfl, u, v, by simpa using ht, rfl⟩
  | cons y r => simp at hx
theorem good_eq {n f : Nat} {fn : Fn} {ds : List D} {κ : Cells} {d : D} (hf : P0.fns[f]? = some fn) (hl : ds.length = fn.ps)
    (h : Good (exec (Gm n) fn.body (startS fn ds) κ) (fun d' κ' => d' = d ∧ κ' = κ)) : callN P0 (n + 1) f ds κ = .ok (d, κ) := by
  obtain ⟨d', κ', e, rfl, rfl⟩ := good_call hf hl h
  exact e
theorem sumat_ok (n : Nat) (fs : List Int) (pts : List (Int × Int)) (κ : Cells) (hf : ∀ f ∈ fs, Lt2 40 f) (hp : ∀ p ∈ pts, PtOk p) (hm : fs.length ≤ 10) :
    callN P0 (n + 3) 10 [.tup (fs.map .int), .tup (pts.map frD)] κ = .ok (frD (sumF fs pts), κ) := by
  refine good_eq (fn := ⟨2, 5, Pr.b_sum_at⟩) rfl rfl ?_
  simp [sizeLine_eq, startS, wipeS, assignT, assign1, setAt_eq, isTy, Pr.b_sum_at, zip_pts]
  refine good_for (I := SumI (sumF fs pts) fs.length (fun t u v => [some (.fz (.tup (fs.map .int))), some (.fz (.tup (pts.map frD))), some (.fz (frD t)), Option.map O.fz u, Option.map O.fz v]) κ)
    (SumI.start (u := none) (v := none) hf hp (Nat.le_refl _)) (SumI.next hm ?_) ?_
  · intro x k t u v ht hk hx hpx
    have e1 := fracof_ok (n + 1) (x.1 * x.2.1) x.2.2 κ hpx.pos (hpx.bot.up (by decide))
    have e2 := step_p n κ ht hk hx hpx
    have e3 : mulOk x.1 x.2.1 = true := (hx.up (show 40 ≤ 40 + 1 by decide)).ok (hpx.top.up (show 40 ≤ 40 + 1 by decide)) (by decide)
    cases u <;> cases v <;> simp [sizeLine_eq, startS, wipeS, assignT, assign1, setAt_eq, isTy, pairD, b_mul e3, e1, e2]
  · intro σ' κ' h
    obtain ⟨rfl, u, v, ht, rfl⟩ := h.done
    simp [sizeLine_eq, startS, wipeS, assignT, assign1, setAt_eq, isTy]
end R

/-! M7: rows, systems, whether a point keeps them. -/
namespace R
open PySem L2
def sgS (b : Bool) : Str := if b then ">" else ">="
def sgD (b : Bool) : D := .str (sgS b)
def rowD (r : Row) : D := .tup [.tup (r.fs.map .int), sgD r.st, .int r.num]
def sysD (many : Nat) (rows : List Row) : D := .tup [.int many, .tup (rows.map rowD)]
@[simp] theorem ix_r0 (κ : Cells) (r : Row) : idxC κ (rowD r) (.int 0) = some (.tup (r.fs.map .int)) := rfl
@[simp] theorem ix_r1 (κ : Cells) (r : Row) : idxC κ (rowD r) (.int 1) = some (sgD r.st) := rfl
@[simp] theorem ix_r2 (κ : Cells) (r : Row) : idxC κ (rowD r) (.int 2) = some (.int r.num) := rfl
@[simp] theorem ix_s0 (κ : Cells) (m : Nat) (rows : List Row) : idxC κ (sysD m rows) (.int 0) = some (.int m) := rfl
@[simp] theorem ix_s1 (κ : Cells) (m : Nat) (rows : List Row) : idxC κ (sysD m rows) (.int 1) = some (.tup (rows.map rowD)) := rfl
@[simp] theorem eq_gt (b : Bool) : eqD (sgD b) (.str ">") = some b := by cases b <;> decide +kernel
theorem sgB_sg (b : Bool) : sgB (sgS b) = true := by cases b <;> decide +kernel
structure RowOk (many : Nat) (r : Row) : Prop where
  len : r.fs.length = many
  fs : ∀ f ∈ r.fs, Lt2 40 f
  num : Lt2 1000 r.num
def keepsF (pts : List (Int × Int)) (r : Row) : Bool :=
  if r.st then decide (r.num * (sumF r.fs pts).2 < (sumF r.fs pts).1) else decide (r.num * (sumF r.fs pts).2 ≤ (sumF r.fs pts).1)
theorem tot_of {r : Row} {many : Nat} {pts : List (Int × Int)} (h : RowOk many r) (hm : many ≤ 10) (hp : ∀ p ∈ pts, PtOk p) : TotOk 820 (sumF r.fs pts) := by
  have hl := h.len
  suffices ∀ (l : List (Int × (Int × Int))) (t : Int × Int) (k : Nat), TotOk k t → (∀ x ∈ l, Lt2 40 x.1 ∧ PtOk x.2) → TotOk (k + 82 * l.length) (l.foldl addF t) by
    have hz : (r.fs.zip pts).length ≤ 10 := by rw [List.length_zip]; omega
    have := this (r.fs.zip pts) (0, 1) 0 ⟨by decide, by unfold Lt2; decide, by unfold Lt2; decide⟩ (fun x hx => by
      have h' := List.of_mem_zip (show (x.1, x.2) ∈ r.fs.zip pts from hx)
      exact ⟨h.fs _ h'.1, hp _ h'.2⟩)
    exact ⟨this.pos, this.top.up (by omega), this.bot.up (by omega)⟩
  intro l
  induction l with
  | nil => intro t k ht _; simpa using ht
  | cons x l ih =>
    intro t k ht hx
    have := ih (addF t x) (k + 82) (ht.step (hx x (by simp)).1 (hx x (by simp)).2) (fun y hy => hx y (by simp [hy]))
    rw [List.foldl_cons, List.length_cons, show k + 82 * (l.length + 1) = k + 82 + 82 * l.length by omega]
    exact this
theorem keepsrow_ok (n : Nat) (many : Nat) (r : Row) (pts : List (Int × Int)) (κ : Cells) (h : RowOk many r) (hm : many ≤ 10) (hp : ∀ p ∈ pts, PtOk p) :
    callN P0 (n + 4) 11 [rowD r, .tup (pts.map frD)] κ = .ok (.bl (keepsF pts r), κ) := by
  have ht := tot_of h hm hp
  have e1 := sumat_ok n r.fs pts κ h.fs hp (by rw [h.len]; exact hm)
  have l1 : Lt2 (1000 + 1) (1 : Int) := by unfold Lt2; simp
  have e2 := less_ok (n + 2) (r.num, 1) (sumF r.fs pts) κ (h.num.up (by decide)) l1 (ht.top.up (by decide)) (ht.bot.up (by decide))
  have e3 := less_ok (n + 2) (sumF r.fs pts) (r.num, 1) κ (ht.top.up (by decide)) (ht.bot.up (by decide)) (h.num.up (by decide)) l1
  rw [call0 (fn := ⟨2, 4, Pr.b_keeps_row⟩) rfl rfl]
  have e0 : D.tup [.int r.num, .int 1] = frD (r.num, 1) := rfl
  cases hs : r.st <;> simp [sizeLine_eq, startS, wipeS, assignT, assign1, setAt_eq, isTy, Pr.b_keeps_row, exec.exec1, exec.evos, exec.assignO, e1, hs, e0, e2, e3, keepsF]
  rw [Bool.eq_iff_iff]
  simp
theorem lkeeps_ok (n : Nat) (many : Nat) (r : Row) (pts : List (Int × Int)) (κ : Cells) (h : RowOk many r) (hm : many ≤ 10) (hp : ∀ p ∈ pts, PtOk p) :
    callN P0 (n + 3) 34 [rowD r, .tup (pts.map frD)] κ = .ok (.bl (keepsF pts r), κ) := by
  have ht := tot_of h hm hp
  refine good_eq (fn := ⟨2, 6, Pr.b__law_keeps⟩) rfl rfl ?_
  simp [sizeLine_eq, startS, wipeS, assignT, assign1, setAt_eq, isTy, Pr.b__law_keeps, zip_pts]
  refine good_for (I := SumI (sumF r.fs pts) r.fs.length (fun t u v => [some (.fz (rowD r)), some (.fz (.tup (pts.map frD))), some (.fz (frD t)), Option.map O.fz u, Option.map O.fz v, none]) κ)
    (SumI.start (u := none) (v := none) h.fs hp (Nat.le_refl _)) (SumI.next (by rw [h.len]; exact hm) ?_) ?_
  · intro x k t u v ht hk hx hpx
    have e1 := lfrac_ok (n + 1) (x.1 * x.2.1) x.2.2 κ hpx.pos ((hx.mul hpx.top).up (by decide)) (hpx.bot.up (by decide))
    have e2 := step_l n κ ht hk hx hpx
    have e3 : mulOk x.1 x.2.1 = true := (hx.up (show 40 ≤ 40 + 1 by decide)).ok (hpx.top.up (show 40 ≤ 40 + 1 by decide)) (by decide)
    cases u <;> cases v <;> simp [sizeLine_eq, startS, wipeS, assignT, assign1, setAt_eq, isTy, pairD, b_mul e3, e1, e2]
  · intro σ' κ' h'
    obtain ⟨rfl, u, v, _, rfl⟩ := h'.done
    have e3 : mulOk r.num (sumF r.fs pts).2 = true := (h.num.up (show 1000 ≤ 999 + 1 by decide)).ok ht.bot (by decide)
    cases hs : r.st <;> simp [sizeLine_eq, startS, wipeS, assignT, assign1, setAt_eq, isTy, b_mul e3, hs, keepsF]
end R

/-! M8: keeps; whether multipliers refute rows. -/
namespace R
open PySem L2
theorem nice_map {α : Type} {f : α → D} {xs : List α} (h : ∀ x ∈ xs, (f x).nice = true) : niceAll (xs.map f) = true :=
  nice_all (fun d hd => by
    obtain ⟨x, hx, rfl⟩ := List.mem_map.mp hd
    exact h x hx)
theorem nice_t {xs : List D} (hl : xs.length ≤ 100) (h : ∀ x ∈ xs, x.nice = true) : (D.tup xs).nice = true := by
  simp [D.nice, hl, nice_all h]
theorem nice_l {xs : List D} (hl : xs.length ≤ 100) (h : ∀ x ∈ xs, x.nice = true) : (D.lst xs).nice = true := by
  simp [D.nice, hl, nice_all h]
@[simp] theorem nice_int (i : Int) : (D.int i).nice = true := by simp only [D.nice]
@[simp] theorem nice_bl (i : Bool) : (D.bl i).nice = true := by simp only [D.nice]
@[simp] theorem nice_str (i : Str) : (D.str i).nice = true := by simp only [D.nice]
@[simp] theorem nice_non : D.non.nice = true := by simp only [D.nice]
@[simp] theorem nice_sg (b : Bool) : (sgD b).nice = true := nice_str _
theorem nice_ints {xs : List Int} (h : xs.length ≤ 100) : (D.tup (xs.map .int)).nice = true := nice_t (by simpa using h) (by simp)
theorem nice_fr (p : Int × Int) : (frD p).nice = true := nice_t (by simp) (by simp)
theorem nice_row {r : Row} (h : r.fs.length ≤ 100) : (rowD r).nice = true := nice_t (by simp) (by simp [nice_ints h])
theorem nice_sys {m : Nat} {rows : List Row} (hl : rows.length ≤ 100) (h : ∀ r ∈ rows, r.fs.length ≤ 100) : (sysD m rows).nice = true := by
  have : (D.tup (rows.map rowD)).nice = true := nice_t (by simpa using hl) (by
    intro x hx
    obtain ⟨r, hr, rfl⟩ := List.mem_map.mp hx
    exact nice_row (h r hr))
  exact nice_t (by simp) (by simp [this])
theorem all_int (xs : List Int) : (xs.map D.int).all whole = true := by simp [List.all_eq_true]
theorem rowB_row {m : Nat} {r : Row} (h : r.fs.length = m) : rowB m (rowD r) = true := by
  simp only [rowD, sgD, rowB, sgB_sg, all_int, List.length_map, h]
  simp
theorem sysB_sys {m : Nat} {rows : List Row} (h : ∀ r ∈ rows, r.fs.length = m) : sysB (sysD m rows) = true := by
  simp only [sysD, sysB]
  simp only [Bool.and_eq_true, decide_eq_true_eq, List.all_eq_true]
  refine (⟨by omega, fun x hx => ?_⟩)
  obtain ⟨r, hr, rfl⟩ := List.mem_map.mp hx
  exact rowB_row (h r hr)
/-- rows that belong to a system -/
structure SysOk (m : Nat) (rows : List Row) : Prop where
  few : rows.length ≤ 50
  small : m ≤ 10
  rows : ∀ r ∈ rows, RowOk m r
theorem SysOk.nice {m : Nat} {rows : List Row} (h : SysOk m rows) : (sysD m rows).nice = true :=
  nice_sys (by have := h.few; omega) (fun r hr => by rw [(h.rows r hr).len]; have := h.small; omega)
theorem SysOk.sys {m : Nat} {rows : List Row} (h : SysOk m rows) : sysB (sysD m rows) = true := sysB_sys fun r hr => (h.rows r hr).len
theorem fracB_pt {p : Int × Int} (h : PtOk p) : fracB (frD p) = true := by
  have h1 := h.pos
  have h2 := h.one
  simp [frD, fracB, h2]
  omega
theorem keeps_bad (n : Nat) {m : Nat} {rows : List Row} (h : SysOk m rows) (d : D) (hd : d.nice = true) (hp : pointB m d = false) (κ : Cells) :
    callN P0 (n + 5) 13 [sysD m rows, d] κ = .ok (.bl false, κ) := by
  rw [call0 (fn := ⟨2, 3, Pr.b_keeps⟩) rfl rfl]
  simp [sizeLine_eq, startS, wipeS, assignT, assign1, setAt_eq, isTy, Pr.b_keeps, need_yes n _ κ h.nice h.sys, point_ok (n + 1) d m κ hd, hp]
theorem keeps_exc (n : Nat) (d v : D) (hd : d.nice = true) (hs : sysB d = false) (κ : Cells) : callN P0 (n + 5) 13 [d, v] κ = .exc 1 [d] κ := by
  rw [call0 (fn := ⟨2, 3, Pr.b_keeps⟩) rfl rfl]
  simp [sizeLine_eq, startS, wipeS, assignT, assign1, setAt_eq, isTy, Pr.b_keeps, need_no n _ κ hd hs]
theorem refutes_exc (n : Nat) (d v : D) (hd : d.nice = true) (hs : sysB d = false) (κ : Cells) : callN P0 (n + 5) 15 [d, v] κ = .exc 1 [d] κ := by
  rw [call0 (fn := ⟨2, 3, Pr.b_refutes⟩) rfl rfl]
  simp [sizeLine_eq, startS, wipeS, assignT, assign1, setAt_eq, isTy, Pr.b_refutes, need_no n _ κ hd hs]
theorem solved_exc (n : Nat) (d : D) (hd : d.nice = true) (hs : sysB d = false) (κ : Cells) : callN P0 (n + 5) 26 [d] κ = .exc 1 [d] κ := by
  rw [call0 (fn := ⟨1, 15, Pr.b_solved⟩) rfl rfl]
  simp [sizeLine_eq, startS, wipeS, assignT, assign1, setAt_eq, isTy, Pr.b_solved, need_no n _ κ hd hs]
theorem comp_mapM {α : Type} {f : α → D} {g : α → D} {step : D → Cells → Out (List D × Cells)} {t : Tk step} {κ : Cells} : ∀ {xs : List α},
    (∀ x ∈ xs, step (f x) κ = .ok ([g x], κ)) → compD step t (xs.map f) κ = .ok (xs.map g, κ)
  | [], _ => rfl
  | x :: xs, h => by
    have ih := comp_mapM (f := f) (g := g) (t := t) (κ := κ) (xs := xs) (fun y hy => h y (by simp [hy]))
    rw [compD] at ih ⊢
    rw [List.map_cons, compLoop, h x (by simp), mbind_ok, ih, mbind_ok]
    rfl
theorem comp_filterM {α : Type} {f : α → D} {p : α → Bool} {g : α → D} {step : D → Cells → Out (List D × Cells)} {t : Tk step} {κ : Cells} : ∀ {xs : List α},
    (∀ x ∈ xs, step (f x) κ = .ok (if p x then [g x] else [], κ)) → compD step t (xs.map f) κ = .ok ((xs.filter p).map g, κ)
  | [], _ => rfl
  | x :: xs, h => by
    have ih := comp_filterM (f := f) (p := p) (g := g) (t := t) (κ := κ) (xs := xs) (fun y hy => h y (by simp [hy]))
    rw [compD] at ih ⊢
    rw [List.map_cons, compLoop, h x (by simp), mbind_ok, ih, mbind_ok]
    cases hp : p x <;> simp [hp]
theorem keeps_pts (n : Nat) {m : Nat} {rows : List Row} (h : SysOk m rows) (pts : List (Int × Int)) (hl : pts.length = m) (hp : ∀ p ∈ pts, PtOk p) (κ : Cells) :
    callN P0 (n + 5) 13 [sysD m rows, .tup (pts.map frD)] κ = .ok (.bl (rows.all (keepsF pts)), κ) := by
  rw [call0 (fn := ⟨2, 3, Pr.b_keeps⟩) rfl rfl]
  have hn : (D.tup (pts.map frD)).nice = true := nice_t (by have := h.small; simp [hl]; omega) (by
    intro x hx
    obtain ⟨p, _, rfl⟩ := List.mem_map.mp hx
    exact nice_fr p)
  have hb : pointB m (.tup (pts.map frD)) = true := by
    simp only [pointB, List.length_map, hl, decide_true, Bool.true_and, List.all_eq_true]
    intro x hx
    obtain ⟨p, hpp, rfl⟩ := List.mem_map.mp hx
    exact fracB_pt (hp p hpp)
  have hf := h.few
  have hz : rows.length < 16777216 := by omega
  simp [sizeLine_eq, startS, wipeS, assignT, assign1, setAt_eq, isTy, Pr.b_keeps, need_yes n _ κ h.nice h.sys, point_ok (n + 1) _ m κ hn, hb]
  rw [comp_mapM (g := fun r => .bl (keepsF pts r)) (by
    intro r hr
    simp [sizeLine_eq, startS, wipeS, assignT, assign1, setAt_eq, isTy, keepsrow_ok n m r pts κ (h.rows r hr) h.small hp])]
  simp [all_is rfl, sizeLine_eq, startS, wipeS, assignT, assign1, setAt_eq, isTy, hz]
end R

/-! M9: whether multipliers refute rows, by the program and by the law. -/
namespace R
open PySem L2
def NxTo (r : Res) (J : Sl → Cells → Prop) : Prop := ∃ σ' κ', r = .nx σ' κ' ∧ J σ' κ'
theorem nx_for1 {I : Nat → Sl → Cells → Prop} {step : D → Sl → Cells → Res} {t : Tk step} {f : Sl → Cells → Res} {t' : Tk f} {xs : List D} {σ : Sl} {κ : Cells} {J : Sl → Cells → Prop}
    (h0 : I 0 σ κ) (hs : ∀ (j : Nat) (x : D) (σ : Sl) (κ : Cells), xs[j]? = some x → I j σ κ → ∃ σ' κ', step x σ κ = .nx σ' κ' ∧ I (j + 1) σ' κ')
    (g : ∀ σ κ, I xs.length σ κ → NxTo (f σ κ) J) : NxTo (Res.then f t' (forD step t xs σ κ)) J := by
  obtain ⟨σ', κ', e, hi⟩ := for_inv (I := I) xs 0 σ κ (fun j x σ κ hx hi => by
    rw [Nat.zero_add] at hi ⊢
    exact hs j x σ κ hx hi) h0
  rw [show forD step t xs σ κ = forLoop step xs σ κ from rfl, e]
  rw [Nat.zero_add] at hi
  exact g σ' κ' hi
@[simp] theorem nx_nx (σ : Sl) (κ : Cells) (J : Sl → Cells → Prop) : NxTo (.nx σ κ) J ↔ J σ κ := by
  constructor
  · rintro ⟨σ', κ', h, hj⟩
    simp at h
    rw [h.1, h.2]
    exact hj
  · exact fun h => ⟨σ, κ, rfl, h⟩
def pairR (p : Row × Int) : D := .tup [rowD p.1, .int p.2]
theorem zip_rows (rows : List Row) (as : List Int) : zipD (rows.map rowD) (as.map .int) = (rows.zip as).map pairR := by
  induction rows generalizing as with
  | nil => rfl
  | cons f fs ih =>
    cases as with
    | nil => rfl
    | cons p pts => simp [zipD, ih, pairR]
theorem zip_sq (m : Nat) (c f : Nat → Int) : zipD ((Sq m c).map .int) ((Sq m f).map .int) = (List.range m).map (fun k => .tup [.int (c k), .int (f k)]) := by
  unfold Sq
  generalize List.range m = l
  induction l with
  | nil => rfl
  | cons k l ih => simpa [zipD] using ih
theorem ints_rep (m : Nat) : List.replicate m (D.int 0) = (Sq m (fun _ => 0)).map .int := by
  rw [← sq_zero]
  simp
theorem pys_ints : ∀ xs : List Int, D.pys (xs.map .int) = some (xs.map .int)
  | [] => by simp [D.pys]
  | x :: xs => by simp [D.pys, D.py, pys_ints xs]
theorem lay_ints : ∀ xs : List Int, PyData.canLayAll0 (xs.map .int) = true
  | [] => by (simp [PyData.canLayAll0])
  | x :: xs => by simp [PyData.canLayAll0, PyData.canLay0, lay_ints xs]
theorem depth_ints : (∀ xs : List Int, PyData.depthAll (xs.map .int) = 0)
  | [] => by (simp [PyData.depthAll])
  | x :: xs => by simp [PyData.depthAll, PyData.depth, depth_ints xs]
theorem eqv_ints : ∀ xs ys : List Int, PyData.eqvAll (xs.map .int) (ys.map .int) = (xs == ys)
  | [], [] => by (simp [PyData.eqvAll])
  | [], y :: ys => by simp [PyData.eqvAll]
  | x :: xs, [] => by simp [PyData.eqvAll]
  | x :: xs, y :: ys => by simp [PyData.eqvAll, PyData.eqv, eqv_ints xs ys]
theorem eq_ints (xs ys : List Int) : eqD (.lst (xs.map .int)) (.lst (ys.map .int)) = some (xs == ys) := by
  simp [eqD, D.py, pys_ints, SeqAt.shaped, PyData.canLay0, lay_ints, PyData.depth, depth_ints, PyData.eqv, eqv_ints]
theorem eq_tints (xs ys : List Int) : eqD (.tup (xs.map .int)) (.tup (ys.map .int)) = some (xs == ys) := by
  simp [eqD, D.py, pys_ints, SeqAt.shaped, PyData.canLay0, lay_ints, PyData.depth, depth_ints, PyData.eqv, eqv_ints]
theorem sq_all (m : Nat) (c : Nat → Int) : (Sq m c == Sq m (fun _ => 0)) = (List.range m).all (fun k => c k == 0) := by
  unfold Sq
  generalize List.range m = l
  induction l with
  | nil => rfl
  | cons k l ih =>
    rw [List.map_cons, List.map_cons, List.all_cons, ← ih]
    rfl
theorem sq_any (m : Nat) (c : Nat → Int) : (Sq m c).any (fun x => !(x == 0)) = !(List.range m).all (fun k => c k == 0) := by
  unfold Sq
  generalize List.range m = l
  induction l with
  | nil => rfl
  | cons k l ih =>
    rw [List.map_cons, List.all_cons, List.any_cons, ih, Bool.not_and]
theorem any_is {α : Type} {b : Option Nat} {f : α → Bool} {xs : List α} {t : Bool} (h : xs.any f = t) : blt1D .any (.ol b (xs.map fun x => .bl (f x))) = some (.fz (.bl t)) := by
  rw [any_map, h]
theorem refuting_ok (n : Nat) {m : Nat} {rows : List Row} (h : SysOk m rows) (as : List Int) (ha : ∀ a ∈ as, Lt2 1000 a) (κ : Cells) :
    callN P0 (n + 1) 14 [sysD m rows, .tup (as.map .int)] κ = .ok (.bl (refB m (rows.zip as)), κ) := by
  refine good_eq (fn := ⟨2, 11, Pr.b_are_refuting⟩) rfl rfl ?_
  have hm := h.small
  simp -implicitDefEqProofs [sizeLine_eq, startS, wipeS, assignT, assign1, setAt_eq, isTy, Pr.b_are_refuting, sysD, exec.exec1, exec.evos, exec.assignO, b_mulL (show m ≤ 1000 by omega), zip_rows, ints_rep]
  refine good_for (I := fun xs σ κ' => κ' = κ ∧ ∃ (ps rs : List (Row × Int)) (u v : Option D), xs = rs.map pairR ∧ ps ++ rs = rows.zip as ∧
      σ = [some (.fz (.tup [.int m, .tup (rows.map rowD)])), some (.fz (.tup (as.map .int))), some (.fz (.int m)), some (.fz (.tup (rows.map rowD))),
        some (.ol none ((Sq m (fun k => colS k ps)).map .int)), some (.fz (.int (numS ps))), some (.fz (.bl (strS ps))), Option.map O.fz u, Option.map O.fz v, none, none]) ?_ ?_ ?_
  · exact ⟨rfl, [], rows.zip as, none, none, rfl, rfl, rfl⟩
  · rintro x xs σ κ' ⟨rfl, ps, rs, u, v, hx, hz, rfl⟩
    cases rs with
    | nil => simp at hx
    | cons p rs =>
      simp only [List.map_cons, List.cons.injEq] at hx
      obtain ⟨rfl, rfl⟩ := hx
      have hp : p ∈ rows.zip as := by rw [← hz]; simp
      have hp' := List.of_mem_zip (show (p.1, p.2) ∈ rows.zip as from hp)
      have hr := h.rows _ hp'.1
      have hq := ha _ hp'.2
      have e1 : mulOk p.2 p.1.num = true := (hq.up (show 1000 ≤ 999 + 1 by decide)).ok (hr.num.up (show 1000 ≤ 999 + 1 by decide)) (by decide)
      have e2 : ∀ k, k < m → mulOk p.2 (p.1.at_ k) = true := fun k hk => by
        refine (hq.up (show 1000 ≤ 999 + 1 by decide)).ok (l := 39) ?_ (by decide)
        have hk' : k < p.1.fs.length := by rw [hr.len]; exact hk
        have : p.1.at_ k = p.1.fs[k] := by simp [Row.at_, hk']
        rw [this]
        exact hr.fs _ (List.getElem_mem hk')
      have e3 : p.1.fs = Sq m p.1.at_ := sq_of hr.len
      have hm' : m < 16777216 := by omega
      refine ⟨_, κ', ?_, rfl, ps ++ [p], rs, some (rowD p.1), some (.int p.2), rfl, by rw [← hz]; simp, rfl⟩
      have e4 : (Sq m (fun k => colS k (ps ++ [p]))).map D.int = (List.range m).map (fun k => D.int (colS k ps + p.2 * p.1.at_ k)) := by
        simp only [Sq, List.map_map, colS_app]
        rfl
      cases u <;> cases v <;> (
        simp -implicitDefEqProofs [sizeLine_eq, startS, wipeS, assignT, assign1, setAt_eq, isTy, pairR]
        rw [e3, zip_sq, comp_mapM (g := fun k => D.int (colS k ps + p.2 * p.1.at_ k)) (by
          intro k hk
          simp -implicitDefEqProofs [sizeLine_eq, startS, wipeS, assignT, assign1, setAt_eq, isTy, b_mul (e2 k (List.mem_range.mp hk))])]
        simp -implicitDefEqProofs [sizeLine_eq, startS, wipeS, assignT, assign1, setAt_eq, isTy, hm', b_mul e1, e4, numS_app, strS_app]
        by_cases hpp : 0 < p.2 <;> cases strS ps <;> simp [hpp, sizeLine_eq, startS, wipeS, assignT, assign1, setAt_eq, isTy])
  · rintro σ κ' ⟨rfl, ps, rs, u, v, hx, hz, rfl⟩
    cases rs with
    | cons p rs => simp at hx
    | nil =>
      simp at hz
      subst hz
      have hm' : m < 16777216 := by omega
      simp -implicitDefEqProofs [sizeLine_eq, startS, wipeS, assignT, assign1, setAt_eq, isTy]
      rw [comp_mapM (f := D.int) (g := fun x => D.bl (!(x == 0))) (by
        intro k hk
        simp -implicitDefEqProofs [sizeLine_eq, startS, wipeS, assignT, assign1, setAt_eq, isTy])]
      have hm2 : (Sq m (fun k => colS k (rows.zip as))).length < 16777216 := by rw [sq_len]; omega
      cases hz : (List.range m).all (fun k => colS k (rows.zip as) == 0) with
      | false =>
        have := any_is (b := none) (f := fun x : Int => !(x == 0)) (sq_any m (fun k => colS k (rows.zip as)))
        rw [hz] at this
        simp only [refB, hz]
        simp -implicitDefEqProofs [sizeLine_eq, startS, wipeS, assignT, assign1, setAt_eq, isTy, this, hm2]
      | true =>
        have := any_is (b := none) (f := fun x : Int => !(x == 0)) (sq_any m (fun k => colS k (rows.zip as)))
        rw [hz] at this
        simp only [refB, hz]
        simp -implicitDefEqProofs [sizeLine_eq, startS, wipeS, assignT, assign1, setAt_eq, isTy, this, hm2]
        cases strS (rows.zip as) <;> by_cases h1 : 0 < numS (rows.zip as) <;> by_cases h2 : numS (rows.zip as) = 0 <;> simp [h1, h2, sizeLine_eq, startS, wipeS, assignT, assign1, setAt_eq, isTy]
end R

/-! M10: the law's own way to refute; what Refuteds refute. -/
namespace R
open PySem L2
theorem putO_nat {xs : List D} {k : Nat} {d : D} (h : k < xs.length) (hl : xs.length ≤ 1000) : putO (.ol none xs) (.int k) d = some (.ol none (xs.set k d)) := by
  have h1 : -(2 ^ 63) ≤ (k : Int) := by omega
  have h2 : (k : Int) < 2 ^ 63 := by omega
  have h3 : ixN xs.length (k : Int) = some k := by simp [ixN, h]
  unfold putO
  simp only [decide_eq_true h1, decide_eq_true h2, h3, Bool.and_self, if_true, Option.map_some]
theorem at_sq {m k : Nat} (c : Nat → Int) (h : k < m) : atI ((Sq m c).map D.int) (k : Int) = some (.int (c k)) := atI_nat (by simp [sq_get c h])
theorem set_sq {m k : Nat} (c d : Nat → Int) (h : k < m) : ((Sq m (fun i => if i < k then d i else c i)).map D.int).set k (.int (d k)) = (Sq m (fun i => if i < k + 1 then d i else c i)).map D.int := by
  rw [← sq_set c d h, List.map_set]
theorem refuting_l (n : Nat) {m : Nat} {rows : List Row} (h : SysOk m rows) (as : List Int) (ha : ∀ a ∈ as, Lt2 1000 a) (κ : Cells) :
    callN P0 (n + 1) 35 [.tup (rows.map rowD), .tup (as.map .int), .int m] κ = .ok (.bl (refB m (rows.zip as)), κ) := by
  refine good_eq (fn := ⟨3, 9, Pr.b__law_refuting⟩) rfl rfl ?_
  have hm := h.small
  simp -implicitDefEqProofs [sizeLine_eq, startS, wipeS, assignT, assign1, setAt_eq, isTy, Pr.b__law_refuting, exec.exec1, exec.evos, exec.assignO, b_mulL (show m ≤ 1000 by omega), zip_rows, ints_rep]
  refine good_for (I := fun xs σ κ' => κ' = κ ∧ ∃ (ps rs : List (Row × Int)) (u v w : Option D), xs = rs.map pairR ∧ ps ++ rs = rows.zip as ∧
      σ = [some (.fz (.tup (rows.map rowD))), some (.fz (.tup (as.map .int))), some (.fz (.int m)),
        some (.ol none ((Sq m (fun k => colS k ps)).map .int)), some (.fz (.int (numS ps))), some (.fz (.bl (strS ps))), Option.map O.fz u, Option.map O.fz v, Option.map O.fz w]) ?_ ?_ ?_
  · exact ⟨rfl, [], rows.zip as, none, none, none, rfl, rfl, rfl⟩
  · rintro x xs σ κ' ⟨rfl, ps, rs, u, v, w, hx, hz, rfl⟩
    cases rs with
    | nil => simp at hx
    | cons p rs =>
      simp only [List.map_cons, List.cons.injEq] at hx
      obtain ⟨rfl, rfl⟩ := hx
      have hp : p ∈ rows.zip as := by rw [← hz]; simp
      have hp' := List.of_mem_zip (show (p.1, p.2) ∈ rows.zip as from hp)
      have hr := h.rows _ hp'.1
      have hq := ha _ hp'.2
      have e1 : mulOk p.2 p.1.num = true := (hq.up (show 1000 ≤ 999 + 1 by decide)).ok (hr.num.up (show 1000 ≤ 999 + 1 by decide)) (by decide)
      have e2 : ∀ k, k < m → mulOk p.2 (p.1.at_ k) = true := fun k hk => by
        refine (hq.up (show 1000 ≤ 999 + 1 by decide)).ok (l := 39) ?_ (by decide)
        have hk' : k < p.1.fs.length := by rw [hr.len]; exact hk
        have : p.1.at_ k = p.1.fs[k] := by simp [Row.at_, hk']
        rw [this]
        exact hr.fs _ (List.getElem_mem hk')
      have e3 : p.1.fs = Sq m p.1.at_ := sq_of hr.len
      have e5 : ∀ k, k < m → atI (p.1.fs.map D.int) (k : Int) = some (.int (p.1.at_ k)) := fun k hk => by rw [e3]; exact at_sq _ hk
      change NxTo _ _
      have hor : (strS ps || decide (0 < p.2) && p.1.st) = strS (ps ++ [p]) := (strS_app ps p).symm
      by_cases hpp : 0 < p.2 <;> cases hss : strS ps <;> (
        simp -implicitDefEqProofs [sizeLine_eq, startS, wipeS, assignT, assign1, setAt_eq, isTy, pairR, b_mul e1, hpp, hss, range_nat (show m ≤ 2 ^ 40 by omega)]
        rw [hss] at hor
        simp only [hpp, decide_true, decide_false, Bool.true_and, Bool.false_and, Bool.or_false, Bool.false_or, Bool.true_or] at hor
        refine nx_for1 (I := fun j σ κ => κ = κ' ∧ ∃ w : Option D, σ = [some (.fz (.tup (rows.map rowD))), some (.fz (.tup (as.map .int))), some (.fz (.int m)),
            some (.ol none ((Sq m (fun i => if i < j then colS i (ps ++ [p]) else colS i ps)).map .int)), some (.fz (.int (numS ps + p.2 * p.1.num))), some (.fz (.bl (strS (ps ++ [p])))), some (.fz (rowD p.1)), some (.fz (.int p.2)), Option.map O.fz w]) ?_ ?_ ?_
        · refine ⟨rfl, w, ?_⟩
          rw [← hor]
          simp
        · rintro j x σ κ hx ⟨rfl, w, rfl⟩
          simp only [List.getElem?_map, List.getElem?_range, Option.map_eq_some_iff] at hx
          obtain ⟨j', hj, rfl⟩ := hx
          have hjm : j < m := by
            rcases Nat.lt_or_ge j m with h' | h'
            · exact h'
            · rw [List.getElem?_eq_none (by simpa using h')] at hj; simp at hj
          rw [List.getElem?_range hjm] at hj
          simp only [Option.some.injEq] at hj
          subst hj
          refine ⟨_, _, ?_, rfl, some (.int j), rfl⟩
          have e6 := set_sq (fun i => colS i ps) (fun i => colS i (ps ++ [p])) hjm
          have e7 := colS_app j ps p
          simp -implicitDefEqProofs [sizeLine_eq, startS, wipeS, assignT, assign1, setAt_eq, isTy, at_sq _ hjm, e5 j hjm, b_mul (e2 j hjm)]
          rw [putO_nat (by simp [sq_len]; exact hjm) (by simp [sq_len]; omega)]
          simp -implicitDefEqProofs [sizeLine_eq, startS, wipeS, assignT, assign1, setAt_eq, isTy, ]
          rw [← e7]
          exact e6
        · rintro σ κ ⟨rfl, w, rfl⟩
          simp -implicitDefEqProofs [sizeLine_eq, startS, wipeS, assignT, assign1, setAt_eq, isTy, ]
          refine ⟨ps ++ [p], rs, rfl, by rw [← hz]; simp, ?_⟩
          refine ⟨congrArg _ (sq_eq fun k hk => by rw [if_pos hk]), (numS_app ps p).symm, rfl, ⟨some _, rfl⟩, ⟨some _, rfl⟩, ⟨w, rfl⟩⟩)
  · rintro σ κ' ⟨rfl, ps, rs, u, v, w, hx, hz, rfl⟩
    cases rs with
    | cons p rs => simp at hx
    | nil =>
      simp at hz
      subst hz
      have e8 : eqD (.lst ((Sq m fun k => colS k (rows.zip as)).map .int)) (.lst ((Sq m fun k => 0).map .int)) = some ((List.range m).all fun k => colS k (rows.zip as) == 0) := by
        rw [eq_ints, sq_all]
      unfold refB
      cases hr : (List.range m).all fun k => colS k (rows.zip as) == 0 <;> rw [hr] at e8 <;> cases strS (rows.zip as) <;> by_cases h1 : 0 < numS (rows.zip as) <;> by_cases h2 : numS (rows.zip as) = 0 <;>
        simp -implicitDefEqProofs [sizeLine_eq, startS, wipeS, assignT, assign1, setAt_eq, isTy, b_mulL (show m ≤ 1000 by omega), ints_rep, e8, h1, h2]
end R

/-! M11: what Refuteds refute, by the program and by the law. -/
namespace R
open PySem L2
/-- what == may look at -/
def Ly (k : Nat) (d : D) : Prop := ∃ p : PyData, d.py = some p ∧ p.canLay0 = true ∧ p.depth ≤ k
theorem Ly.up {k l : Nat} {d : D} (h : Ly k d) (hl : k ≤ l) : Ly l d := by
  obtain ⟨p, h1, h2, h3⟩ := h
  exact ⟨p, h1, h2, by omega⟩
theorem ly_non : Ly 0 .non := ⟨.none, by simp only [D.py], by simp only [PyData.canLay0], by simp [PyData.depth]⟩
theorem ly_bl (b : Bool) : Ly 0 (.bl b) := ⟨.bool b, by simp only [D.py], by simp only [PyData.canLay0], by simp [PyData.depth]⟩
theorem ly_int (b : Int) : Ly 0 (.int b) := ⟨.int b, by simp only [D.py], by simp only [PyData.canLay0], by simp [PyData.depth]⟩
theorem ly_str (b : Str) (h : PyData.strOk b = true) : Ly 0 (.str b) := ⟨.str b, by simp only [D.py], by simp only [PyData.canLay0, h], by simp [PyData.depth]⟩
theorem lys {k : Nat} : ∀ {xs : List D}, (∀ x ∈ xs, Ly k x) → ∃ ps : List PyData, D.pys xs = some ps ∧ PyData.canLayAll0 ps = true ∧ PyData.depthAll ps ≤ k ∧ ps.length = xs.length
  | [], _ => ⟨[], by simp [D.pys], by simp [PyData.canLayAll0], by simp [PyData.depthAll], rfl⟩
  | x :: xs, h => by
    obtain ⟨p, h1, h2, h3⟩ := h x (by simp)
    obtain ⟨ps, g1, g2, g3, g4⟩ := lys (xs := xs) (fun y hy => h y (by simp [hy]))
    refine ⟨p :: ps, by simp [D.pys, h1, g1], by simp [PyData.canLayAll0, h2, g2], ?_, by simp [g4]⟩
    simp only [PyData.depthAll]
    omega
theorem ly_tup {k : Nat} {xs : List D} (h : ∀ x ∈ xs, Ly k x) : Ly (k + 1) (.tup xs) := by
  obtain ⟨ps, g1, g2, g3, g4⟩ := lys h
  exact ⟨.tuple ps, by simp [D.py, g1], by simp [PyData.canLay0, g2], by simp [PyData.depth]; omega⟩
theorem ly_lst {k : Nat} {xs : List D} (h : ∀ x ∈ xs, Ly k x) : Ly (k + 1) (.lst xs) := by
  obtain ⟨ps, g1, g2, g3, g4⟩ := lys h
  exact ⟨.list ps, by simp [D.py, g1], by simp [PyData.canLay0, g2], by simp [PyData.depth]; omega⟩
theorem eq_nil {xs : List D} (h : ∀ x ∈ xs, Ly 50 x) : eqD (.lst xs) (.lst []) = some xs.isEmpty := by
  obtain ⟨ps, g1, g2, g3, g4⟩ := lys h
  have h3 : PyData.depthAll ps ≤ 63 := by omega
  have e : PyData.eqvAll ps [] = xs.isEmpty := by
    cases ps <;> cases xs <;> simp [PyData.eqvAll] at g4 ⊢
  have hs : SeqAt.shaped (.list ps) = true := by
    simp [SeqAt.shaped, PyData.canLay0, g2, PyData.depth]
    omega
  have hn : SeqAt.shaped (.list []) = true := by
    simp [SeqAt.shaped, PyData.canLay0, PyData.canLayAll0, PyData.depth, PyData.depthAll]
  simp only [eqD, D.py, g1, Option.map_some, D.pys, hs, hn, Bool.and_self, if_true, PyData.eqv, e]
theorem ly_row (r : Row) : Ly 2 (rowD r) := by
  refine ly_tup (k := 1) ?_
  intro x hx
  simp only [List.not_mem_nil, or_false, List.mem_cons] at hx
  rcases hx with rfl | rfl | rfl
  · refine ly_tup (k := 0) ?_
    intro y hy
    obtain ⟨i, _, rfl⟩ := List.mem_map.mp hy
    exact ly_int i
  · exact (ly_str _ (by cases r.st <;> decide +kernel)).up (by decide)
  · exact (ly_int _).up (by decide)
def asI : D → Int
  | .int i => i
  | _ => 0
def plainD : D → Bool
  | .non | .bl _ | .int _ => true
  | _ => false
theorem plain_ly {d : D} (h : plainD d = true) : Ly 0 d := by
  cases d <;> simp [plainD] at h
  · exact ly_non
  · exact ly_bl _
  · exact ly_int _
theorem plain_nice {d : D} (h : plainD d = true) : d.nice = true := by
  cases d <;> simp [plainD] at h <;> simp
theorem counts_ints {xs : List D} (h : xs.all countB = true) : xs = (xs.map asI).map D.int := by
  rw [List.map_map]
  conv => lhs; rw [← List.map_id xs]
  apply List.map_congr_left
  intro x hx
  have := (List.all_eq_true.mp h) x hx
  cases x <;> simp [countB] at this
  rfl
/-- whether a Refuted's multipliers refute rows -/
def refD (m : Nat) (rows : List Row) : D → Bool
  | .tup xs => decide (xs.length = rows.length) && xs.all countB && refB m (rows.zip (xs.map asI))
  | _ => false
/-- multipliers as the law makes them -/
structure MulOk (d : D) : Prop where
  nice : d.nice = true
  low : ∀ xs, d = .tup xs → ∀ x ∈ xs, plainD x = true ∧ Lt2 1000 (asI x)
@[simp] theorem fld2 (d : D) (r : List D) : fldO [(2, 0)] (.ins 2 (d :: r)) = some d := rfl
theorem refutes_ok (n : Nat) {m : Nat} {rows : List Row} (h : SysOk m rows) (d : D) (hd : MulOk d) (κ : Cells) :
    callN P0 (n + 5) 15 [sysD m rows, .ins 2 [d]] κ = .ok (.bl (refD m rows d), κ) := by
  rw [call0 (fn := ⟨2, 3, Pr.b_refutes⟩) rfl rfl]
  have hk := nice_ty hd.nice
  have hm := h.few
  cases d with
  | tup xs =>
    obtain ⟨hl, ha⟩ := nice_tup hd.nice
    have hx := hd.low xs rfl
    have hz : xs.length < 16777216 := by omega
    by_cases hq : xs.length = rows.length
    · simp -implicitDefEqProofs [sizeLine_eq, startS, wipeS, assignT, assign1, setAt_eq, isTy, Pr.b_refutes, need_yes n _ κ h.nice h.sys, hq]
      rw [comp_mapD (g := fun x => .bl (countB x)) (by
        intro x hx'
        simp -implicitDefEqProofs [sizeLine_eq, startS, wipeS, assignT, assign1, setAt_eq, isTy, count_ok (n + 2) x _ (nice_ty (plain_nice (hx x hx').1))])]
      cases hc : xs.all countB with
      | false =>
        have hz' : rows.length < 16777216 := by omega
        simp -implicitDefEqProofs [sizeLine_eq, startS, wipeS, assignT, assign1, setAt_eq, isTy, all_is hc, hz, hz', refD, hc, hq]
      | true =>
        have e := refuting_ok (n + 3) h (xs.map asI) (by
          intro a ha'
          obtain ⟨x, hx', rfl⟩ := List.mem_map.mp ha'
          exact (hx x hx').2) κ
        rw [← counts_ints hc] at e
        have hz' : rows.length < 16777216 := by omega
        simp -implicitDefEqProofs [sizeLine_eq, startS, wipeS, assignT, assign1, setAt_eq, isTy, all_is hc, hz, hz', e, refD, hc, hq]
    · have hq' : ¬ (xs.length : Int) = rows.length := by omega
      simp -implicitDefEqProofs [sizeLine_eq, startS, wipeS, assignT, assign1, setAt_eq, isTy, Pr.b_refutes, need_yes n _ κ h.nice h.sys, hq', refD, hq]
  | _ => simp [hasTy] at hk <;> simp -implicitDefEqProofs [sizeLine_eq, startS, wipeS, assignT, assign1, setAt_eq, isTy, Pr.b_refutes, need_yes n _ κ h.nice h.sys, refD]
theorem refutes_not (n : Nat) {m : Nat} {rows : List Row} (h : SysOk m rows) (d : D) (hd : d.nice = true) (κ : Cells) :
    callN P0 (n + 5) 15 [sysD m rows, d] κ = .ok (.bl false, κ) := by
  rw [call0 (fn := ⟨2, 3, Pr.b_refutes⟩) rfl rfl]
  have hk := nice_ty hd
  cases d with
  | ins c fs => simp [D.nice] at hd
  | _ => simp [hasTy] at hk <;> simp -implicitDefEqProofs [sizeLine_eq, startS, wipeS, assignT, assign1, setAt_eq, isTy, Pr.b_refutes, need_yes n _ κ h.nice h.sys]
theorem lright_ok (n : Nat) {m : Nat} {rows : List Row} (h : SysOk m rows) (d : D) (hd : MulOk d) (κ : Cells) :
    callN P0 (n + 5) 38 [sysD m rows, .ins 2 [d]] κ = .ok (.bl (refD m rows d), κ) := by
  rw [call0 (fn := ⟨2, 3, Pr.b__law_is_right_refuted⟩) rfl rfl]
  have hk := nice_ty hd.nice
  have hm := h.few
  cases d with
  | tup xs =>
    obtain ⟨hl, ha⟩ := nice_tup hd.nice
    have hx := hd.low xs rfl
    have hz : xs.length < 16777216 := by omega
    by_cases hq : xs.length = rows.length
    · simp -implicitDefEqProofs [sizeLine_eq, startS, wipeS, assignT, assign1, setAt_eq, isTy, Pr.b__law_is_right_refuted, hq]
      rw [comp_filterD (p := fun x => !countB x) (g := fun x => x) (by
        intro x hx'
        have := (hx x hx').1
        cases x <;> simp [plainD] at this
        · simp -implicitDefEqProofs [sizeLine_eq, startS, wipeS, assignT, assign1, setAt_eq, isTy, countB, whole]
        · simp -implicitDefEqProofs [sizeLine_eq, startS, wipeS, assignT, assign1, setAt_eq, isTy, countB, whole]
        · rename_i i
          by_cases hi : i < 0
          · simp -implicitDefEqProofs [sizeLine_eq, startS, wipeS, assignT, assign1, setAt_eq, isTy, countB, whole, hi]
          · simp -implicitDefEqProofs [sizeLine_eq, startS, wipeS, assignT, assign1, setAt_eq, isTy, countB, whole, hi])]
      have hzf : (xs.filter (fun x => !countB x)).length < 16777216 := by
        have := List.length_filter_le (fun x => !countB x) xs
        omega
      have e1 : eqD (.lst (xs.filter (fun x => !countB x))) (.lst []) = some (xs.filter (fun x => !countB x)).isEmpty := eq_nil (by
        intro x hx'
        exact (plain_ly (hx x (List.mem_filter.mp hx').1).1).up (by decide))
      have e2 : (xs.filter (fun x => !countB x)).isEmpty = xs.all countB := by
        rw [Bool.eq_iff_iff]
        simp [List.filter_eq_nil_iff]
      rw [e2] at e1
      cases hc : xs.all countB with
      | false =>
        rw [hc] at e1
        simp -implicitDefEqProofs [sizeLine_eq, startS, wipeS, assignT, assign1, setAt_eq, isTy, hzf, e1, refD, hc, hq]
      | true =>
        rw [hc] at e1
        have e := refuting_l (n + 3) h (xs.map asI) (by
          intro a ha'
          obtain ⟨x, hx', rfl⟩ := List.mem_map.mp ha'
          exact (hx x hx').2) κ
        rw [← counts_ints hc] at e
        simp -implicitDefEqProofs [sizeLine_eq, startS, wipeS, assignT, assign1, setAt_eq, isTy, hzf, e1, refD, hc, hq, e]
    · have hq' : ¬ (xs.length : Int) = rows.length := by omega
      simp -implicitDefEqProofs [sizeLine_eq, startS, wipeS, assignT, assign1, setAt_eq, isTy, Pr.b__law_is_right_refuted, hq', refD, hq]
  | _ => simp [hasTy] at hk <;> simp -implicitDefEqProofs [sizeLine_eq, startS, wipeS, assignT, assign1, setAt_eq, isTy, Pr.b__law_is_right_refuted, refD]
end R

/-! M12: what is drawn: picks, orders, rows, points. -/
namespace R
open PySem L2
def PenK (N : Nat) (κ : Cells) : Prop := ∃ p : Pen, κ = [p.kv] ∧ p.ok N
theorem PenK.up {N M : Nat} {κ : Cells} (h : PenK N κ) (hm : N ≤ M) : PenK M κ := by
  obtain ⟨p, h1, h2⟩ := h
  exact ⟨p, h1, h2.up hm⟩
theorem draw' (n : Nat) {κ : Cells} {N : Nat} (hk : PenK N κ) (hN : N ≤ 1000000) (m : Int) (hm : 0 < m) (hm' : m < 2 ^ 40) :
    ∃ (k : Int) (κ' : Cells), callN P0 (n + 1) 28 [.obj 0, .int m] κ = .ok (.int k, κ') ∧ 0 ≤ k ∧ k < m ∧ PenK (N + 1) κ' := by
  obtain ⟨p, rfl, hp⟩ := hk
  obtain ⟨k, p', h1, h2, h3, h4⟩ := draw_ok n p N hp hN m hm hm'
  exact ⟨k, _, h1, h2, h3, p', rfl, h4⟩
theorem pick_ok (n : Nat) {κ : Cells} {N : Nat} (hk : PenK N κ) (hN : N ≤ 1000000) (xs : List D) (h0 : xs ≠ []) (hl : xs.length ≤ 1000) :
    ∃ (x : D) (κ' : Cells), callN P0 (n + 2) 29 [.obj 0, .lst xs] κ = .ok (x, κ') ∧ x ∈ xs ∧ PenK (N + 1) κ' := by
  have hp : 0 < xs.length := List.length_pos_iff.mpr h0
  obtain ⟨k, κ1, e, h1, h2, h3⟩ := draw' n hk hN (xs.length : Int) (by omega) (by omega)
  obtain ⟨j, rfl⟩ := Int.eq_ofNat_of_zero_le h1
  have hj : j < xs.length := by omega
  refine ⟨xs[j], κ1, ?_, List.getElem_mem hj, h3⟩
  rw [call0 (fn := ⟨2, 2, Pr.b__law_pick⟩) rfl rfl]
  have ea : atI xs (j : Int) = some xs[j] := atI_nat (by simp [hj])
  simp -implicitDefEqProofs [sizeLine_eq, startS, wipeS, assignT, assign1, setAt_eq, isTy, Pr.b__law_pick, e, ea]
theorem cut_lo {α : Type} (xs : List α) (k : Nat) (h : k ≤ xs.length) : cutD xs none (some (k : Int)) = xs.take k := by
  simp [cutD, HT.sIx_none, HT.sIx_nat, h]
theorem cut_hi {α : Type} (xs : List α) (k : Nat) (h : k ≤ xs.length) : cutD xs (some (k : Int)) none = xs.drop k := by
  simp [cutD, HT.sIx_none, HT.sIx_nat, h, List.take_of_length_le]
@[simp] theorem sl_lst (xs : List D) (lo hi : Option Int) : slcD lo hi (.lst xs) = some (.ol none (cutD xs lo hi)) := rfl
@[simp] theorem sl_tup (xs : List D) (lo hi : Option Int) : slcD lo hi (.tup xs) = some (.fz (.tup (cutD xs lo hi))) := rfl
theorem perm_out {α : Type} (f r : List α) (j : Nat) (h : j < r.length) : List.Perm (f ++ [r[j]] ++ (r.take j ++ r.drop (j + 1))) (f ++ r) := by
  rw [List.append_assoc]
  refine List.Perm.append_left f ?_
  have e : r = r.take j ++ r[j] :: r.drop (j + 1) := by rw [List.getElem_cons_drop, List.take_append_drop]
  conv => rhs; rw [e]
  rw [List.singleton_append]
  exact List.perm_middle.symm
theorem shuf_ok (n : Nat) {κ : Cells} {N : Nat} (hk : PenK N κ) (xs : List D) (hl : xs.length ≤ 1000) (hN : N ≤ 900000) :
    ∃ (ys : List D) (κ' : Cells), callN P0 (n + 2) 30 [.obj 0, .lst xs] κ = .ok (.lst ys, κ') ∧ List.Perm ys xs ∧ PenK (N + xs.length) κ' := by
  suffices h : ∃ d κ', callN P0 (n + 2) 30 [.obj 0, .lst xs] κ = .ok (d, κ') ∧ (∃ ys, d = .lst ys ∧ List.Perm ys xs ∧ PenK (N + xs.length) κ') by
    obtain ⟨d, κ', h, ys, rfl, h2, h3⟩ := h
    exact ⟨ys, κ', h, h2, h3⟩
  refine good_call (fn := ⟨2, 6, Pr.b__law_shuffled⟩) rfl rfl ?_
  simp -implicitDefEqProofs [sizeLine_eq, startS, wipeS, assignT, assign1, setAt_eq, isTy, Pr.b__law_shuffled, exec.exec1, exec.evos, exec.assignO, range_nat (show xs.length ≤ 2 ^ 40 by omega)]
  refine good_for1 (I := fun j σ κ => PenK (N + j) κ ∧ ∃ (r f : List D) (u v : Option D), f.length = j ∧ List.Perm (f ++ r) xs ∧
    σ = [some (.fz (.obj 0)), some (.fz (.lst xs)), some (.ol none r), some (.ol none f), Option.map O.fz u, Option.map O.fz v]) ?_ ?_ ?_
  · exact ⟨hk, xs, [], none, none, rfl, List.Perm.refl _, rfl⟩
  · rintro j x σ κ1 hx ⟨hk1, r, f, u, v, hf, hp, rfl⟩
    have hj : j < xs.length := by
      rcases (Nat.lt_or_ge j xs.length) with h' | h'
      · exact h'
      · rw [List.getElem?_eq_none (by simpa using h')] at hx; simp at hx
    have hlen := hp.length_eq
    rw [List.length_append] at hlen
    obtain ⟨k, κ2, e, h1, h2, h3⟩ := draw' n hk1 (by omega) (r.length : Int) (by omega) (by omega)
    obtain ⟨i, rfl⟩ := Int.eq_ofNat_of_zero_le h1
    have hi : i < r.length := by omega
    have ea : atI r (i : Int) = some r[i] := atI_nat (by simp [hi])
    have eh := cut_hi r (i + 1) (by omega)
    rw [Int.natCast_add, Int.natCast_one] at eh
    have el := cut_lo r i (by omega)
    have hq : f.length < 16777216 := by omega
    have hb : (r.take i).length + (r.drop (i + 1)).length ≤ sizeLine := by
      rw [sizeLine_eq, List.length_take, List.length_drop]
      omega
    refine ⟨_, _, ?_, h3, r.take i ++ r.drop (i + 1), f ++ [r[i]], some x, some (.int i), by simp [hf], (perm_out f r i hi).trans hp, rfl⟩
    simp -implicitDefEqProofs [sizeLine_eq, startS, wipeS, assignT, assign1, setAt_eq, isTy, e, ea, eh, el, hq, b_addL hb]
  · rintro σ κ1 ⟨hk1, r, f, u, v, hf, hp, rfl⟩
    have hlen := hp.length_eq
    simp only [List.length_append, List.length_map, List.length_range] at hlen hf hk1
    have hr : r = [] := by
      apply List.length_eq_zero_iff.mp
      omega
    subst hr
    rw [List.append_nil] at hp
    simp -implicitDefEqProofs [sizeLine_eq, startS, wipeS, assignT, assign1, setAt_eq, isTy, ]
    exact ⟨hp, hk1⟩
/-- numbers out of values -/
theorem ints_of {ys : List D} {P : Int → Prop} (h : ∀ (j : Nat) (y : D), ys[j]? = some y → ∃ i, y = .int i ∧ P i) : ∃ is : List Int, ys = is.map .int ∧ ∀ i ∈ is, P i := by
  induction ys with
  | nil => exact ⟨[], rfl, by simp⟩
  | cons y ys ih =>
    obtain ⟨i, rfl, hi⟩ := h 0 y rfl
    obtain ⟨is, rfl, hs⟩ := ih (fun j y hy => h (j + 1) y (by simpa using hy))
    refine ⟨i :: is, rfl, ?_⟩
    intro x hx
    rcases List.mem_cons.mp hx with e | e
    · rw [e]; exact hi
    · exact hs x e
theorem lt2_of {i : Int} {k : Nat} (h : i.natAbs < 2 ^ k) : Lt2 k i := h
theorem good_comp {I : Nat → Cells → Prop} {T : D → Prop} {step : D → Cells → Out (List D × Cells)} {t : Tk step} {xs : List D} {κ : Cells}
    (h0 : I 0 κ) (hs : ∀ (j : Nat) (x : D) (κ : Cells), xs[j]? = some x → I j κ → ∃ y κ', step x κ = .ok ([y], κ') ∧ I (j + 1) κ' ∧ T y) :
    ∃ ys κ', compD step t xs κ = .ok (ys, κ') ∧ ys.length = xs.length ∧ I xs.length κ' ∧ ∀ (j : Nat) (y : D), ys[j]? = some y → T y := by
  obtain ⟨ys, κ', h1, h2, h3, h4⟩ := comp_each (I := I) (T := fun _ => T) xs 0 κ (fun j x κ hx hi => by
    rw [Nat.zero_add] at hi ⊢
    exact hs j x κ hx hi) h0
  rw [Nat.zero_add] at h3
  exact ⟨ys, κ', h1, h2, h3, fun j y hy => h4 j y hy⟩
theorem good_compC {I : Nat → Cells → Prop} {T : D → Prop} {step : D → Cells → Out (List D × Cells)} {t : Tk step} {xs : List D} {κ : Cells} {C : Out (List D × Cells)} (hC : compD step t xs κ = C)
    (h0 : I 0 κ) (hs : ∀ (j : Nat) (x : D) (κ : Cells), xs[j]? = some x → I j κ → ∃ y κ', step x κ = .ok ([y], κ') ∧ I (j + 1) κ' ∧ T y) :
    ∃ ys κ', C = .ok (ys, κ') ∧ ys.length = xs.length ∧ I xs.length κ' ∧ ∀ (j : Nat) (y : D), ys[j]? = some y → T y := by
  rw [← hC]
  exact good_comp h0 hs
theorem good_bind {α : Type} {g : α → Res} {t : Tk g} {o : Out α} {σ : Sl} {f : Sl → Cells → Res} {t' : Tk f} {Q : D → Cells → Prop} {J : α → Prop}
    (h : ∃ a, o = .ok a ∧ J a) (k : ∀ a, J a → Good (Res.then f t' (g a)) Q) : Good (Res.then f t' (exEd g t o σ)) Q := by
  obtain ⟨a, rfl, ha⟩ := h
  exact k a ha
theorem bd_ex {α β : Type} {g : α → Out β} {t : Tk g} {o : Out α} {J : α → Prop} {P : β → Prop} (h : ∃ a, o = .ok a ∧ J a) (k : ∀ a, J a → ∃ b, g a = .ok b ∧ P b) : ∃ b, bd g t o = .ok b ∧ P b := by
  obtain ⟨a, rfl, ha⟩ := h
  exact k a ha
end R

/-! M13: drawn rows and points. -/
namespace R
open PySem L2
theorem get_range {n j : Nat} {x : D} (h : ((List.range n).map fun (k : Nat) => D.int (k : Int))[j]? = some x) : j < n ∧ x = .int j := by
  have hj : j < n := by
    rcases Nat.lt_or_ge j n with h' | h'
    · exact h'
    · rw [List.getElem?_eq_none (by simpa using h')] at h; simp at h
  refine ⟨hj, ?_⟩
  rw [List.getElem?_map, List.getElem?_range hj] at h
  simpa using h.symm
theorem good_callQ {n f : Nat} {fn : Fn} {ds : List D} {κ : Cells} {Q : D → Cells → Prop} (hf : P0.fns[f]? = some fn) (hl : ds.length = fn.ps)
    (h : ∀ Q' : D → Cells → Prop, (∀ d κ, Q d κ → Q' d κ) → Good (exec (Gm n) fn.body (startS fn ds) κ) Q') : ∃ d κ', callN P0 (n + 1) f ds κ = .ok (d, κ') ∧ Q d κ' :=
  good_call hf hl (h Q (fun _ _ h => h))
/-- a drawn row -/
structure DrOk (many much : Nat) (r : Row) : Prop where
  len : r.fs.length = many
  fs : ∀ f ∈ r.fs, f.natAbs ≤ much
  num : r.num.natAbs ≤ 2 * much
theorem DrOk.row {many much : Nat} {r : Row} (h : DrOk many much r) (hm : much ≤ 1000) : RowOk many r :=
  ⟨h.len, fun f hf => by have := h.fs f hf; unfold Lt2; omega, by have := h.num; exact Lt2.up (k := 12) (by unfold Lt2; omega) (by decide)⟩
theorem lrow_ok (n : Nat) {κ : Cells} {N : Nat} (hk : PenK N κ) (many much : Nat) (hm : many ≤ 10) (hu : much ≤ 1000) (hN : N ≤ 900000) :
    ∃ (r : Row) (κ' : Cells), callN P0 (n + 3) 33 [.obj 0, .int many, .int much] κ = .ok (rowD r, κ') ∧ DrOk many much r ∧ PenK (N + 2 * many + 2) κ' := by
  suffices h : ∃ d κ', callN P0 (n + 3) 33 [.obj 0, .int many, .int much] κ = .ok (d, κ') ∧ (∃ r, d = rowD r ∧ DrOk many much r ∧ PenK (N + 2 * many + 2) κ') by
    obtain ⟨d, κ', h, ys, rfl, h2, h3⟩ := h
    exact ⟨ys, κ', h, h2, h3⟩
  refine good_callQ (fn := ⟨3, 5, Pr.b__law_row⟩) rfl rfl fun Q hQ => ?_
  simp -implicitDefEqProofs [sizeLine_eq, startS, wipeS, assignT, assign1, setAt_eq, isTy, Pr.b__law_row, range_nat (show many ≤ 2 ^ 40 by omega)]
  generalize hC : compD _ _ _ _ = C
  have hC' := good_compC (I := fun j κ => j ≤ many ∧ PenK (N + 2 * j) κ) (T := fun y => ∃ i, y = .int i ∧ i.natAbs ≤ much) hC (⟨Nat.zero_le _, hk⟩) (by
      rintro j x κ1 hx ⟨hj, hk1⟩
      obtain ⟨hj, rfl⟩ := get_range hx
      obtain ⟨k, κ2, e, h1, h2, h3⟩ := draw' (n + 1) hk1 (by omega) 3 (by omega) (by omega)
      by_cases hk0 : 0 < k
      · obtain ⟨l, κ3, e', g1, g2, g3⟩ := draw' (n + 1) h3 (by omega) (2 * much + 1) (by omega) (by omega)
        refine ⟨.int (l - much), κ3, ?_, ⟨hj, g3⟩, _, rfl, by omega⟩
        have em : mulOk 2 much = true := mulOk_of (a := 30) (b := 30) (by decide) (by omega) (by decide)
        simp -implicitDefEqProofs [sizeLine_eq, startS, wipeS, assignT, assign1, setAt_eq, isTy, e, hk0, b_mul em, e']
      · refine ⟨.int 0, κ2, ?_, ⟨hj, h3.up (by omega)⟩, _, rfl, by simp⟩
        simp -implicitDefEqProofs [sizeLine_eq, startS, wipeS, assignT, assign1, setAt_eq, isTy, e, hk0])
  clear hC
  simp only [List.length_map, List.length_range] at hC'
  obtain ⟨ys, κ1, rfl, hl, ⟨-, hk1⟩, hy⟩ := hC'
  obtain ⟨is, rfl, hi⟩ := ints_of hy
  have hz : is.length < 16777216 := by simp at hl; omega
  have hl' : is.length = many := by simpa using hl
  obtain ⟨x, κ2, e1, hx, hk2⟩ := pick_ok n hk1 (by omega) [.str ">=", .str ">=", .str ">"] (by simp) (by simp)
  obtain ⟨k, κ3, e2, g1, g2, hk3⟩ := draw' (n + 1) hk2 (by omega) (4 * much + 1) (by omega) (by omega)
  have em4 : mulOk 4 much = true := mulOk_of (a := 30) (b := 30) (by decide) (by omega) (by decide)
  have em2 : mulOk 2 much = true := mulOk_of (a := 30) (b := 30) (by decide) (by omega) (by decide)
  have hs : ∃ b, x = sgD b := by
    simp only [List.not_mem_nil, or_false, List.mem_cons] at hx
    rcases hx with rfl | rfl | rfl
    · exact ⟨false, rfl⟩
    · exact ⟨false, rfl⟩
    · exact ⟨true, rfl⟩
  obtain ⟨b, rfl⟩ := hs
  simp -implicitDefEqProofs [sizeLine_eq, startS, wipeS, assignT, assign1, setAt_eq, isTy, hz, e1, b_mul em4, e2, b_mul em2]
  exact hQ _ _ ⟨⟨is, b, k - 2 * much⟩, rfl, ⟨hl', hi, by show (k - 2 * (much : Int)).natAbs ≤ _; omega⟩, hk3⟩
theorem lpoint_ok (n : Nat) {κ : Cells} {N : Nat} (hk : PenK N κ) (many : Nat) (hm : many ≤ 10) (hN : N ≤ 900000) :
    ∃ (pts : List (Int × Int)) (κ' : Cells), callN P0 (n + 2) 40 [.obj 0, .int many] κ = .ok (.tup (pts.map frD), κ') ∧ pts.length = many ∧ (∀ p ∈ pts, PtOk p ∧ p.1.natAbs ≤ 20 ∧ p.2.natAbs ≤ 4) ∧ PenK (N + 2 * many) κ' := by
  suffices h : ∃ d κ', callN P0 (n + 2) 40 [.obj 0, .int many] κ = .ok (d, κ') ∧ (∃ pts : List (Int × Int), d = .tup (pts.map frD) ∧ pts.length = many ∧ (∀ p ∈ pts, PtOk p ∧ p.1.natAbs ≤ 20 ∧ p.2.natAbs ≤ 4) ∧ PenK (N + 2 * many) κ') by
    obtain ⟨d, κ', h, ys, rfl, h2, h3, h4⟩ := h
    exact ⟨ys, κ', h, h2, h3, h4⟩
  refine good_callQ (fn := ⟨2, 4, Pr.b__law_point⟩) rfl rfl fun Q hQ => ?_
  simp -implicitDefEqProofs [sizeLine_eq, startS, wipeS, assignT, assign1, setAt_eq, isTy, Pr.b__law_point, range_nat (show many ≤ 2 ^ 40 by omega)]
  refine good_for1 (I := fun j σ κ => j ≤ many ∧ PenK (N + 2 * j) κ ∧ ∃ (pts : List (Int × Int)) (u : Option D), pts.length = j ∧ (∀ p ∈ pts, PtOk p ∧ p.1.natAbs ≤ 20 ∧ p.2.natAbs ≤ 4) ∧
    σ = [some (.fz (.obj 0)), some (.fz (.int many)), some (.ol none (pts.map frD)), Option.map O.fz u]) ?_ ?_ ?_
  · exact ⟨Nat.zero_le _, hk, [], none, rfl, by simp, rfl⟩
  · rintro j x σ κ1 hx ⟨hj, hk1, pts, u, hl, hp, rfl⟩
    obtain ⟨hj, rfl⟩ := get_range hx
    obtain ⟨k, κ2, e1, h1, h2, h3⟩ := draw' n hk1 (by omega) 41 (by omega) (by omega)
    obtain ⟨l, κ3, e2, g1, g2, g3⟩ := draw' n h3 (by omega) 4 (by omega) (by omega)
    have e3 := lfrac_ok n (k - 20) (1 + l) κ3 (by omega) (Lt2.up (k := 10) (by unfold Lt2; omega) (by decide)) (Lt2.up (k := 10) (by unfold Lt2; omega) (by decide))
    have a1 := frF_abs1 (k - 20) (1 + l)
    have a2 := frF_abs2 (k - 20) (1 + l)
    have hz : pts.length < 16777216 := by omega
    refine ⟨_, κ3, ?_, hj, g3, pts ++ [frF (k - 20) (1 + l)], some (.int j), by simp [hl], ?_, rfl⟩
    · simp -implicitDefEqProofs [sizeLine_eq, startS, wipeS, assignT, assign1, setAt_eq, isTy, e1, e2, e3, hz]
    · intro p hp'
      rcases List.mem_append.mp hp' with h | h
      · exact hp p h
      · simp only [List.mem_singleton, id] at h
        subst h
        exact ⟨⟨frF_bot (by omega), Lt2.up (k := 10) (by unfold Lt2; omega) (by decide), Lt2.up (k := 10) (by unfold Lt2; omega) (by decide), frF_gcd (by omega)⟩, by omega, by omega⟩
  · rintro σ κ1 ⟨hj, hk1, pts, u, hl, hp, rfl⟩
    simp only [List.length_map, List.length_range] at hl hk1
    simp -implicitDefEqProofs [sizeLine_eq, startS, wipeS, assignT, assign1, setAt_eq, isTy, ]
    exact hQ _ _ ⟨pts, rfl, hl, fun p hpp => hp p hpp, hk1⟩
end R

/-! M14: rows that are made to be refuted. -/
namespace R
open PySem L2
theorem list_of {α : Type} {f : α → D} {ys : List D} {P : α → Prop} (h : ∀ (j : Nat) (y : D), ys[j]? = some y → ∃ i, y = f i ∧ P i) : ∃ is : List α, ys = is.map f ∧ ∀ i ∈ is, P i := by
  induction ys with
  | nil => exact ⟨[], rfl, by simp⟩
  | cons y ys ih =>
    obtain ⟨i, rfl, hi⟩ := h 0 y rfl
    obtain ⟨is, rfl, hs⟩ := ih (fun j y hy => h (j + 1) y (by simpa using hy))
    refine ⟨i :: is, rfl, ?_⟩
    intro x hx
    rcases List.mem_cons.mp hx with e | e
    · rw [e]; exact hi
    · exact hs x e
structure PlOk (many : Nat) (rows : List Row) (as : List Int) : Prop where
  len : rows.length = as.length
  two : 2 ≤ rows.length
  few : rows.length ≤ 6
  good : ∀ r ∈ rows, RowOk many r
  nums : ∀ a ∈ as, 0 ≤ a ∧ a ≤ 3
  ref : refB many (rows.zip as) = true
theorem sum_abs {B : Nat} : ∀ {l : List Int}, (∀ x ∈ l, x.natAbs ≤ B) → l.sum.natAbs ≤ l.length * B
  | [], _ => by simp
  | x :: l, h => by
    have h1 := h x (by simp)
    have h2 := sum_abs (l := l) (fun y hy => h y (by simp [hy]))
    have h3 := Int.natAbs_add_le x l.sum
    rw [List.sum_cons, List.length_cons, Nat.add_mul]
    omega
theorem good_forU {I : List D → Sl → Cells → Prop} {step : D → Sl → Cells → Res} {t : Tk step} {f : Sl → Cells → Res} {t' : Tk f} {xs : List D} {was σ : Sl} {is : List Nat} {κ : Cells} {Q : D → Cells → Prop}
    (h0 : I xs σ κ) (hs : ∀ (x : D) (xs : List D) (σ : Sl) (κ : Cells), I (x :: xs) σ κ → ∃ σ' κ', step x σ κ = .nx σ' κ' ∧ I xs σ' κ')
    (g : ∀ σ κ, I [] σ κ → Good (f (unlockAll was σ is) κ) Q) : Good (Res.then f t' (unlockR was is (forD step t xs σ κ))) Q := by
  obtain ⟨σ', κ', e, hi⟩ := for_list hs xs σ κ h0
  rw [show forD step t xs σ κ = forLoop step xs σ κ from rfl, e]
  exact g σ' κ' hi
/-- the law's sums -/
theorem sums_loop (n : Nat) {Q : D → Cells → Prop} {m : Nat} (hm : m ≤ 10) {rows : List Row} {as : List Int} (h : ∀ r ∈ rows, RowOk m r) (ha : ∀ a ∈ as, Lt2 1000 a) (κ : Cells) {f : Sl → Cells → Res} {t : Tk f}
    (g : ∀ (u v w : Option D), Good (f [some (.fz (.obj 0)), some (.fz (.int m)), some (.ol none (rows.map rowD)), some (.ol none (as.map .int)),
      some (.ol none ((Sq m (fun k => colS k (rows.zip as))).map .int)), some (.fz (.int (numS (rows.zip as)))), Option.map O.fz u, Option.map O.fz v, Option.map O.fz w, none, none, none, none, none, none] κ) Q) :
    Good (Res.then f t (exec (Gm n) (sN 3 Pr.b__law_planted) [some (.fz (.obj 0)), some (.fz (.int m)), some (.ol none (rows.map rowD)), some (.ol none (as.map .int)),
      some (.ol none ((Sq m (fun k => 0)).map .int)), some (.fz (.int 0)), none, none, none, none, none, none, none, none, none] κ)) Q := by
  simp -implicitDefEqProofs [sizeLine_eq, startS, wipeS, assignT, assign1, setAt_eq, isTy, Pr.b__law_planted, sN, zip_rows, lockAll]
  refine good_forU (I := fun xs σ κ' => κ' = κ ∧ ∃ (ps rs : List (Row × Int)) (u v w : Option D), xs = rs.map pairR ∧ ps ++ rs = rows.zip as ∧
      σ = [some (.fz (.obj 0)), some (.fz (.int m)), some (.ol (some 2) (rows.map rowD)), some (.ol (some 3) (as.map .int)),
        some (.ol none ((Sq m (fun k => colS k ps)).map .int)), some (.fz (.int (numS ps))), Option.map O.fz u, Option.map O.fz v, Option.map O.fz w, none, none, none, none, none, none]) ?_ ?_ ?_
  · exact ⟨rfl, [], rows.zip as, none, none, none, rfl, rfl, rfl⟩
  · rintro x xs σ κ' ⟨rfl, ps, rs, u, v, w, hx, hz, rfl⟩
    cases rs with
    | nil => simp at hx
    | cons p rs =>
      simp only [List.map_cons, List.cons.injEq] at hx
      obtain ⟨rfl, rfl⟩ := hx
      have hp : p ∈ rows.zip as := by rw [← hz]; simp
      have hp' := List.of_mem_zip (show (p.1, p.2) ∈ rows.zip as from hp)
      have hr := h _ hp'.1
      have hq := ha _ hp'.2
      have e1 : mulOk p.2 p.1.num = true := (hq.up (show 1000 ≤ 999 + 1 by decide)).ok (hr.num.up (show 1000 ≤ 999 + 1 by decide)) (by decide)
      have e2 : ∀ k, k < m → mulOk p.2 (p.1.at_ k) = true := fun k hk => by
        refine (hq.up (show 1000 ≤ 999 + 1 by decide)).ok (l := 39) ?_ (by decide)
        have hk' : k < p.1.fs.length := by rw [hr.len]; exact hk
        have : p.1.at_ k = p.1.fs[k] := by simp [Row.at_, hk']
        rw [this]
        exact hr.fs _ (List.getElem_mem hk')
      have e3 : p.1.fs = Sq m p.1.at_ := sq_of hr.len
      have e5 : ∀ k, k < m → atI (p.1.fs.map D.int) (k : Int) = some (.int (p.1.at_ k)) := fun k hk => by rw [e3]; exact at_sq _ hk
      change NxTo _ _
      simp -implicitDefEqProofs [sizeLine_eq, startS, wipeS, assignT, assign1, setAt_eq, isTy, pairR, b_mul e1, range_nat (show m ≤ 2 ^ 40 by omega)]
      refine nx_for1 (I := fun j σ κ => κ = κ' ∧ ∃ w : Option D, σ = [some (.fz (.obj 0)), some (.fz (.int m)), some (.ol (some 2) (rows.map rowD)), some (.ol (some 3) (as.map .int)),
          some (.ol none ((Sq m (fun i => if i < j then colS i (ps ++ [p]) else colS i ps)).map .int)), some (.fz (.int (numS ps + p.2 * p.1.num))), some (.fz (rowD p.1)), some (.fz (.int p.2)), Option.map O.fz w, none, none, none, none, none, none]) ?_ ?_ ?_
      · exact ⟨rfl, w, rfl⟩
      · rintro j x σ κ hx ⟨rfl, w, rfl⟩
        obtain ⟨hjm, rfl⟩ := get_range hx
        refine ⟨_, _, ?_, rfl, some (.int j), rfl⟩
        have e6 := set_sq (fun i => colS i ps) (fun i => colS i (ps ++ [p])) hjm
        have e7 := colS_app j ps p
        simp -implicitDefEqProofs [sizeLine_eq, startS, wipeS, assignT, assign1, setAt_eq, isTy, at_sq _ hjm, e5 j hjm, b_mul (e2 j hjm)]
        rw [putO_nat (by simp [sq_len]; exact hjm) (by simp [sq_len]; omega)]
        simp -implicitDefEqProofs [sizeLine_eq, startS, wipeS, assignT, assign1, setAt_eq, isTy, ]
        rw [← e7]
        exact e6
      · rintro σ κ ⟨rfl, w, rfl⟩
        simp -implicitDefEqProofs [sizeLine_eq, startS, wipeS, assignT, assign1, setAt_eq, isTy, ]
        refine ⟨ps ++ [p], rs, rfl, by rw [← hz]; simp, ?_⟩
        refine ⟨congrArg _ (sq_eq fun k hk => by rw [if_pos hk]), (numS_app ps p).symm, ⟨some _, rfl⟩, ⟨some _, rfl⟩, ⟨w, rfl⟩⟩
  · rintro σ κ' ⟨rfl, ps, rs, u, v, w, hx, hz, rfl⟩
    cases rs with
    | cons p rs => simp at hx
    | nil =>
      simp at hz
      subst hz
      simp [unlockAll]
      exact g u v w
end R

/-! M15: rows that are made to be refuted, the rest. -/
namespace R
open PySem L2
def rowAt (rows : List Row) (k : Nat) : Row := rows[k]?.getD ⟨[], false, 0⟩
def intAt (as : List Int) (k : Nat) : Int := as[k]?.getD 0
theorem zip_range {rows : List Row} {as : List Int} (h : rows.length = as.length) : (List.range rows.length).map (fun k => (rowAt rows k, intAt as k)) = rows.zip as := by
  apply List.ext_getElem?
  intro k
  by_cases hk : k < rows.length
  · have hk2 : k < as.length := by omega
    rw [List.getElem?_map, List.getElem?_range hk]
    simp [rowAt, intAt, hk, hk2]
    exact (List.getElem?_zip_eq_some.mpr ⟨by simp [hk], by simp [hk2]⟩).symm
  · rw [List.getElem?_eq_none (by simp; omega), List.getElem?_eq_none (by simp; omega)]
theorem zip_map2 (order : List Nat) (f : Nat → Row) (g : Nat → Int) : (order.map f).zip (order.map g) = order.map (fun k => (f k, g k)) := by
  induction order with
  | nil => rfl
  | cons k l ih => simp [ih]
def lastRow (m : Nat) (prs : List (Row × Int)) (b : Bool) (more : Int) : Row := ⟨(Sq m (fun k => colS k prs)).map (fun i => -i), b, more - numS prs⟩
theorem last_at {m k : Nat} (prs : List (Row × Int)) (b : Bool) (more : Int) (h : k < m) : (lastRow m prs b more).at_ k = - colS k prs := by
  simp [lastRow, Row.at_, sq_get _ h]
theorem last_ref {m : Nat} {rows : List Row} {as : List Int} (hl : rows.length = as.length) {b : Bool} {more : Int} (h0 : 0 ≤ more) (h1 : more = 0 → (strS (rows.zip as) || b) = true) :
    refB m ((rows ++ [lastRow m (rows.zip as) b more]).zip (as ++ [1])) = true := by
  rw [List.zip_append hl]
  show refB m (rows.zip as ++ [(lastRow m (rows.zip as) b more, 1)]) = true
  unfold refB
  rw [Bool.and_eq_true, List.all_eq_true]
  refine ⟨fun k hk => ?_, ?_⟩
  · rw [colS_app, last_at _ _ _ (List.mem_range.mp hk)]
    simp
    omega
  · rw [numS_app, strS_app]
    have e : numS (rows.zip as) + 1 * (lastRow m (rows.zip as) b more).num = more := by
      show numS (rows.zip as) + 1 * (more - numS (rows.zip as)) = more
      omega
    show (decide (0 < numS (rows.zip as) + 1 * (lastRow m (rows.zip as) b more).num) || ((numS (rows.zip as) + 1 * (lastRow m (rows.zip as) b more).num) == 0 && (strS (rows.zip as) || decide (0 < (1 : Int)) && b))) = true
    rw [e]
    by_cases hm : more = 0
    · have := h1 hm
      simp [hm] at this ⊢
      exact this
    · have : 0 < more := by omega
      simp [this]
theorem planted_math {m : Nat} {rows : List Row} {as : List Int} (hr : ∀ r ∈ rows, DrOk m 5 r) (ha : ∀ a ∈ as, 0 ≤ a ∧ a ≤ 3) (hl : rows.length = as.length) (h5 : rows.length ≤ 5) (hp : 1 ≤ rows.length)
    {b : Bool} {more : Int} (h0 : 0 ≤ more) (h2 : more ≤ 3) (h1 : more = 0 → (strS (rows.zip as) || b) = true) {order : List Nat} (ho : List.Perm order (List.range (rows.length + 1))) :
    PlOk m (order.map (rowAt (rows ++ [lastRow m (rows.zip as) b more]))) (order.map (intAt (as ++ [1]))) := by
  have hlen : order.length = rows.length + 1 := by rw [ho.length_eq, List.length_range]
  have hmem : ∀ k ∈ order, k < rows.length + 1 := fun k hk => List.mem_range.mp (ho.mem_iff.mp hk)
  have hbd : ∀ p ∈ rows.zip as, p.2.natAbs ≤ 3 ∧ DrOk m 5 p.1 := fun p hp => by
    have h := List.of_mem_zip (show (p.1, p.2) ∈ rows.zip as from hp)
    have := ha _ h.2
    exact ⟨by omega, hr _ h.1⟩
  have hlz : (rows.zip as).length ≤ 5 := by rw [List.length_zip]; omega
  have hcol : ∀ k, (colS k (rows.zip as)).natAbs ≤ 100 := fun k => by
    have := sum_abs (B := 15) (l := (rows.zip as).map fun p => p.2 * p.1.at_ k) (by
      intro x hx
      obtain ⟨p, hp, rfl⟩ := List.mem_map.mp hx
      have h := hbd p hp
      have h' : (p.1.at_ k).natAbs ≤ 5 := by
        unfold Row.at_
        cases hg : p.1.fs[k]? with
        | none => simp
        | some f => exact h.2.fs f (List.mem_of_getElem? hg)
      rw [Int.natAbs_mul]
      exact Nat.le_trans (Nat.mul_le_mul h.1 h') (by decide))
    rw [List.length_map] at this
    unfold colS
    omega
  have hnum : (numS (rows.zip as)).natAbs ≤ 150 := by
    have := sum_abs (B := 30) (l := (rows.zip as).map fun p => p.2 * p.1.num) (by
      intro x hx
      obtain ⟨p, hp, rfl⟩ := List.mem_map.mp hx
      have h := hbd p hp
      rw [Int.natAbs_mul]
      exact Nat.le_trans (Nat.mul_le_mul h.1 h.2.num) (by decide))
    rw [List.length_map] at this
    unfold numS
    omega
  have hlast : RowOk m (lastRow m (rows.zip as) b more) := by
    refine ⟨by simp [lastRow, sq_len], ?_, ?_⟩
    · intro f hf
      obtain ⟨i, hi, rfl⟩ := List.mem_map.mp (show f ∈ (Sq m (fun k => colS k (rows.zip as))).map (fun i => -i) from hf)
      obtain ⟨k, _, rfl⟩ := List.mem_map.mp (show i ∈ (List.range m).map _ from hi)
      have := hcol k
      exact Lt2.up (k := 10) (by unfold Lt2; omega) (by decide)
    · show Lt2 1000 (more - numS (rows.zip as))
      exact Lt2.up (k := 10) (by unfold Lt2; omega) (by decide)
  refine ⟨by simp, by simp [hlen]; omega, by simp [hlen]; omega, ?_, ?_, ?_⟩
  · intro r hr'
    obtain ⟨k, hk, rfl⟩ := List.mem_map.mp hr'
    have hk' := hmem k hk
    by_cases hkl : k < rows.length
    · have : rowAt (rows ++ [lastRow m (rows.zip as) b more]) k = rows[k] := by
        simp [rowAt, List.getElem?_append_left hkl, hkl]
      rw [this]
      exact (hr _ (List.getElem_mem hkl)).row (by decide)
    · have hke : k = rows.length := by omega
      have : rowAt (rows ++ [lastRow m (rows.zip as) b more]) k = lastRow m (rows.zip as) b more := by
        subst hke
        simp [rowAt]
      rw [this]
      exact hlast
  · intro a ha'
    obtain ⟨k, hk, rfl⟩ := List.mem_map.mp ha'
    have hk' := hmem k hk
    by_cases hkl : k < as.length
    · have : intAt (as ++ [1]) k = as[k] := by
        simp [intAt, List.getElem?_append_left hkl, hkl]
      rw [this]
      exact ha _ (List.getElem_mem hkl)
    · have hke : k = as.length := by omega
      have : intAt (as ++ [1]) k = 1 := by
        subst hke
        simp [intAt]
      rw [this]
      decide
  · rw [zip_map2]
    rw [refB_perm m (ho.map _)]
    have := zip_range (rows := rows ++ [lastRow m (rows.zip as) b more]) (as := as ++ [1]) (by simp [hl])
    rw [List.length_append, List.length_singleton] at this
    rw [this]
    exact last_ref hl h0 h1

theorem perm_ints {n : Nat} {ys : List D} (h : List.Perm ys ((List.range n).map fun (k : Nat) => D.int (k : Int))) : ∃ order : List Nat, ys = order.map (fun (k : Nat) => D.int (k : Int)) ∧ List.Perm order (List.range n) := by
  refine ⟨ys.map (fun d => (asI d).toNat), ?_, ?_⟩
  · rw [List.map_map]
    conv => lhs; rw [← List.map_id ys]
    apply List.map_congr_left
    intro x hx
    obtain ⟨k, _, rfl⟩ := List.mem_map.mp (h.mem_iff.mp hx)
    simp [asI]
  · have := h.map (fun d => (asI d).toNat)
    rw [List.map_map] at this
    have e : (List.range n).map ((fun d => (asI d).toNat) ∘ fun (k : Nat) => D.int (k : Int)) = List.range n := by
      conv => rhs; rw [← List.map_id (List.range n)]
      apply List.map_congr_left
      intro k _
      simp [asI]
    rwa [e] at this
theorem rowAt_at {rows : List Row} {k : Nat} (h : k < rows.length) : atI (rows.map rowD) (k : Int) = some (rowD (rowAt rows k)) := atI_nat (by simp [rowAt, h])
theorem intAt_at {as : List Int} {k : Nat} (h : k < as.length) : atI (as.map D.int) (k : Int) = some (.int (intAt as k)) := atI_nat (by simp [intAt, h])
@[simp] theorem eq_ge (b : Bool) : eqD (sgD b) (.str ">=") = some (!b) := by cases b <;> decide +kernel
theorem planted_tail2 (n : Nat) {N : Nat} {κ : Cells} (hk : PenK N κ) (hN : N ≤ 900000) {Q : D → Cells → Prop} {m : Nat} (hm : m ≤ 10) {rows : List Row} {as : List Int}
    (hr : ∀ r ∈ rows, DrOk m 5 r) (ha : ∀ a ∈ as, 0 ≤ a ∧ a ≤ 3) (hl : rows.length = as.length) (h5 : rows.length ≤ 5) (hp : 1 ≤ rows.length)
    (g : ∀ rows' as' κ', PlOk m rows' as' → PenK (N + 6) κ' → Q (.tup [.tup (rows'.map rowD), .tup (as'.map .int)]) κ') (u v w : Option D) (s b : Bool) (more : Int)
    (h0 : 0 ≤ more) (h2 : more ≤ 3) (h1 : more = 0 → (strS (rows.zip as) || b) = true) :
    Good (exec (Gm (n + 2)) (sR 7 Pr.b__law_planted) [some (.fz (.obj 0)), some (.fz (.int m)), some (.ol none (rows.map rowD)), some (.ol none (as.map .int)),
      some (.ol none ((Sq m (fun k => colS k (rows.zip as))).map .int)), some (.fz (.int (numS (rows.zip as)))), Option.map O.fz u, Option.map O.fz v, Option.map O.fz w,
      some (.fz (.bl s)), some (.fz (sgD b)), some (.fz (.int more)), none, none, none] κ) Q := by
  have hz1 : m < 16777216 := by omega
  have hz2 : rows.length < 16777216 := by omega
  have hz3 : as.length < 16777216 := by omega
  simp -implicitDefEqProofs [sizeLine_eq, startS, wipeS, assignT, assign1, setAt_eq, isTy, Pr.b__law_planted, sR]
  rw [comp_mapM (f := D.int) (g := fun i => .int (-i)) (by
    intro i hi
    simp -implicitDefEqProofs [sizeLine_eq, startS, wipeS, assignT, assign1, setAt_eq, isTy, ])]
  have er : rangeD 0 ((rows.length : Int) + 1) = some ((List.range (rows.length + 1)).map fun (k : Nat) => D.int (k : Int)) := by
    have := range_nat (n := rows.length + 1) (by omega)
    rwa [Int.natCast_add, Int.natCast_one] at this
  obtain ⟨ys, κ1, e1, hpm, hk1⟩ := shuf_ok n hk ((List.range (rows.length + 1)).map fun (k : Nat) => D.int (k : Int)) (by simp; omega) (by omega)
  obtain ⟨order, rfl, ho⟩ := perm_ints hpm
  have hlen : order.length = rows.length + 1 := by rw [ho.length_eq, List.length_range]
  have hz4 : order.length < 16777216 := by omega
  have hz5 : rows.length + 1 ≤ 16777216 := by omega
  have hmem : ∀ k ∈ order, k < rows.length + 1 := fun k hk => List.mem_range.mp (ho.mem_iff.mp hk)
  have elast : D.tup [.tup ((Sq m fun k => colS k (rows.zip as)).map fun i => .int (-i)), sgD b, .int (more - numS (rows.zip as))] = rowD (lastRow m (rows.zip as) b more) := by
    unfold rowD lastRow
    rw [List.map_map]
    rfl
  have elr : rows.map rowD ++ [rowD (lastRow m (rows.zip as) b more)] = (rows ++ [lastRow m (rows.zip as) b more]).map rowD := by simp
  have ela : as.map D.int ++ [D.int 1] = (as ++ [1]).map D.int := by simp
  simp -implicitDefEqProofs [sizeLine_eq, startS, wipeS, assignT, assign1, setAt_eq, isTy, sq_len, hz1, hz2, hz3, elast, er, e1, hz5]
  rw [elr, ela]
  rw [comp_mapM (f := fun (k : Nat) => D.int (k : Int)) (g := fun k => rowD (rowAt (rows ++ [lastRow m (rows.zip as) b more]) k)) (by
    intro k hk
    have := rowAt_at (rows := rows ++ [lastRow m (rows.zip as) b more]) (k := k) (by have := hmem k hk; simp; omega)
    simp -implicitDefEqProofs [sizeLine_eq, startS, wipeS, assignT, assign1, setAt_eq, isTy, -List.map_append, this])]
  simp -implicitDefEqProofs [sizeLine_eq, startS, wipeS, assignT, assign1, setAt_eq, isTy, -List.map_append, hz4]
  rw [comp_mapM (f := fun (k : Nat) => D.int (k : Int)) (g := fun k => D.int (intAt (as ++ [1]) k)) (by
    intro k hk
    have := intAt_at (as := as ++ [1]) (k := k) (by have := hmem k hk; simp; omega)
    simp -implicitDefEqProofs [sizeLine_eq, startS, wipeS, assignT, assign1, setAt_eq, isTy, -List.map_append, this])]
  simp -implicitDefEqProofs [sizeLine_eq, startS, wipeS, assignT, assign1, setAt_eq, isTy, -List.map_append, hz4]
  have := g _ _ _ (planted_math hr ha hl h5 hp h0 h2 h1 ho) (hk1.up (by simp; omega))
  rw [List.map_map, List.map_map] at this
  exact this
theorem tail_split : sR 4 Pr.b__law_planted = .cons (sN 4 Pr.b__law_planted) (.cons (sN 5 Pr.b__law_planted) (.cons (sN 6 Pr.b__law_planted) (sR 7 Pr.b__law_planted))) := rfl
theorem planted_tail (n : Nat) {N : Nat} {κ : Cells} (hk : PenK N κ) (hN : N ≤ 800000) {Q : D → Cells → Prop} {m : Nat} (hm : m ≤ 10) {rows : List Row} {as : List Int}
    (hr : ∀ r ∈ rows, DrOk m 5 r) (ha : ∀ a ∈ as, 0 ≤ a ∧ a ≤ 3) (hl : rows.length = as.length) (h5 : rows.length ≤ 5) (hp : 1 ≤ rows.length)
    (g : ∀ rows' as' κ', PlOk m rows' as' → PenK (N + 10) κ' → Q (.tup [.tup (rows'.map rowD), .tup (as'.map .int)]) κ') (u v w : Option D) :
    Good (exec (Gm (n + 2)) (sR 4 Pr.b__law_planted) [some (.fz (.obj 0)), some (.fz (.int m)), some (.ol none (rows.map rowD)), some (.ol none (as.map .int)),
      some (.ol none ((Sq m (fun k => colS k (rows.zip as))).map .int)), some (.fz (.int (numS (rows.zip as)))), Option.map O.fz u, Option.map O.fz v, Option.map O.fz w, none, none, none, none, none, none] κ) Q := by
  have hT := fun (κ2 : Cells) (hk2 : PenK (N + 2) κ2) (s b : Bool) (more : Int) h0 h2 h1 => planted_tail2 n hk2 (by omega) (Q := Q) hm hr ha hl h5 hp (fun r a κ' h1 h2 => g r a κ' h1 (h2.up (by omega))) u v w s b more h0 h2 h1
  rw [tail_split]
  generalize sR 7 Pr.b__law_planted = R at hT
  simp -implicitDefEqProofs [sizeLine_eq, startS, wipeS, assignT, assign1, setAt_eq, isTy, Pr.b__law_planted, sN, zip_rows]
  rw [comp_filterM (f := pairR) (p := fun p => p.1.st && decide (0 < p.2)) (g := fun _ => .int 1) (by
    intro p hp
    cases hs : p.1.st <;> by_cases hpp : 0 < p.2 <;> simp -implicitDefEqProofs [sizeLine_eq, startS, wipeS, assignT, assign1, setAt_eq, isTy, pairR, hs, hpp])]
  have hlz : (rows.zip as).length ≤ 5 := by rw [List.length_zip]; omega
  have hlf := List.length_filter_le (fun p : Row × Int => p.1.st && decide (0 < p.2)) (rows.zip as)
  have hz1 : ((rows.zip as).filter (fun p => p.1.st && decide (0 < p.2))).length < 16777216 := by omega
  have e1 : eqD (.lst (((rows.zip as).filter (fun p => p.1.st && decide (0 < p.2))).map fun _ => D.int 1)) (.lst []) = some (!strS (rows.zip as)) := by
    rw [eq_nil (by
      intro x hx
      obtain ⟨p, _, rfl⟩ := List.mem_map.mp hx
      exact (ly_int 1).up (by decide))]
    congr 1
    unfold strS
    generalize rows.zip as = l
    induction l with
    | nil => rfl
    | cons p l ih =>
      rw [List.filter_cons, List.any_cons, Bool.not_or, ← ih]
      cases hs : p.1.st <;> by_cases hpp : 0 < p.2 <;> simp [hs, hpp]
  obtain ⟨x, κ1, e2, hx, hk1⟩ := pick_ok n hk (by omega) [.str ">=", .str ">"] (by simp) (by simp)
  obtain ⟨k, κ2, e3, g1, g2, hk2⟩ := draw' (n + 1) hk1 (by omega) 3 (by omega) (by omega)
  have hs : ∃ b, x = sgD b := by
    simp only [List.not_mem_nil, or_false, List.mem_cons] at hx
    rcases hx with rfl | rfl
    · exact ⟨false, rfl⟩
    · exact ⟨true, rfl⟩
  obtain ⟨b, rfl⟩ := hs
  by_cases hk0 : k = 0
  · cases hb : b with
    | true =>
      subst hb
      have := hT κ2 hk2 (strS (rows.zip as)) true k (by omega) (by omega) (by simp)
      simp -implicitDefEqProofs [sizeLine_eq, startS, wipeS, assignT, assign1, setAt_eq, isTy, hz1, e1, exec.exec1, exec.evos, exec.assignO, e2, e3, hk0]
      rw [hk0] at this
      exact this
    | false =>
      subst hb
      cases hst : strS (rows.zip as) with
      | true =>
        have := hT κ2 hk2 true false k (by omega) (by omega) (by simp [hst])
        rw [hst] at e1
        simp -implicitDefEqProofs [sizeLine_eq, startS, wipeS, assignT, assign1, setAt_eq, isTy, hz1, e1, exec.exec1, exec.evos, exec.assignO, e2, e3, hk0]
        rw [hk0] at this
        exact this
      | false =>
        have := hT κ2 hk2 false false 1 (by omega) (by omega) (by simp)
        rw [hst] at e1
        simp -implicitDefEqProofs [sizeLine_eq, startS, wipeS, assignT, assign1, setAt_eq, isTy, hz1, e1, exec.exec1, exec.evos, exec.assignO, e2, e3, hk0]
        exact this
  · have := hT κ2 hk2 (strS (rows.zip as)) b k (by omega) (by omega) (fun h => absurd h hk0)
    simp -implicitDefEqProofs [sizeLine_eq, startS, wipeS, assignT, assign1, setAt_eq, isTy, hz1, e1, exec.exec1, exec.evos, exec.assignO, e2, e3, hk0]
    exact this
theorem planted_split : Pr.b__law_planted = .cons (sN 0 Pr.b__law_planted) (.cons (sN 1 Pr.b__law_planted) (.cons (sN 2 Pr.b__law_planted) (.cons (sN 3 Pr.b__law_planted) (sR 4 Pr.b__law_planted)))) := rfl
theorem planted_ok (n : Nat) {N : Nat} {κ : Cells} (hk : PenK N κ) (hN : N ≤ 700000) {m : Nat} (hm : m ≤ 10) :
    ∃ (rows : List Row) (as : List Int) (κ' : Cells), callN P0 (n + 4) 37 [.obj 0, .int m] κ = .ok (.tup [.tup (rows.map rowD), .tup (as.map .int)], κ') ∧ PlOk m rows as ∧ PenK (N + 200) κ' := by
  suffices h : ∃ d κ', callN P0 (n + 4) 37 [.obj 0, .int m] κ = .ok (d, κ') ∧ (∃ (rows : List Row) (as : List Int), d = .tup [.tup (rows.map rowD), .tup (as.map .int)] ∧ PlOk m rows as ∧ PenK (N + 200) κ') by
    obtain ⟨d, κ', h, rows, as, rfl, h2, h3⟩ := h
    exact ⟨rows, as, κ', h, h2, h3⟩
  refine good_callQ (fn := ⟨2, 15, Pr.b__law_planted⟩) rfl rfl fun Q hQ => ?_
  have hL := fun (rows : List Row) (as : List Int) (h : ∀ r ∈ rows, RowOk m r) (ha : ∀ a ∈ as, Lt2 1000 a) (κ : Cells) (f : Sl → Cells → Res) (t : Tk f) g => sums_loop (n + 3) (Q := Q) hm h ha κ (f := f) (t := t) g
  have hT := fun (rows : List Row) (as : List Int) (N' : Nat) (κ' : Cells) hk' hN' hr ha hl h5 hp g u v w => planted_tail (n + 1) (N := N') (κ := κ') hk' hN' (Q := Q) hm (rows := rows) (as := as) hr ha hl h5 hp g u v w
  rw [show (⟨2, 15, Pr.b__law_planted⟩ : Fn).body = Pr.b__law_planted from rfl, planted_split]
  generalize sR 4 Pr.b__law_planted = R at hT
  generalize sN 3 Pr.b__law_planted = L at hL
  obtain ⟨k, κ1, e1, g1, g2, hk1⟩ := draw' (n + 2) hk (by omega) 5 (by omega) (by omega)
  obtain ⟨i, rfl⟩ := Int.eq_ofNat_of_zero_le g1
  have er : rangeD 0 (1 + (i : Int)) = some ((List.range (1 + i)).map fun (k : Nat) => D.int (k : Int)) := by
    have := range_nat (n := 1 + i) (by omega)
    rwa [Int.natCast_add, Int.natCast_one] at this
  simp -implicitDefEqProofs [sizeLine_eq, startS, wipeS, assignT, assign1, setAt_eq, isTy, Pr.b__law_planted, sN, e1, er]
  generalize hC : compD _ _ _ _ = C
  have hC' := good_compC (I := fun j κ => j ≤ 1 + i ∧ PenK (N + 1 + 22 * j) κ) (T := fun y => ∃ r, y = rowD r ∧ DrOk m 5 r) hC (⟨Nat.zero_le _, hk1⟩) (by
    rintro j x κ1 hx ⟨hj, hk1⟩
    obtain ⟨hj, rfl⟩ := get_range hx
    obtain ⟨r, κ2, e, hr, hk2⟩ := lrow_ok n hk1 m 5 hm (by decide) (by omega)
    refine ⟨rowD r, κ2, ?_, ⟨hj, hk2.up (by omega)⟩, r, rfl, hr⟩
    simp -implicitDefEqProofs [sizeLine_eq, startS, wipeS, assignT, assign1, setAt_eq, isTy, show callN P0 (n + 3) 33 [.obj 0, .int m, .int 5] κ1 = _ from e])
  clear hC
  simp only [List.length_map, List.length_range] at hC'
  obtain ⟨ys, κ2, rfl, hl, ⟨-, hk2⟩, hy⟩ := hC'
  obtain ⟨rows, rfl, hr⟩ := list_of hy
  rw [List.length_map] at hl
  have hz1 : rows.length < 16777216 := by omega
  simp -implicitDefEqProofs [sizeLine_eq, startS, wipeS, assignT, assign1, setAt_eq, isTy, hz1]
  generalize hC : compD _ _ _ _ = C
  have hC' := good_compC (I := fun j κ => j ≤ rows.length ∧ PenK (N + 1 + 22 * (1 + i) + j) κ) (T := fun y => ∃ i, y = .int i ∧ (0 ≤ i ∧ i ≤ 3)) hC (⟨Nat.zero_le _, hk2⟩) (by
    rintro j x κ1 hx ⟨hj, hk1⟩
    have hj : j < rows.length := by
      rcases Nat.lt_or_ge j rows.length with h' | h'
      · exact h'
      · rw [List.getElem?_eq_none (by simpa using h')] at hx; simp at hx
    obtain ⟨k, κ2, e, g1, g2, hk2⟩ := draw' (n + 2) hk1 (by omega) 4 (by omega) (by omega)
    refine ⟨.int k, κ2, ?_, ⟨hj, hk2⟩, k, rfl, g1, by omega⟩
    simp -implicitDefEqProofs [sizeLine_eq, startS, wipeS, assignT, assign1, setAt_eq, isTy, e])
  clear hC
  simp only [List.length_map] at hC'
  obtain ⟨ys, κ3, rfl, hl2, ⟨-, hk3⟩, hy⟩ := hC'
  obtain ⟨as, rfl, ha⟩ := ints_of hy
  rw [List.length_map] at hl2
  have hz2 : as.length < 16777216 := by omega
  simp -implicitDefEqProofs [sizeLine_eq, startS, wipeS, assignT, assign1, setAt_eq, isTy, hz2, exec.exec1, exec.evos, exec.assignO, b_mulL (show m ≤ 1000 by omega), ints_rep]
  refine hL rows as (fun r h => (hr r h).row (by decide)) (fun a h => by have := ha a h; exact Lt2.up (k := 10) (by unfold Lt2; omega) (by decide)) κ3 _ _ (fun u v w => ?_)
  refine hT rows as _ κ3 hk3 (by omega) hr ha hl2.symm (by omega) (by omega) (fun rows' as' κ' hp hk' => ?_) u v w
  exact hQ _ _ ⟨rows', as', rfl, hp, hk'.up (by omega)⟩
end R

/-! M16: refutes is right for rows that are refuted. -/
namespace R
open PySem L2
theorem mul_plain {xs : List D} (hl : xs.length ≤ 100) (h : ∀ x ∈ xs, plainD x = true ∧ Lt2 1000 (asI x)) : MulOk (.tup xs) :=
  ⟨nice_t hl (fun x hx => plain_nice (h x hx).1), fun ys hy x hx => by
    simp only [D.tup.injEq] at hy
    subst hy
    exact h x hx⟩
theorem mul_ints {xs : List Int} (hl : xs.length ≤ 100) (h : ∀ x ∈ xs, Lt2 1000 x) : MulOk (.tup (xs.map .int)) :=
  mul_plain (by simpa using hl) (fun x hx => by
    obtain ⟨i, hi, rfl⟩ := List.mem_map.mp hx
    exact ⟨rfl, h i hi⟩)
theorem mul_other {d : D} (hn : d.nice = true) (h : ∀ xs, d ≠ .tup xs) : MulOk d := ⟨hn, fun xs hx => absurd hx (h xs)⟩
def bs (b : Bool) : Str := if b then "True" else "False"
@[simp] theorem rep_bl (b : Bool) : blt1D .repr (.fz (.bl b)) = some (.fz (.str (bs b))) := by
  cases b <;> rfl
@[simp] theorem eq_bs (a b : Bool) : eqD (.str (bs a)) (.str (bs b)) = some (a == b) := by
  cases a <;> cases b <;> decide +kernel
theorem req_ins (n : Nat) (a b : D) (κ : Cells) (t : Bool) (h : eqD a b = some t) : callN P0 (n + 1) 6 [.ins 2 [a], .ins 2 [b]] κ = .ok (.bl t, κ) := by
  rw [call0 (fn := ⟨2, 2, Pr.b_Refuted_eq⟩) rfl rfl]
  simp -implicitDefEqProofs [sizeLine_eq, startS, wipeS, assignT, assign1, setAt_eq, isTy, Pr.b_Refuted_eq, h]
theorem req_tup (n : Nat) (a : D) (xs : List D) (κ : Cells) : callN P0 (n + 1) 6 [.ins 2 [a], .tup xs] κ = .ok (.bl false, κ) := by
  rw [call0 (fn := ⟨2, 2, Pr.b_Refuted_eq⟩) rfl rfl]
  simp -implicitDefEqProofs [sizeLine_eq, startS, wipeS, assignT, assign1, setAt_eq, isTy, Pr.b_Refuted_eq]
theorem cut_m1 {α : Type} (xs : List α) (h : 1 ≤ xs.length) : cutD xs none (some (-1)) = xs.take (xs.length - 1) := by
  have e : HT.sIx xs.length xs.length (some (-1)) = xs.length - 1 := by
    show (if (-1 : Int) < 0 then ((-1 : Int) + (xs.length : Int)).toNat else min (-1 : Int).toNat xs.length) = _
    rw [if_pos (by decide)]
    omega
  simp [cutD, HT.sIx_none, e]
theorem cut_m2 {α : Type} (xs : List α) (h : 1 ≤ xs.length) : cutD xs (some (-1)) none = xs.drop (xs.length - 1) := by
  have e : HT.sIx xs.length 0 (some (-1)) = xs.length - 1 := by
    show (if (-1 : Int) < 0 then ((-1 : Int) + (xs.length : Int)).toNat else min (-1 : Int).toNat xs.length) = _
    rw [if_pos (by decide)]
    omega
  simp only [cutD, HT.sIx_none, e]
  apply List.take_of_length_le
  simp
theorem rev_tup (xs : List D) : revD (.tup xs) = some (.fz (.tup xs.reverse)) := rfl
theorem ref_split : Pr.b__law_refuted_right = .cons (sN 0 Pr.b__law_refuted_right) (.cons (sN 1 Pr.b__law_refuted_right) (.cons (sN 2 Pr.b__law_refuted_right) (.cons (sN 3 Pr.b__law_refuted_right)
  (.cons (sN 4 Pr.b__law_refuted_right) (.cons (sN 5 Pr.b__law_refuted_right) (sR 6 Pr.b__law_refuted_right)))))) := rfl
theorem ref_split2 : sR 6 Pr.b__law_refuted_right = .cons (sN 6 Pr.b__law_refuted_right) (.cons (sN 7 Pr.b__law_refuted_right) (sR 8 Pr.b__law_refuted_right)) := rfl
/-- the two Refuteds compared -/
theorem ref_end (n : Nat) {κ : Cells} {Q : D → Cells → Prop} {as : List Int} (h1 : 1 ≤ as.length) (h2 : as.length ≤ 20) (g : Q (.bl true) κ) (a b c d e : Option O) (f : List D) (u v w : Option D) :
    Good (exec (Gm (n + 1)) (sR 8 Pr.b__law_refuted_right) [a, b, c, some (.fz (.tup (as.map .int))), d, e, some (.ol none f), Option.map O.fz u, Option.map O.fz v, Option.map O.fz w, none] κ) Q := by
  have hb : (as.map D.int).length + [D.int 0].length ≤ sizeLine := by rw [sizeLine_eq]; simp; omega
  have hb2 : ((as.map D.int).take (as.length - 1)).length + ((as.map D.int).drop (as.length - 1)).length ≤ sizeLine := by rw [sizeLine_eq]; simp; omega
  have c1 := cut_m1 (as.map D.int) (by simpa using h1)
  have c2 := cut_m2 (as.map D.int) (by simpa using h1)
  rw [List.length_map] at c1 c2
  have e1 : ∀ κ, callN P0 (n + 1) 6 [.ins 2 [.tup (as.map .int)], .ins 2 [.tup (as.map .int)]] κ = .ok (.bl true, κ) := fun κ => req_ins n _ _ κ true (by rw [eq_tints]; simp)
  have e2 : ∀ κ, callN P0 (n + 1) 6 [.ins 2 [.tup (as.map .int)], .ins 2 [.tup (as.map D.int ++ [D.int 0])]] κ = .ok (.bl false, κ) := fun κ => req_ins n _ _ κ false (by
    rw [show as.map D.int ++ [D.int 0] = (as ++ [0]).map D.int by simp, eq_tints]
    congr 1
    rw [beq_eq_false_iff_ne]
    intro h
    have := (congrArg List.length h)
    simp at this)
  have e4 : eqD (.lst [.bl true, .bl false, .bl false, .bl true]) (.lst [.bl true, .bl false, .bl false, .bl true]) = some true := by decide +kernel
  have hb3 : [D.bl true, .bl false].length + [D.bl false, .bl true].length ≤ sizeLine := by rw [sizeLine_eq]; simp
  simp -implicitDefEqProofs [sizeLine_eq, startS, wipeS, assignT, assign1, setAt_eq, isTy, -List.map_take, -List.map_drop, Pr.b__law_refuted_right, sR, e1, b_addT hb, e2, eqoOk, req_tup, c1, c2, b_addT hb2, b_addL hb3, e4, List.take_append_drop]
  exact g

theorem set_app {xs : List Int} {i : Nat} (h : i < xs.length) (y : D) : (xs.map D.int).take i ++ [y] ++ (xs.map D.int).drop (i + 1) = (xs.map D.int).set i y := by
  rw [List.set_eq_take_append_cons_drop, if_pos (by simpa using h)]
  simp
theorem lt_small {i : Int} (h : i.natAbs ≤ 500) : Lt2 1000 i := Lt2.up (k := 10) (by unfold Lt2; omega) (by decide)
/-- all that is put to the question -/
theorem ref_tail (n : Nat) {N : Nat} {κ : Cells} (hk : PenK N κ) {Q : D → Cells → Prop} {m : Nat} {rows : List Row} {as : List Int} (hs : SysOk m rows) (hl : as.length ≤ 20) (h2 : 1 ≤ as.length)
    (ds : List D) (hd : ∀ d ∈ ds, MulOk d) (g : Q (.bl true) κ) (a b c e : Option O) (u : Option D) :
    Good (exec (Gm (n + 5)) (sR 6 Pr.b__law_refuted_right) [a, b, c, some (.fz (.tup (as.map .int))), some (.fz (sysD m rows)), e, some (.ol none ds), Option.map O.fz u, none, none, none] κ) Q := by
  have hE := fun (v w : Option D) f => ref_end (n + 4) (κ := κ) (Q := Q) (as := as) h2 hl g a b c (some (.fz (sysD m rows))) e f u v w
  rw [ref_split2]
  generalize sR 8 Pr.b__law_refuted_right = R at hE
  simp -implicitDefEqProofs [sizeLine_eq, startS, wipeS, assignT, assign1, setAt_eq, isTy, Pr.b__law_refuted_right, sN, lockAll]
  refine good_forU (I := fun xs σ κ' => κ' = κ ∧ (∀ d ∈ xs, MulOk d) ∧ ∃ v : Option D,
      σ = [a, b, c, some (.fz (.tup (as.map .int))), some (.fz (sysD m rows)), e, some (.ol (some 6) ds), Option.map O.fz u, Option.map O.fz v, none, none]) ?_ ?_ ?_
  · exact ⟨rfl, hd, none, rfl⟩
  · rintro x xs σ κ' ⟨rfl, hx, v, rfl⟩
    have hm := hx x (by simp)
    refine ⟨_, κ', ?_, rfl, fun d hd' => hx d (by simp [hd']), some x, rfl⟩
    simp -implicitDefEqProofs [sizeLine_eq, startS, wipeS, assignT, assign1, setAt_eq, isTy, refutes_ok n hs x hm, lright_ok n hs x hm]
  · rintro σ κ' ⟨rfl, _, v, rfl⟩
    simp -implicitDefEqProofs [sizeLine_eq, startS, wipeS, assignT, assign1, setAt_eq, isTy, unlockAll]
    refine good_for (I := fun xs σ κ => κ = κ' ∧ (∀ d ∈ xs, d.nice = true) ∧ ∃ w : Option D,
      σ = [a, b, c, some (.fz (.tup (as.map .int))), some (.fz (sysD m rows)), e, some (.ol none ds), Option.map O.fz u, Option.map O.fz v, Option.map O.fz w, none]) ?_ ?_ ?_
    · refine ⟨rfl, ?_, none, rfl⟩
      have ht : (D.tup (as.map .int)).nice = true := nice_ints (by omega)
      have hl' : (D.lst (as.map .int)).nice = true := nice_l (by simp; omega) (by simp)
      simp [ht, hl']
    · rintro x xs σ κ ⟨rfl, hx, w, rfl⟩
      refine ⟨_, κ, ?_, rfl, fun d hd' => hx d (by simp [hd']), some x, rfl⟩
      simp -implicitDefEqProofs [sizeLine_eq, startS, wipeS, assignT, assign1, setAt_eq, isTy, refutes_not n hs x (hx x (by simp))]
    · rintro σ κ ⟨rfl, _, w, rfl⟩
      exact hE v w ds
theorem refuted_ok (n : Nat) {N : Nat} {κ : Cells} (hk : PenK N κ) (hN : N ≤ 600000) {m : Nat} (hm : m ≤ 10) :
    ∃ (κ' : Cells), callN P0 (n + 6) 39 [.obj 0, .int m] κ = .ok (.bl true, κ') ∧ PenK (N + 201) κ' := by
  suffices h : ∃ d κ', callN P0 (n + 6) 39 [.obj 0, .int m] κ = .ok (d, κ') ∧ (d = .bl true ∧ PenK (N + 201) κ') by
    obtain ⟨d, κ', h, rfl, h2⟩ := h
    exact ⟨κ', h, h2⟩
  refine good_callQ (fn := ⟨2, 11, Pr.b__law_refuted_right⟩) rfl rfl fun Q hQ => ?_
  obtain ⟨rows, as, κ1, e1, hp, hk1⟩ := planted_ok (n + 1) hk (by omega) hm
  have hpl := hp.len
  have hpt := hp.two
  have hpf := hp.few
  have hsys : SysOk m rows := ⟨by omega, hm, hp.good⟩
  have hsm : ∀ a ∈ as, Lt2 1000 a := fun a ha => by have := hp.nums a ha; exact lt_small (by omega)
  obtain ⟨k, κ2, e2, g1, g2, hk2⟩ := draw' (n + 4) hk1 (by omega) (as.length : Int) (by omega) (by omega)
  obtain ⟨i, rfl⟩ := Int.eq_ofNat_of_zero_le g1
  have hi : i < as.length := by omega
  have hT := fun (ds : List D) hd (a b c e : Option O) (u : Option D) => ref_tail n hk2 (Q := Q) hsys (as := as) (by omega) (by omega) ds hd (hQ _ _ ⟨rfl, hk2.up (by omega)⟩) a b c e u
  rw [show (⟨2, 11, Pr.b__law_refuted_right⟩ : Fn).body = Pr.b__law_refuted_right from rfl, ref_split]
  generalize sR 6 Pr.b__law_refuted_right = R at hT
  have esys : D.tup [.int m, .tup (rows.map rowD)] = sysD m rows := rfl
  have hb : as.length ≤ 1000 := by omega
  have m0 := mul_ints (xs := as) (by omega) hsm
  have e3 : refD m rows (.tup (as.map .int)) = true := by
    have ha : (as.map D.int).all countB = true := by
      rw [List.all_eq_true]
      intro x hx
      obtain ⟨j, hj, rfl⟩ := List.mem_map.mp hx
      have := hp.nums j hj
      simpa [countB] using this.1
    have hmm : (as.map D.int).map asI = as := by
      rw [List.map_map]
      conv => rhs; rw [← List.map_id as]
      rfl
    show (decide ((as.map D.int).length = rows.length) && (as.map D.int).all countB && refB m (rows.zip ((as.map D.int).map asI))) = true
    rw [ha, hmm, hp.ref]
    simp [hpl]
  have e4 := refutes_ok n hsys (.tup (as.map .int)) m0 κ2
  rw [e3] at e4
  have a0 := intAt_at hi
  have hai : (intAt as i).natAbs ≤ 3 := by
    have h := hp.nums (intAt as i) (by
      have : intAt as i = as[i] := by simp [intAt, hi]
      rw [this]
      exact List.getElem_mem hi)
    omega
  have clo := cut_lo (as.map D.int) i (by simp; omega)
  have chi := cut_hi (as.map D.int) (i + 1) (by simp; omega)
  rw [Int.natCast_add, Int.natCast_one] at chi
  have hbb1 : ∀ y : D, ((as.map D.int).take i).length + [y].length ≤ sizeLine := fun y => by rw [sizeLine_eq]; simp; omega
  have hbb2 : ∀ y : D, ((as.map D.int).take i ++ [y]).length + ((as.map D.int).drop (i + 1)).length ≤ sizeLine := fun y => by rw [sizeLine_eq]; simp; omega
  have hset : ∀ y : D, plainD y = true → Lt2 1000 (asI y) → MulOk (.tup ((as.map D.int).set i y)) := fun y hy hy2 => mul_plain (by simp; omega) (fun x hx => by
    rcases List.mem_or_eq_of_mem_set hx with h | h
    · obtain ⟨j, hj, rfl⟩ := List.mem_map.mp h
      exact ⟨rfl, hsm j hj⟩
    · subst h
      exact ⟨hy, hy2⟩)
  have happ := fun y : D => set_app hi y
  simp -implicitDefEqProofs [sizeLine_eq, startS, wipeS, assignT, assign1, setAt_eq, isTy, -List.map_take, -List.map_drop, -List.append_assoc, Pr.b__law_refuted_right, sN, e1, exec.exec1, exec.evos, exec.assignO, e2, b_mulT (show 1 ≤ as.length by omega) hb, esys, e4, a0]
  refine good_for1 (I := fun j σ κ => κ = κ2 ∧ j ≤ 3 ∧ ∃ (ds : List D) (u : Option D), ds.length = 2 + j ∧ (∀ d ∈ ds, MulOk d) ∧
    σ = [some (.fz (.obj 0)), some (.fz (.int m)), some (.fz (.tup (rows.map rowD))), some (.fz (.tup (as.map .int))), some (.fz (sysD m rows)), some (.fz (.int i)),
      some (.ol none ds), Option.map O.fz u, none, none, none]) ?_ ?_ ?_
  · refine ⟨rfl, by omega, _, none, ?_, ?_, rfl⟩
    · rfl
    · intro d hd
      simp only [List.mem_cons, List.not_mem_nil, or_false] at hd
      rcases hd with rfl | rfl
      · exact m0
      · exact mul_plain (by simp; omega) (fun x hx => by
          rw [List.eq_of_mem_replicate hx]
          exact ⟨rfl, lt_small (by decide)⟩)
  · rintro j x σ κ hx ⟨rfl, hj, ds, u, hdl, hd, rfl⟩
    have hxb : ∃ z : Int, x = .int z ∧ z.natAbs ≤ 10 := by
      have := List.mem_of_getElem? hx
      simp only [List.mem_cons, List.not_mem_nil, or_false] at this
      rcases this with rfl | rfl | rfl
      · exact ⟨_, rfl, by decide⟩
      · exact ⟨_, rfl, by decide⟩
      · exact ⟨_, rfl, by omega⟩
    have hj3 : j < 3 := by
      rcases Nat.lt_or_ge j 3 with h' | h'
      · exact h'
      · rw [List.getElem?_eq_none (by simpa using h')] at hx; simp at hx
    obtain ⟨z, rfl, hz⟩ := hxb
    have hdz : ds.length < 16777216 := by omega
    refine ⟨_, κ, ?_, rfl, by omega, ds ++ [.tup ((as.map D.int).set i (.int (intAt as i + z)))], some (.int z), by simp [hdl]; omega, ?_, rfl⟩
    · simp -implicitDefEqProofs [sizeLine_eq, startS, wipeS, assignT, assign1, setAt_eq, isTy, -List.map_take, -List.map_drop, -List.append_assoc, clo, chi, a0, b_addT (hbb1 _), b_addT (hbb2 _), happ, hdz]
    · intro d hd'
      rcases List.mem_append.mp hd' with h | h
      · exact hd d h
      · simp only [List.mem_singleton, id] at h
        subst h
        exact hset _ rfl (lt_small (by show (intAt as i + z).natAbs ≤ 500; omega))
  · rintro σ κ ⟨rfl, hj, ds, u, hdl, hd, rfl⟩
    simp only [List.length_cons, List.length_nil] at hdl
    have hz8 : as.length < 16777216 := by omega
    have m3 : ∀ a ∈ as, mulOk 3 a = true := fun a ha => by
      have h := hp.nums a ha
      exact mulOk_of (a := 10) (b := 10) (by decide) (by omega) (by decide)
    have hb4 : ∀ y : D, (as.map D.int).length + [y].length ≤ sizeLine := fun y => by rw [sizeLine_eq]; simp; omega
    have cm := cut_m1 (as.map D.int) (by simp; omega)
    rw [List.length_map] at cm
    have hba : ∀ a b c d : D, ds.length + [a, b, c, d].length ≤ sizeLine := fun a b c d => by rw [sizeLine_eq]; simp; omega
    have hbc : ∀ a b c d e f g h : D, (ds ++ [a, b, c, d]).length + [e, f, g, h].length ≤ sizeLine := fun a b c d e f g h => by rw [sizeLine_eq]; simp; omega
    simp -implicitDefEqProofs [sizeLine_eq, startS, wipeS, assignT, assign1, setAt_eq, isTy, -List.map_take, -List.map_drop, -List.append_assoc, -List.map_reverse]
    rw [comp_mapM (f := D.int) (g := fun a => D.int (3 * a)) (by
      intro a ha
      simp -implicitDefEqProofs [sizeLine_eq, startS, wipeS, assignT, assign1, setAt_eq, isTy, b_mul (m3 a ha)])]
    simp -implicitDefEqProofs [sizeLine_eq, startS, wipeS, assignT, assign1, setAt_eq, isTy, -List.map_take, -List.map_drop, -List.append_assoc, -List.map_reverse, hz8, rev_tup, b_addT (hb4 _), cm, b_addL (hba _ _ _ _), clo, chi, b_addT (hbb1 _), b_addT (hbb2 _), happ,
      b_mulT (show 1 ≤ as.length by omega) hb, b_addL (hbc _ _ _ _ _ _ _ _)]
    refine hT _ ?_ _ _ _ _ u
    intro d hd'
    simp only [List.mem_append, List.mem_cons, List.not_mem_nil, or_false] at hd'
    rcases hd' with (h | rfl | rfl | rfl | rfl) | rfl | rfl | rfl | rfl
    · exact hd d h
    · refine mul_plain (by simp; omega) (fun x hx => ?_)
      obtain ⟨a, ha, rfl⟩ := List.mem_map.mp hx
      have h := hp.nums a ha
      exact ⟨rfl, lt_small (by show (3 * a).natAbs ≤ 500; omega)⟩
    · refine mul_plain (by simp; omega) (fun x hx => ?_)
      obtain ⟨a, ha, rfl⟩ := List.mem_map.mp (List.mem_reverse.mp hx)
      exact ⟨rfl, hsm a ha⟩
    · refine mul_plain (by simp; omega) (fun x hx => ?_)
      rcases List.mem_append.mp hx with h | h
      · obtain ⟨a, ha, rfl⟩ := List.mem_map.mp h
        exact ⟨rfl, hsm a ha⟩
      · simp only [List.mem_singleton, id] at h
        subst h
        exact ⟨rfl, lt_small (by decide)⟩
    · refine mul_plain (by simp; omega) (fun x hx => ?_)
      obtain ⟨a, ha, rfl⟩ := List.mem_map.mp (List.mem_of_mem_take hx)
      exact ⟨rfl, hsm a ha⟩
    · exact mul_other (nice_l (by simp; omega) (by simp)) (by simp)
    · exact hset _ rfl (lt_small (by decide))
    · exact mul_other nice_non (by simp)
    · exact mul_plain (by simp; omega) (fun x hx => by
        rw [List.eq_of_mem_replicate hx]
        exact ⟨rfl, lt_small (by decide)⟩)
end R

/-! M17: keeps is right. -/
namespace R
open PySem L2
theorem pointB_bad {m : Int} {xs : List D} {d : D} (hd : d ∈ xs) (hf : fracB d = false) : pointB m (.tup xs) = false := by
  have : xs.all fracB = false := List.all_eq_false.mpr ⟨d, hd, by simp [hf]⟩
  simp only [pointB, this, Bool.and_false]
theorem pointB_len {m : Int} {xs : List D} (h : ¬ (xs.length : Int) = m) : pointB m (.tup xs) = false := by
  simp only [pointB, decide_eq_false h, Bool.false_and]
structure OddP (m : Nat) (d : D) : Prop where
  nice : d.nice = true
  no : pointB m d = false
theorem kept_split : Pr.b__law_kept_right = .cons (sN 0 Pr.b__law_kept_right) (.cons (sN 1 Pr.b__law_kept_right) (sR 2 Pr.b__law_kept_right)) := rfl
theorem kept_split2 : sR 2 Pr.b__law_kept_right = .cons (sN 2 Pr.b__law_kept_right) (.cons (sN 3 Pr.b__law_kept_right) (sR 4 Pr.b__law_kept_right)) := rfl
theorem max_eq (m : Nat) : (if (1 : Int) > (m : Int) then (1 : Int) else (m : Int)) = ((max m 1 : Nat) : Int) := by
  split <;> omega
theorem odd_rep {m : Nat} (hm : m ≤ 10) {d : D} (hn : d.nice = true) (hf : fracB d = false) : OddP m (.tup (List.replicate (max m 1) d)) :=
  ⟨nice_t (by simp; omega) (fun x hx => by rw [List.eq_of_mem_replicate hx]; exact hn), pointB_bad (d := d) (by simp <;> omega) hf⟩
theorem kept_tail2 (n : Nat) {κ : Cells} {Q : D → Cells → Prop} {m : Nat} {rows : List Row} (hs : SysOk m rows) {pts : List (Int × Int)} (hl : pts.length = m)
    (g : Q (.bl true) κ) (r : List D) (a b c d e f h i j : Option D) :
    Good (exec (Gm (n + 5)) (sR 4 Pr.b__law_kept_right) [some (.fz (.obj 0)), some (.fz (.int m)), some (.fz (.tup (pts.map frD))), some (.ol none r), Option.map O.fz a, Option.map O.fz b, Option.map O.fz c, Option.map O.fz d,
      Option.map O.fz e, Option.map O.fz f, Option.map O.fz h, some (.fz (sysD m rows)), Option.map O.fz i, Option.map O.fz j, none, none, none] κ) Q := by
  have hm := hs.small
  have npt : ∀ x ∈ pts.map frD, x.nice = true := fun x hx => by
    obtain ⟨p, _, rfl⟩ := List.mem_map.mp hx
    exact nice_fr p
  have hb1 : ∀ y : D, (pts.map frD).length + [y].length ≤ sizeLine := fun y => by rw [sizeLine_eq]; simp; omega
  have hb2 : ∀ y : D, (cutD (pts.map frD) (some 1) none).length + [y].length ≤ sizeLine := fun y => by
    rw [sizeLine_eq]
    have : (cutD (pts.map frD) (some 1) none).length ≤ (pts.map frD).length := by
      unfold cutD
      rw [List.length_take]; rw [List.length_drop]
      omega
    simp at this ⊢
    omega
  have nct : ∀ x ∈ cutD (pts.map frD) (some 1) none, x.nice = true := fun x hx => npt x (List.mem_of_mem_drop (List.mem_of_mem_take hx))
  have lct : (cutD (pts.map frD) (some 1) none).length ≤ 10 := by
    have : (cutD (pts.map frD) (some 1) none).length ≤ (pts.map frD).length := by
      unfold cutD
      rw [List.length_take]; rw [List.length_drop]
      omega
    simp at this
    omega
  generalize hcu : cutD (pts.map frD) (some 1) none = cu at *
  simp -implicitDefEqProofs [sizeLine_eq, startS, wipeS, assignT, assign1, setAt_eq, isTy, -List.map_drop, Pr.b__law_kept_right, sR, b_addT (hb1 _), hcu, b_addT (hb2 _), max_eq, b_mulT (show 1 ≤ max m 1 by omega) (show max m 1 ≤ 1000 by omega)]
  refine good_for1 (I := fun k σ κ' => κ' = κ ∧ k ≤ 6 ∧ ∃ (ds : List D) (h : Option D), ds.length = 7 + k ∧ (∀ d ∈ ds, OddP m d) ∧
    σ = [some (.fz (.obj 0)), some (.fz (.int m)), some (.fz (.tup (pts.map frD))), some (.ol none r), Option.map O.fz a, Option.map O.fz b, Option.map O.fz c, Option.map O.fz d,
      Option.map O.fz e, Option.map O.fz f, Option.map O.fz h, some (.fz (sysD m rows)), Option.map O.fz i, Option.map O.fz j, some (.ol none ds), none, none]) ?_ ?_ ?_
  · refine ⟨rfl, by omega, _, h, ?_, ?_, rfl⟩
    · rfl
    · intro x hx
      simp only [List.not_mem_nil, or_false, List.mem_cons] at hx
      rcases hx with rfl | rfl | rfl | rfl | rfl | rfl | rfl
      · exact ⟨nice_non, rfl⟩
      · exact ⟨nice_l (by simp; omega) npt, rfl⟩
      · refine ⟨nice_t (by simp; omega) (fun x hx => ?_), pointB_len (by simp; omega)⟩
        rcases List.mem_append.mp hx with h | h
        · exact npt x h
        · simp only [List.mem_singleton, id] at h
          subst h
          exact nice_fr (0, 1)
      · exact ⟨nice_int _, rfl⟩
      · exact ⟨nice_str _, rfl⟩
      · refine ⟨nice_t (by simp; omega) (fun x hx => ?_), pointB_bad (d := frD (2, 2)) (by simp [frD]) (by decide +kernel)⟩
        rcases List.mem_append.mp hx with h | h
        · exact nct x h
        · simp only [List.mem_singleton, id] at h
          subst h
          exact nice_fr (2, 2)
      · exact odd_rep hm (nice_fr (1, 0)) (by decide +kernel)
  · rintro k x σ κ' hx ⟨rfl, hk, ds, h, hdl, hd, rfl⟩
    have hxb : x.nice = true ∧ fracB x = false := by
      have := List.mem_of_getElem? hx
      simp only [List.mem_cons, List.not_mem_nil, or_false] at this
      rcases this with rfl | rfl | rfl | rfl | rfl | rfl
      · exact ⟨nice_fr (0, 2), by decide +kernel⟩
      · exact ⟨nice_t (by simp) (by simp), by decide +kernel⟩
      · exact ⟨nice_int _, by decide +kernel⟩
      · exact ⟨nice_fr (1, -1), by decide +kernel⟩
      · exact ⟨nice_l (by simp) (by simp), by decide +kernel⟩
      · exact ⟨nice_non, by decide +kernel⟩
    have hk3 : k < 6 := by
      rcases Nat.lt_or_ge k 6 with h' | h'
      · exact h'
      · rw [List.getElem?_eq_none (by simpa using h')] at hx; simp at hx
    have hdz : ds.length < 16777216 := by omega
    refine ⟨_, κ', ?_, rfl, by omega, ds ++ [.tup (List.replicate (max m 1) x)], some x, by simp [hdl]; omega, ?_, rfl⟩
    · simp -implicitDefEqProofs [sizeLine_eq, startS, wipeS, assignT, assign1, setAt_eq, isTy, max_eq, b_mulT (show 1 ≤ max m 1 by omega) (show max m 1 ≤ 1000 by omega), hdz]
    · intro y hy
      rcases List.mem_append.mp hy with h | h
      · exact hd y h
      · simp only [List.mem_singleton, id] at h
        subst h
        exact odd_rep hm hxb.1 hxb.2
  · rintro σ κ' ⟨rfl, hk, ds, h, hdl, hd, rfl⟩
    simp -implicitDefEqProofs [sizeLine_eq, startS, wipeS, assignT, assign1, setAt_eq, isTy, lockAll]
    refine good_forU (I := fun xs σ κ => κ = κ' ∧ (∀ d ∈ xs, OddP m d) ∧ ∃ w : Option D,
      σ = [some (.fz (.obj 0)), some (.fz (.int m)), some (.fz (.tup (pts.map frD))), some (.ol none r), Option.map O.fz a, Option.map O.fz b, Option.map O.fz c, Option.map O.fz d,
      Option.map O.fz e, Option.map O.fz f, Option.map O.fz h, some (.fz (sysD m rows)), Option.map O.fz i, Option.map O.fz j, some (.ol (some 14) ds), Option.map O.fz w, none]) ?_ ?_ ?_
    · exact ⟨rfl, hd, none, rfl⟩
    · rintro x xs σ κ ⟨rfl, hx, v, rfl⟩
      have hm := hx x (by simp)
      refine ⟨_, κ, ?_, rfl, fun d hd' => hx d (by simp [hd']), some x, rfl⟩
      simp -implicitDefEqProofs [sizeLine_eq, startS, wipeS, assignT, assign1, setAt_eq, isTy, keeps_bad n hs x hm.nice hm.no]
    · rintro σ κ ⟨rfl, _, v, rfl⟩
      simp -implicitDefEqProofs [sizeLine_eq, startS, wipeS, assignT, assign1, setAt_eq, isTy, unlockAll]
      exact g

theorem pts_rep (m : Nat) : List.replicate m (D.tup [.int 0, .int 1]) = (List.replicate m (0, 1)).map frD := by
  rw [List.map_replicate]
  rfl
theorem pt01 : PtOk (0, 1) := ⟨by decide, by unfold Lt2; decide, by unfold Lt2; decide, by decide⟩
theorem filt_all (f : Row → Bool) (rows : List Row) : ((rows.filter (fun r => !f r)).map rowD).isEmpty = rows.all f := by
  induction rows with
  | nil => rfl
  | cons r l ih =>
    cases h : f r
    · rw [List.filter_cons, List.all_cons]
      simp only [h, Bool.not_false, if_true, List.map_cons, List.isEmpty_cons, Bool.false_and]
    · rw [List.filter_cons, List.all_cons]
      simp only [h, Bool.not_true, Bool.false_eq_true, if_false, Bool.true_and, ih]
theorem kept_tail1 (n : Nat) {N : Nat} {κ : Cells} (hk : PenK N κ) (hN : N ≤ 800000) {Q : D → Cells → Prop} {m : Nat} {rows : List Row} (hs : SysOk m rows) {pts : List (Int × Int)} (hl : pts.length = m)
    (hp : ∀ p ∈ pts, PtOk p) (g : ∀ κ', PenK (N + 20) κ' → Q (.bl true) κ') (a b c d e f h : Option D) :
    Good (exec (Gm (n + 5)) (sR 2 Pr.b__law_kept_right) [some (.fz (.obj 0)), some (.fz (.int m)), some (.fz (.tup (pts.map frD))), some (.ol none (rows.map rowD)), Option.map O.fz a, Option.map O.fz b, Option.map O.fz c, Option.map O.fz d,
      Option.map O.fz e, Option.map O.fz f, Option.map O.fz h, none, none, none, none, none, none] κ) Q := by
  have hm := hs.small
  have hfew := hs.few
  obtain ⟨pts2, κ1, e1, hl2, hp2, hk1⟩ := lpoint_ok (n + 3) hk m hm (by omega)
  have hT := fun (r : List D) (a b c d e f h i j : Option D) => kept_tail2 n (κ := κ1) (Q := Q) hs hl (g κ1 (hk1.up (by omega))) r a b c d e f h i j
  rw [kept_split2]
  generalize sR 4 Pr.b__law_kept_right = R at hT
  have esys : D.tup [.int m, .tup (rows.map rowD)] = sysD m rows := rfl
  simp -implicitDefEqProofs [sizeLine_eq, startS, wipeS, assignT, assign1, setAt_eq, isTy, Pr.b__law_kept_right, sN, esys, e1, b_mulL (show m ≤ 1000 by omega), pts_rep]
  refine good_for (I := fun xs σ κ' => κ' = κ1 ∧ (∀ x ∈ xs, ∃ q : List (Int × Int), x = .tup (q.map frD) ∧ q.length = m ∧ ∀ p ∈ q, PtOk p) ∧ ∃ u v : Option D,
    σ = [some (.fz (.obj 0)), some (.fz (.int m)), some (.fz (.tup (pts.map frD))), some (.ol none (rows.map rowD)), Option.map O.fz a, Option.map O.fz b, Option.map O.fz c, Option.map O.fz d,
      Option.map O.fz e, Option.map O.fz f, Option.map O.fz h, some (.fz (sysD m rows)), Option.map O.fz u, Option.map O.fz v, none, none, none]) ?_ ?_ ?_
  · refine ⟨rfl, ?_, none, none, rfl⟩
    intro x hx
    simp only [List.not_mem_nil, or_false, List.mem_cons] at hx
    rcases hx with rfl | rfl | rfl
    · exact ⟨pts, rfl, hl, hp⟩
    · exact ⟨pts2, rfl, hl2, fun p h => (hp2 p h).1⟩
    · refine ⟨List.replicate m (0, 1), by simp, by simp, fun p hp => ?_⟩
      rw [List.eq_of_mem_replicate hp]
      exact pt01
  · rintro x xs σ κ' ⟨rfl, hx, u, v, rfl⟩
    obtain ⟨q, rfl, hql, hqp⟩ := hx x (by simp)
    refine ⟨_, κ', ?_, rfl, fun d hd' => hx d (by simp [hd']), some (.tup (q.map frD)), some (.bl (rows.all (keepsF q))), rfl⟩
    simp -implicitDefEqProofs [sizeLine_eq, startS, wipeS, assignT, assign1, setAt_eq, isTy, ]
    rw [comp_filterM (f := rowD) (p := fun r => !keepsF q r) (g := rowD) (by
      intro r hr
      cases hc : keepsF q r <;> simp -implicitDefEqProofs [sizeLine_eq, startS, wipeS, assignT, assign1, setAt_eq, isTy, lkeeps_ok (n + 2) m r q κ' (hs.rows r hr) hm hqp, hc])]
    have hzf : (rows.filter (fun r => !keepsF q r)).length < 16777216 := by
      have := List.length_filter_le (fun r => !keepsF q r) rows
      omega
    have e2 : eqD (.lst ((rows.filter (fun r => !keepsF q r)).map rowD)) (.lst []) = some (rows.all (keepsF q)) := by
      rw [eq_nil (by
        intro x hx
        obtain ⟨r, _, rfl⟩ := List.mem_map.mp hx
        exact (ly_row r).up (by decide))]
      rw [filt_all]
    simp -implicitDefEqProofs [sizeLine_eq, startS, wipeS, assignT, assign1, setAt_eq, isTy, hzf, e2, keeps_pts n hs q hql hqp]
  · rintro σ κ' ⟨rfl, _, u, v, rfl⟩
    exact hT _ a b c d e f h u v

theorem nx_forL {I : List D → Sl → Cells → Prop} {step : D → Sl → Cells → Res} {t : Tk step} {f : Sl → Cells → Res} {t' : Tk f} {xs : List D} {σ : Sl} {κ : Cells} {J : Sl → Cells → Prop}
    (h0 : I xs σ κ) (hs : ∀ (x : D) (xs : List D) (σ : Sl) (κ : Cells), I (x :: xs) σ κ → ∃ σ' κ', step x σ κ = .nx σ' κ' ∧ I xs σ' κ')
    (g : ∀ σ κ, I [] σ κ → NxTo (f σ κ) J) : NxTo (Res.then f t' (forD step t xs σ κ)) J := by
  obtain ⟨σ', κ', e, hi⟩ := for_list hs xs σ κ h0
  rw [show forD step t xs σ κ = forLoop step xs σ κ from rfl, e]
  exact g σ' κ' hi
@[simp] theorem as_row (is : List Nat) (r : Row) (σ : Sl) : assignT (.t is) (rowD r) σ = assign1 is [.tup (r.fs.map .int), sgD r.st, .int r.num] σ := rfl
theorem fdiv_pos {a b : Int} (hb : 0 < b) : (a.fdiv b).natAbs ≤ a.natAbs := by
  obtain ⟨k, rfl⟩ := Int.eq_ofNat_of_zero_le (Int.le_of_lt hb)
  exact fdiv_abs a k
theorem kept_ok (n : Nat) {N : Nat} {κ : Cells} (hk : PenK N κ) (hN : N ≤ 600000) {m : Nat} (hm : m ≤ 10) :
    ∃ (κ' : Cells), callN P0 (n + 6) 41 [.obj 0, .int m] κ = .ok (.bl true, κ') ∧ PenK (N + 200) κ' := by
  suffices h : ∃ d κ', callN P0 (n + 6) 41 [.obj 0, .int m] κ = .ok (d, κ') ∧ (d = .bl true ∧ PenK (N + 200) κ') by
    obtain ⟨d, κ', h, rfl, h2⟩ := h
    exact ⟨κ', h, h2⟩
  refine good_callQ (fn := ⟨2, 17, Pr.b__law_kept_right⟩) rfl rfl fun Q hQ => ?_
  obtain ⟨pts, κ1, e1, hl, hp, hk1⟩ := lpoint_ok (n + 3) hk m hm (by omega)
  have hpp : ∀ p ∈ pts, PtOk p := fun p h => (hp p h).1
  obtain ⟨k, κ2, e2, g1, g2, hk2⟩ := draw' (n + 4) hk1 (by omega) 6 (by omega) (by omega)
  obtain ⟨i, rfl⟩ := Int.eq_ofNat_of_zero_le g1
  have hT := fun (rows : List Row) (hs : SysOk m rows) (N' : Nat) (κ : Cells) (hk : PenK N' κ) (hN' : N' ≤ N + 180) (a b c d e f h : Option D) => kept_tail1 n (N := N') (κ := κ) hk (by omega) (Q := Q) hs hl hpp
    (fun κ' hk' => hQ _ _ ⟨rfl, hk'.up (by omega)⟩) a b c d e f h
  rw [show (⟨2, 17, Pr.b__law_kept_right⟩ : Fn).body = Pr.b__law_kept_right from rfl, kept_split]
  generalize sR 2 Pr.b__law_kept_right = R at hT
  simp -implicitDefEqProofs [sizeLine_eq, startS, wipeS, assignT, assign1, setAt_eq, isTy, Pr.b__law_kept_right, sN, e1, e2, exec.exec1, exec.evos, exec.assignO, range_nat (show i ≤ 2 ^ 40 by omega)]
  refine good_for1 (I := fun j σ κ => j ≤ i ∧ PenK (N + 21 + 23 * j) κ ∧ ∃ (rows : List Row) (a b c d e f h : Option D), rows.length = j ∧ (∀ r ∈ rows, RowOk m r) ∧
    σ = [some (.fz (.obj 0)), some (.fz (.int m)), some (.fz (.tup (pts.map frD))), some (.ol none (rows.map rowD)), Option.map O.fz a, Option.map O.fz b, Option.map O.fz c, Option.map O.fz d,
      Option.map O.fz e, Option.map O.fz f, Option.map O.fz h, none, none, none, none, none, none]) ?_ ?_ ?_
  · exact ⟨Nat.zero_le _, hk2.up (by omega), [], none, none, none, none, none, none, none, rfl, by simp, rfl⟩
  · rintro j x σ κ hx ⟨hj, hkj, rows, a, b, c, d, e, f, h, hrl, hr, rfl⟩
    obtain ⟨hj, rfl⟩ := get_range hx
    obtain ⟨r, κ3, e3, hdr, hk3⟩ := lrow_ok (n + 2) hkj m 5 hm (by decide) (by omega)
    have hro := hdr.row (by decide)
    have ht := tot_of hro hm hpp
    change NxTo _ _
    have e3' : callN P0 (n + 5) 33 [.obj 0, .int m, .int 5] κ = .ok (.tup [.tup (r.fs.map .int), sgD r.st, .int r.num], κ3) := e3
    simp -implicitDefEqProofs [sizeLine_eq, startS, wipeS, assignT, assign1, setAt_eq, isTy, e3', zip_pts]
    refine nx_forL (I := SumI (sumF r.fs pts) r.fs.length (fun t u v => [some (.fz (.obj 0)), some (.fz (.int m)), some (.fz (.tup (pts.map frD))), some (.ol none (rows.map rowD)), some (.fz (.int j)), some (.fz (.tup (r.fs.map .int))), some (.fz (sgD r.st)), some (.fz (.int r.num)),
      some (.fz (frD t)), Option.map O.fz u, Option.map O.fz v, none, none, none, none, none, none]) κ3)
      (SumI.start (u := f) (v := h) hro.fs hpp (Nat.le_refl _)) (SumI.next (by rw [hro.len]; exact hm) ?_) ?_
    · intro x k t u v ht hk hx hpx
      have e1 := lfrac_ok (n + 4) (x.1 * x.2.1) x.2.2 κ3 hpx.pos ((hx.mul hpx.top).up (by decide)) (hpx.bot.up (by decide))
      have e2 := step_l (n + 3) κ3 ht hk hx hpx
      have e3 : mulOk x.1 x.2.1 = true := (hx.up (show 40 ≤ 40 + 1 by decide)).ok (hpx.top.up (show 40 ≤ 40 + 1 by decide)) (by decide)
      simp -implicitDefEqProofs [sizeLine_eq, startS, wipeS, assignT, assign1, setAt_eq, isTy, pairD, b_mul e3, e1, e2]
    · intro σ' κ' h'
      obtain ⟨rfl, u, v, _, rfl⟩ := h'.done
      have hdiv : divOk (sumF r.fs pts).2 = true := divOk_lt (k := 820) (by have := ht.pos; omega) ht.bot (by decide)
      have hab := fdiv_pos (a := (sumF r.fs pts).1) ht.pos
      have hz : rows.length < 16777216 := by omega
      have pick : ∀ L : List D, L ≠ [] → L.length ≤ 10 → (∀ x ∈ L, ∃ z : Int, x = .int z ∧ z.natAbs ≤ 10) → ∃ (z : Int) (κ4 : Cells), callN P0 (n + 5) 29 [.obj 0, .lst L] κ' = .ok (.int z, κ4) ∧ z.natAbs ≤ 10 ∧ PenK (N + 21 + 23 * (j + 1)) κ4 := by
        intro L hL0 hL1 hL
        obtain ⟨x, κ4, e4, hx, hk4⟩ := pick_ok (n + 3) hk3 (by omega) L hL0 (by omega)
        obtain ⟨z, rfl, hz⟩ := hL x hx
        exact ⟨z, κ4, e4, hz, hk4.up (by omega)⟩
      have fin : ∀ (z : Int), z.natAbs ≤ 10 → RowOk m ⟨r.fs, r.st, (sumF r.fs pts).1.fdiv (sumF r.fs pts).2 + z⟩ := fun z hz =>
        ⟨hro.len, hro.fs, ((show Lt2 821 _ from abs_le ht.top hab).add ((show Lt2 10 z by unfold Lt2; omega).up (by decide))).up (by decide)⟩
      have erow : ∀ z : Int, D.tup [.tup (r.fs.map .int), sgD r.st, .int ((sumF r.fs pts).1.fdiv (sumF r.fs pts).2 + z)] = rowD ⟨r.fs, r.st, (sumF r.fs pts).1.fdiv (sumF r.fs pts).2 + z⟩ := fun z => rfl
      by_cases hj0 : 0 < (j : Int)
      · obtain ⟨z, κ4, e4, hz4, hk4⟩ := pick [.int 0, .int 0, .int 0, .int (-1), .int (-9)] (by simp) (by simp) (by
          intro x hx
          simp only [List.not_mem_nil, or_false, List.mem_cons] at hx
          rcases hx with rfl | rfl | rfl | rfl | rfl <;> exact ⟨_, rfl, by decide⟩)
        have hj0' : 0 < j := by omega
        simp -implicitDefEqProofs [sizeLine_eq, startS, wipeS, assignT, assign1, setAt_eq, isTy, hj0, hj0', e4, b_fdiv hdiv, hz, erow]
        refine ⟨hj, hk4, rows ++ [⟨r.fs, r.st, (sumF r.fs pts).1.fdiv (sumF r.fs pts).2 + z⟩], by simp [hrl], fun r' hr' => ?_, by simp, ⟨some _, rfl⟩, ⟨some _, rfl⟩, ⟨some _, rfl⟩, ⟨some _, rfl⟩, ⟨some _, rfl⟩, ⟨u, rfl⟩, ⟨v, rfl⟩⟩
        rcases List.mem_append.mp hr' with h | h
        · exact hr r' h
        · simp only [List.mem_singleton, id] at h
          subst h
          exact fin z hz4
      · obtain ⟨z, κ4, e4, hz4, hk4⟩ := pick [.int 0, .int 1, .int (-1)] (by simp) (by simp) (by
          intro x hx
          simp only [List.not_mem_nil, or_false, List.mem_cons] at hx
          rcases hx with rfl | rfl | rfl <;> exact ⟨_, rfl, by decide⟩)
        have hj0' : ¬ 0 < j := by omega
        simp -implicitDefEqProofs [sizeLine_eq, startS, wipeS, assignT, assign1, setAt_eq, isTy, hj0, hj0', e4, b_fdiv hdiv, hz, erow]
        refine ⟨hj, hk4, rows ++ [⟨r.fs, r.st, (sumF r.fs pts).1.fdiv (sumF r.fs pts).2 + z⟩], by simp [hrl], fun r' hr' => ?_, by simp, ⟨some _, rfl⟩, ⟨some _, rfl⟩, ⟨some _, rfl⟩, ⟨some _, rfl⟩, ⟨some _, rfl⟩, ⟨u, rfl⟩, ⟨v, rfl⟩⟩
        rcases List.mem_append.mp hr' with h | h
        · exact hr r' h
        · simp only [List.mem_singleton, id] at h
          subst h
          exact fin z hz4
  · rintro σ κ ⟨hj, hkj, rows, a, b, c, d, e, f, h, hrl, hr, rfl⟩
    simp only [List.length_map, List.length_range] at hrl hkj
    refine hT rows ⟨by omega, hm, hr⟩ _ κ hkj (by omega) a b c d e f h
end R

/-! M18: texts of values are short and clean. -/
namespace R
open PySem L2
theorem ok_app (a b : Str) : PyData.strOk (a ++ b) = (PyData.strOk a && PyData.strOk b) := by
  show ((a.cps ++ b.cps).all _) = _
  rw [Array.all_append]
  rfl
theorem ok_of (s : String) : PyData.strOk (Str.ofString s) = true := by
  rw [Str.ofString_eq_toList]
  unfold PyData.strOk
  rw [Array.all_eq_true']
  intro x hx
  simp only [List.mem_toArray, List.mem_map] at hx
  obtain ⟨c, _, rfl⟩ := hx
  have h := c.valid
  simp only [Nat.isValidChar, UInt32.isValidChar] at h
  have ht : c.toNat = c.val.toNat := (rfl)
  simp only [decide_eq_true_eq]
  omega
/-- a value with a short text -/
def Rp (k b : Nat) (d : D) : Prop := ∃ p : PyData, d.py = some p ∧ p.showable = true ∧ p.hasDict = false ∧ p.depth ≤ k ∧ p.shown.length ≤ b ∧ PyData.strOk p.shown = true
theorem Rp.up {k b l c : Nat} {d : D} (h : Rp k b d) (hk : k ≤ l) (hb : b ≤ c) : Rp l c d := by
  obtain ⟨p, h1, h2, h3, h4, h5, h6⟩ := h
  exact ⟨p, h1, h2, h3, by omega, by omega, h6⟩
theorem rp_int {i : Int} (h : Lt2 1000 i) : Rp 0 1002 (.int i) := by
  refine ⟨.int i, by simp only [D.py], ?_, by simp only [PyData.hasDict], by simp [PyData.depth], ?_, ?_⟩
  · have := log_lt (k := 999) h
    simp only [decide_eq_true_eq, PyData.showable]
    omega
  · have := int_text_length_le (a := i) (k := 1000) (by decide) (log_lt (k := 999) h)
    simp only [PyData.shown]
    rw [ofString_length]
    omega
  · simp only [PyData.shown]
    exact ok_of _
theorem rp_non : Rp 0 1002 .non := by
  refine ⟨.none, by simp only [D.py], by simp only [PyData.showable], by simp only [PyData.hasDict], by simp [PyData.depth], ?_, ?_⟩
  · simp only [PyData.shown]
    rw [ofString_length]
    decide
  · simp only [PyData.shown]
    exact ok_of _
theorem rp_bl (b : Bool) : Rp 0 1002 (.bl b) := by
  refine ⟨.bool b, by simp only [D.py], by simp only [PyData.showable], by simp only [PyData.hasDict], by simp [PyData.depth], ?_, ?_⟩
  · simp only [PyData.shown]
    cases b <;> decide +kernel
  · simp only [PyData.shown]
    cases b <;> decide +kernel

theorem rp_str {x : Str} (h : (decide ((reprText x).length ≤ 1002) && PyData.strOk (reprText x)) = true) : Rp 0 1002 (.str x) := by
  rw [(Bool.and_eq_true), decide_eq_true_eq] at h
  exact ⟨.str x, by simp only [D.py], by simp only [PyData.showable], by simp only [PyData.hasDict], by simp [PyData.depth], by simp only [PyData.shown]; exact h.1, by simp only [PyData.shown]; exact h.2⟩
theorem rps {k b : Nat} : ∀ {xs : List D}, (∀ x ∈ xs, Rp k b x) → ∃ ps : List PyData, D.pys xs = some ps ∧ PyData.showableAll ps = true ∧ PyData.hasDictAll ps = false ∧ PyData.depthAll ps ≤ k ∧
    (∀ t ∈ PyData.shownAll ps, t.length ≤ b ∧ PyData.strOk t = true) ∧ (PyData.shownAll ps).length = xs.length
  | [], _ => ⟨[], by simp [D.pys], by simp [PyData.showableAll], by simp [PyData.hasDictAll], by simp [PyData.depthAll], by simp [PyData.shownAll], by simp [PyData.shownAll]⟩
  | x :: xs, h => by
    obtain ⟨p, h1, h2, h3, h4, h5, h6⟩ := h x (by simp)
    obtain ⟨ps, g1, g2, g3, g4, g5, g6⟩ := rps (xs := xs) (fun y hy => h y (by simp [hy]))
    refine ⟨p :: ps, by simp [D.pys, h1, g1], by simp [PyData.showableAll, h2, g2], by simp [PyData.hasDictAll, h3, g3], ?_, ?_, by simp [PyData.shownAll, g6]⟩
    · simp only [PyData.depthAll]
      omega
    · intro t ht
      simp only [PyData.shownAll, List.mem_cons] at ht
      rcases ht with rfl | ht
      · exact ⟨h5, h6⟩
      · exact g5 t ht
theorem join_fine {b : Nat} : ∀ {ts : List Str}, (∀ t ∈ ts, t.length ≤ b ∧ PyData.strOk t = true) → (Str.join ", " ts).length ≤ ts.length * (b + 2) ∧ PyData.strOk (Str.join ", " ts) = true
  | [], _ => ⟨by show (0 : Nat) ≤ _; omega, by decide +kernel⟩
  | [x], h => by
    have := h x (by simp)
    exact ⟨by show x.length ≤ _; simp; omega, this.2⟩
  | x :: y :: r, h => by
    have h1 := h x (by simp)
    obtain ⟨h2, h3⟩ := join_fine (ts := y :: r) (fun t ht => h t (by simp [ht]))
    have e : Str.join ", " (x :: y :: r) = x ++ ", " ++ Str.join ", " (y :: r) := rfl
    refine ⟨?_, ?_⟩
    · rw [e, strLen_append, strLen_append, ofString_length, List.length_cons, Nat.add_mul]
      have : (", " : String).length = 2 := rfl
      omega
    · rw [e, ok_app, ok_app, h1.2, ok_of, h3]
      rfl
theorem from_fine {b : Nat} : ∀ {ts : List Str} (k : Nat) (acc : Str), (∀ t ∈ ts, t.length ≤ b ∧ PyData.strOk t = true) → PyData.strOk acc = true →
    (textFrom k acc ts).length ≤ acc.length + ts.length * (b + 2) ∧ PyData.strOk (textFrom k acc ts) = true
  | [], k, acc, _, ha => ⟨by show acc.length ≤ _; omega, ha⟩
  | t :: r, k, acc, h, ha => by
    have h1 := h t (by simp)
    have e : ∀ c : Bool, ((if c then ", " else "" : String)).length ≤ 2 := fun c => by cases c <;> decide
    have e2 : (if k > 0 then ", " else "" : String).length ≤ 2 := by split <;> decide
    obtain ⟨h2, h3⟩ := from_fine (ts := r) (k + 1) (acc ++ (if k > 0 then ", " else "" : String) ++ t) (fun t ht => h t (by simp [ht])) (by rw [ok_app, ok_app, ha, ok_of, h1.2]; rfl)
    refine ⟨?_, h3⟩
    show (textFrom (k + 1) (acc ++ (if k > 0 then ", " else "" : String) ++ t) r).length ≤ _
    rw [strLen_append, strLen_append, ofString_length] at h2
    rw [List.length_cons, Nat.add_mul]
    omega
theorem rp_tup {k b : Nat} {xs : List D} (h : ∀ x ∈ xs, Rp k b x) : Rp (k + 1) (xs.length * (b + 2) + 3) (.tup xs) := by
  obtain ⟨ps, g1, g2, g3, g4, g5, g6⟩ := rps h
  obtain ⟨j1, j2⟩ := join_fine g5
  rw [g6] at j1
  have e2 : (if (PyData.shownAll ps).length == 1 then ",)" else ")" : String).length ≤ 2 := by split <;> decide
  refine ⟨.tuple ps, by simp [D.py, g1], by simp [PyData.showable, g2], by simp [PyData.hasDict, g3], by simp [PyData.depth]; omega, ?_, ?_⟩
  · simp only [PyData.shown]
    show ((("(" : Str) ++ Str.join ", " (PyData.shownAll ps) ++ (if (PyData.shownAll ps).length == 1 then ",)" else ")" : String)) : Str).length ≤ _
    rw [strLen_append]; rw [strLen_append, ofString_length, ofString_length]
    have : ("(" : String).length = 1 := rfl
    omega
  · simp only [PyData.shown]
    show PyData.strOk ((("(" : Str) ++ Str.join ", " (PyData.shownAll ps) ++ (if (PyData.shownAll ps).length == 1 then ",)" else ")" : String)) : Str) = true
    rw [ok_app, ok_app, ok_of, ok_of, j2]
    rfl
theorem rp_lst {k b : Nat} {xs : List D} (h : ∀ x ∈ xs, Rp k b x) : Rp (k + 1) (xs.length * (b + 2) + 3) (.lst xs) := by
  obtain ⟨ps, g1, g2, g3, g4, g5, g6⟩ := rps h
  obtain ⟨j1, j2⟩ := from_fine (b := b) 0 "[" g5 (ok_of _)
  rw [g6, ofString_length] at j1
  have : ("[" : String).length = 1 := rfl
  have : ("]" : String).length = 1 := rfl
  refine ⟨.list ps, by simp [D.py, g1], by simp [PyData.showable, g2], by simp [PyData.hasDict, g3], by simp [PyData.depth]; omega, ?_, ?_⟩
  · simp only [PyData.shown]
    show ((textFrom 0 "[" (PyData.shownAll ps) ++ "]" : Str)).length ≤ _
    rw [strLen_append, ofString_length]
    omega
  · simp only [PyData.shown]
    show PyData.strOk ((textFrom 0 "[" (PyData.shownAll ps) ++ "]" : Str)) = true
    rw [ok_app, j2, ok_of]
    rfl
theorem rp_rep {k b : Nat} {d : D} (h : Rp k b d) (hk : k ≤ 60) (hb : b ≤ 16777216) : ∃ t, repD d = some t ∧ PyData.strOk t = true := by
  obtain ⟨p, h1, h2, h3, h4, h5, h6⟩ := h
  refine ⟨p.shown, ?_, h6⟩
  have e1 : decide (p.depth ≤ 60) = true := decide_eq_true (by omega)
  have e2 : decide (p.shown.length ≤ sizeLine) = true := decide_eq_true (by rw [sizeLine_eq]; omega)
  simp only [repD, h1, h2, h3, e1, e2, Bool.not_false, Bool.and_self, if_true]
end R

/-! M19: values that are no systems. -/
namespace R
open PySem L2
structure OddS (d : D) : Prop where
  nice : d.nice = true
  no : sysB d = false
  rep : Rp 5 1600000 d
structure El (d : D) : Prop where
  nice : d.nice = true
  rep : Rp 3 52000 d
theorem rows_rp {xs : List D} (hl : xs.length ≤ 10) (h : ∀ x ∈ xs, El x) : Rp 4 520100 (.tup xs) ∧ Rp 4 520100 (.lst xs) ∧ (D.tup xs).nice = true ∧ (D.lst xs).nice = true := by
  have h1 := rp_tup (k := 3) (b := 52000) (xs := xs) (fun x hx => (h x hx).rep)
  have h2 := rp_lst (k := 3) (b := 52000) (xs := xs) (fun x hx => (h x hx).rep)
  have hb : xs.length * (52000 + 2) + 3 ≤ 520100 := by omega
  exact ⟨h1.up (by decide) hb, h2.up (by decide) hb, nice_t (by omega) (fun x hx => (h x hx).nice), nice_l (by omega) (fun x hx => (h x hx).nice)⟩
/-- a pair, a triple, of parts -/
structure Pa (d : D) : Prop where
  nice : d.nice = true
  rep : Rp 4 520100 d
theorem pa_int (i : Int) (h : i.natAbs ≤ 5000) : Pa (.int i) := ⟨nice_int i, (rp_int (Lt2.up (k := 13) (by unfold Lt2; omega) (by decide))).up (by decide) (by decide)⟩
theorem pa_bl (b : Bool) : Pa (.bl b) := ⟨nice_bl b, (rp_bl b).up (by decide) (by decide)⟩
theorem pa_non : Pa .non := ⟨nice_non, rp_non.up (by decide) (by decide)⟩
theorem odd_t {xs : List D} (hl : xs.length ≤ 3) (h : ∀ x ∈ xs, Pa x) (hs : sysB (.tup xs) = false) : OddS (.tup xs) := by
  have h1 := rp_tup (k := 4) (b := 520100) (xs := xs) (fun x hx => (h x hx).rep)
  exact ⟨nice_t (by omega) (fun x hx => (h x hx).nice), hs, h1.up (by decide) (by omega)⟩
theorem odd_l {xs : List D} (hl : xs.length ≤ 3) (h : ∀ x ∈ xs, Pa x) : OddS (.lst xs) := by
  have h1 := rp_lst (k := 4) (b := 520100) (xs := xs) (fun x hx => (h x hx).rep)
  exact ⟨nice_l (by omega) (fun x hx => (h x hx).nice), rfl, h1.up (by decide) (by omega)⟩
theorem odd_rows {m : Nat} (hm : m ≤ 10) {xs : List D} (hl : xs.length ≤ 10) (h : ∀ x ∈ xs, El x) {bad : D} (hb : bad ∈ xs) (hf : rowB m bad = false) : OddS (.tup [.int m, .tup xs]) := by
  obtain ⟨h1, _, h3, _⟩ := rows_rp hl h
  have ha : xs.all (rowB m) = false := List.all_eq_false.mpr ⟨bad, hb, by simp [hf]⟩
  refine odd_t (by simp) ?_ ?_
  · intro x hx
    simp only [List.not_mem_nil, or_false, List.mem_cons] at hx
    rcases hx with rfl | rfl
    · exact pa_int _ (by omega)
    · exact ⟨h3, h1⟩
  · simp only [sysB, ha, Bool.and_false]
/-- a part of a row -/
structure Pt (d : D) : Prop where
  nice : d.nice = true
  rep : Rp 2 17000 d
theorem pt_int (i : Int) (h : i.natAbs ≤ 5000) : Pt (.int i) := ⟨nice_int i, (rp_int (Lt2.up (k := 13) (by unfold Lt2; omega) (by decide))).up (by decide) (by decide)⟩
theorem pt_bl (b : Bool) : Pt (.bl b) := ⟨nice_bl b, (rp_bl b).up (by decide) (by decide)⟩
theorem pt_non : Pt .non := ⟨nice_non, rp_non.up (by decide) (by decide)⟩
theorem pt_str {x : Str} (h : (decide ((reprText x).length ≤ 1002) && PyData.strOk (reprText x)) = true) : Pt (.str x) := ⟨nice_str x, (rp_str h).up (by decide) (by decide)⟩
theorem pt_sg (b : Bool) : Pt (sgD b) := pt_str (by cases b <;> decide +kernel)
/-- what stands in a row's first part -/
structure Lo (d : D) : Prop where
  nice : d.nice = true
  rep : Rp 1 2020 d
theorem lo_int (i : Int) (h : i.natAbs ≤ 5000) : Lo (.int i) := ⟨nice_int i, (rp_int (Lt2.up (k := 13) (by unfold Lt2; omega) (by decide))).up (by decide) (by decide)⟩
theorem lo_bl (b : Bool) : Lo (.bl b) := ⟨nice_bl b, (rp_bl b).up (by decide) (by decide)⟩
theorem lo_11 : Lo (.tup [.int 1, .int 1]) := by
  refine ⟨nice_t (by simp) (by simp), ?_⟩
  have := rp_tup (k := 0) (b := 1002) (xs := [.int 1, .int 1]) (by
    intro x hx
    simp only [List.not_mem_nil, or_false, List.mem_cons] at hx
    rcases hx with rfl | rfl <;> exact rp_int (Lt2.up (k := 13) (by unfold Lt2; omega) (by decide)))
  exact this.up (by decide) (by simp)
theorem pt_lo {d : D} (h : Lo d) : Pt d := ⟨h.nice, h.rep.up (by decide) (by decide)⟩
theorem pt_seq {xs : List D} (hl : xs.length ≤ 8) (h : ∀ x ∈ xs, Lo x) : Pt (.tup xs) ∧ Pt (.lst xs) := by
  have h1 := rp_tup (k := 1) (b := 2020) (xs := xs) (fun x hx => (h x hx).rep)
  have h2 := rp_lst (k := 1) (b := 2020) (xs := xs) (fun x hx => (h x hx).rep)
  exact ⟨⟨nice_t (by omega) (fun x hx => (h x hx).nice), h1.up (by decide) (by omega)⟩, ⟨nice_l (by omega) (fun x hx => (h x hx).nice), h2.up (by decide) (by omega)⟩⟩
theorem el_t {xs : List D} (hl : xs.length ≤ 3) (h : ∀ x ∈ xs, Pt x) : El (.tup xs) ∧ El (.lst xs) := by
  have h1 := rp_tup (k := 2) (b := 17000) (xs := xs) (fun x hx => (h x hx).rep)
  have h2 := rp_lst (k := 2) (b := 17000) (xs := xs) (fun x hx => (h x hx).rep)
  exact ⟨⟨nice_t (by omega) (fun x hx => (h x hx).nice), h1.up (by decide) (by omega)⟩, ⟨nice_l (by omega) (fun x hx => (h x hx).nice), h2.up (by decide) (by omega)⟩⟩
theorem el_non : El .non := ⟨nice_non, rp_non.up (by decide) (by decide)⟩
/-- three parts -/
theorem el_3 {a b c : D} (ha : Pt a) (hb : Pt b) (hc : Pt c) : El (.tup [a, b, c]) := (el_t (by simp) (by
  intro x hx
  simp only [List.not_mem_nil, or_false, List.mem_cons] at hx
  rcases hx with rfl | rfl | rfl
  · exact ha
  · exact hb
  · exact hc)).1
theorem fs_lo {m : Nat} {r : Row} (h : DrOk m 1000 r) : ∀ x ∈ r.fs.map D.int, Lo x := fun x hx => by
  obtain ⟨i, hi, rfl⟩ := List.mem_map.mp hx
  exact lo_int i (by have := h.fs i hi; omega)
theorem el_row {m : Nat} (hm : m ≤ 7) {r : Row} (h : DrOk m 1000 r) : El (rowD r) :=
  el_3 (pt_seq (by have := h.len; simp; omega) (fs_lo h)).1 (pt_sg _) (pt_int _ (by have := h.num; omega))
theorem sysB_rows (rows : List Row) : sysB (.tup (rows.map rowD)) = false := by
  match rows with
  | [] => rfl
  | [_] => rfl
  | [_, _] => rfl
  | _ :: _ :: _ :: _ => exact sysB_len (by simp)
/-- an error is told -/
@[simp] theorem sub11 (n : Nat) : (Gm n).sub 1 1 = true := rfl
theorem told_ok (n : Nat) {d : D} (h : OddS d) (w : Nat) (hw : w < 3) (κ : Cells) : callN P0 (n + 6) 42 [.int w, d] κ = .ok (.lst [.str "facts", d], κ) := by
  rw [call0 (fn := ⟨2, 4, Pr.b__law_told⟩) rfl rfl]
  have e1 := keeps_exc n d .non h.nice h.no κ
  have e2 := refutes_exc n d .non h.nice h.no κ
  have e3 := solved_exc n d h.nice h.no κ
  match w, hw with
  | 0, _ => simp -implicitDefEqProofs [sizeLine_eq, startS, wipeS, assignT, assign1, setAt_eq, isTy, Pr.b__law_told, e1, exec.execH, exec.gone, exec.endAs]
  | 1, _ => simp -implicitDefEqProofs [sizeLine_eq, startS, wipeS, assignT, assign1, setAt_eq, isTy, Pr.b__law_told, e2, exec.execH, exec.gone, exec.endAs]
  | 2, _ => simp -implicitDefEqProofs [sizeLine_eq, startS, wipeS, assignT, assign1, setAt_eq, isTy, Pr.b__law_told, e3, exec.execH, exec.gone, exec.endAs]
theorem told_rep {d : D} (h : OddS d) : ∃ t, repD (.lst [.str "facts", d]) = some t ∧ PyData.strOk t = true := by
  refine rp_rep (rp_lst (k := 5) (b := 1600000) (xs := [.str "facts", d]) ?_) (by decide) (by simp)
  intro x hx
  simp only [List.not_mem_nil, or_false, List.mem_cons] at hx
  rcases hx with rfl | rfl
  · exact (rp_str (by decide +kernel)).up (by decide) (by decide)
  · exact h.rep
end R

/-! M20: is_system is right, and other values are refused. -/
namespace R
open PySem L2
theorem sys_tail (n : Nat) {κ : Cells} {Q : D → Cells → Prop} (ds : List D) (hd : ∀ d ∈ ds, OddS d) (g : Q (.bl true) κ) (a b c e f : Option O) (u v : Option D) :
    Good (exec (Gm (n + 6)) (sR 10 Pr.b__law_systems_right) [a, b, c, e, f, some (.ol none ds), Option.map O.fz u, Option.map O.fz v, none, none, none] κ) Q := by
  simp -implicitDefEqProofs [sizeLine_eq, startS, wipeS, assignT, assign1, setAt_eq, isTy, Pr.b__law_systems_right, sR, lockAll]
  refine good_forU (I := fun xs σ κ' => κ' = κ ∧ (∀ d ∈ xs, OddS d) ∧ ∃ w z : Option D,
      σ = [a, b, c, e, f, some (.ol (some 5) ds), Option.map O.fz u, Option.map O.fz v, Option.map O.fz w, Option.map O.fz z, none]) ?_ ?_ ?_
  · exact ⟨rfl, hd, none, none, rfl⟩
  · rintro x xs σ κ' ⟨rfl, hx, w, z, rfl⟩
    have hm := hx x (by simp)
    have e3 : rangeD 0 3 = some ((List.range 3).map fun (k : Nat) => D.int (k : Int)) := range_nat (n := 3) (by decide)
    obtain ⟨t, ht1, ht2⟩ := told_rep hm
    change NxTo _ _
    simp -implicitDefEqProofs [sizeLine_eq, startS, wipeS, assignT, assign1, setAt_eq, isTy, sys_ok (n + 3) x _ hm.nice, hm.no, e3]
    refine nx_for1 (I := fun j σ κ => κ = κ' ∧ ∃ z : Option D, σ = [a, b, c, e, f, some (.ol (some 5) ds), Option.map O.fz u, Option.map O.fz v, some (.fz x), Option.map O.fz z, none]) ?_ ?_ ?_
    · exact ⟨rfl, z, rfl⟩
    · rintro j y σ κ hy ⟨rfl, z, rfl⟩
      obtain ⟨hj, rfl⟩ := get_range (n := 3) hy
      refine ⟨_, κ, ?_, rfl, some (.int j), rfl⟩
      have e4 : blt1D .repr (.fz (.lst [.str "facts", x])) = some (.fz (.str t)) := by simp [blt1D, ht1]
      have e5 : blt1D .repr (.ol none [.str "facts", x]) = some (.fz (.str t)) := by simp [blt1D, ht1]
      simp -implicitDefEqProofs [sizeLine_eq, startS, wipeS, assignT, assign1, setAt_eq, isTy, told_ok n hm j hj, e4, e5, eqD_str ht2 ht2]
    · rintro σ κ ⟨rfl, z, rfl⟩
      simp -implicitDefEqProofs [sizeLine_eq, startS, wipeS, assignT, assign1, setAt_eq, isTy, ]
      exact ⟨fun d hd' => hx d (by simp [hd']), ⟨some x, rfl⟩, ⟨z, rfl⟩⟩
  · rintro σ κ' ⟨rfl, _, w, z, rfl⟩
    simp -implicitDefEqProofs [sizeLine_eq, startS, wipeS, assignT, assign1, setAt_eq, isTy, unlockAll]
    exact g

theorem sys_split : Pr.b__law_systems_right = .cons (sN 0 Pr.b__law_systems_right) (.cons (sN 1 Pr.b__law_systems_right) (.cons (sN 2 Pr.b__law_systems_right) (.cons (sN 3 Pr.b__law_systems_right)
  (.cons (sN 4 Pr.b__law_systems_right) (.cons (sN 5 Pr.b__law_systems_right) (.cons (sN 6 Pr.b__law_systems_right) (sR 7 Pr.b__law_systems_right))))))) := rfl
theorem sys_split2 : sR 7 Pr.b__law_systems_right = .cons (sN 7 Pr.b__law_systems_right) (.cons (sN 8 Pr.b__law_systems_right) (.cons (sN 9 Pr.b__law_systems_right) (sR 10 Pr.b__law_systems_right))) := rfl
theorem rowB_no {m : Int} {r : Row} (h : ¬ (r.fs.length : Int) = m) : rowB m (rowD r) = false := by
  simp only [rowD, sgD, rowB, List.length_map, decide_eq_false h, Bool.false_and]
theorem li_row (r : Row) : blt1D .list (.fz (rowD r)) = some (.ol none [.tup (r.fs.map .int), sgD r.st, .int r.num]) := rfl
theorem sl_row (r : Row) : slcD none (some 2) (rowD r) = some (.fz (.tup [.tup (r.fs.map .int), sgD r.st])) := rfl
theorem el_mid {m : Nat} (hm : m ≤ 7) {rows : List Row} (hr : ∀ r ∈ rows, DrOk m 1000 r) {d : D} (hd : El d) : (∀ x ∈ rows.map rowD ++ [d], El x) ∧ (∀ x ∈ [d] ++ rows.map rowD, El x) := by
  have h1 : ∀ x ∈ rows.map rowD, El x := fun x hx => by
    obtain ⟨r, hr', rfl⟩ := List.mem_map.mp hx
    exact el_row hm (hr r hr')
  constructor
  · intro x hx
    rcases List.mem_append.mp hx with h | h
    · exact h1 x h
    · simp only [List.mem_singleton, id] at h
      subst h
      exact hd
  · intro x hx
    rcases List.mem_append.mp hx with h | h
    · simp only [List.mem_singleton, id] at h
      subst h
      exact hd
    · exact h1 x h
/-- rows with a bad one -/
theorem odd_last {m : Nat} (hm : m ≤ 7) {rows : List Row} (hl : rows.length ≤ 8) (hr : ∀ r ∈ rows, DrOk m 1000 r) {d : D} (hd : El d) (hf : rowB m d = false) :
    OddS (.tup [.int m, .tup (rows.map rowD ++ [d])]) ∧ OddS (.tup [.int m, .tup ([d] ++ rows.map rowD)]) := by
  obtain ⟨h1, h2⟩ := el_mid hm hr hd
  exact ⟨odd_rows (by omega) (by simp; omega) h1 (bad := d) (by simp) hf, odd_rows (by omega) (by simp; omega) h2 (bad := d) (by simp) hf⟩
theorem sys_mid (n : Nat) {κ : Cells} {Q : D → Cells → Prop} {m : Nat} (hm : m ≤ 7) {rows : List Row} (hl : rows.length ≤ 8) (hr : ∀ r ∈ rows, DrOk m 1000 r) {r : Row} (hr0 : DrOk m 1000 r)
    (ds : List D) (hd : ∀ d ∈ ds, OddS d) (hdl : ds.length = 15) (g : Q (.bl true) κ) (a e : Option O) :
    Good (exec (Gm (n + 6)) (sR 7 Pr.b__law_systems_right) [a, some (.fz (.int m)), some (.fz (.tup (rows.map rowD))), e, some (.fz (rowD r)), some (.ol none ds), none, none, none, none, none] κ) Q := by
  have hT := fun (ds : List D) (hd : ∀ d ∈ ds, OddS d) (u v : Option D) => sys_tail n (κ := κ) (Q := Q) ds hd g a (some (.fz (.int m))) (some (.fz (.tup (rows.map rowD)))) e (some (.fz (rowD r))) u v
  rw [sys_split2]
  generalize sR 10 Pr.b__law_systems_right = R at hT
  have hb : ∀ d : D, (rows.map rowD).length + [d].length ≤ sizeLine := fun d => by rw [sizeLine_eq]; simp; omega
  have hb' : ∀ d : D, [d].length + (rows.map rowD).length ≤ sizeLine := fun d => by rw [sizeLine_eq]; simp; omega
  have pf : Pt (.tup (r.fs.map .int)) := (pt_seq (by have := hr0.len; simp; omega) (fs_lo hr0)).1
  have pn : Pt (.int r.num) := pt_int _ (by have := hr0.num; omega)
  simp -implicitDefEqProofs [sizeLine_eq, startS, wipeS, assignT, assign1, setAt_eq, isTy, Pr.b__law_systems_right, sN]
  refine good_for1 (I := fun j σ κ' => κ' = κ ∧ j ≤ 5 ∧ ∃ (ds : List D) (u : Option D), ds.length = 15 + j ∧ (∀ d ∈ ds, OddS d) ∧
    σ = [a, some (.fz (.int m)), some (.fz (.tup (rows.map rowD))), e, some (.fz (rowD r)), some (.ol none ds), Option.map O.fz u, none, none, none, none]) ?_ ?_ ?_
  · exact ⟨rfl, by omega, ds, none, hdl, hd, rfl⟩
  · rintro j x σ κ' hx ⟨rfl, hj, ds, u, hdl, hd, rfl⟩
    have hxb : Pt x ∧ rowB m (.tup [.tup (r.fs.map .int), x, .int r.num]) = false := by
      have := List.mem_of_getElem? hx
      simp only [List.mem_cons, List.not_mem_nil, or_false] at this
      rcases this with rfl | rfl | rfl | rfl | rfl
      · exact ⟨pt_str (by decide +kernel), by simp only [rowB, show sgB "<" = false by decide +kernel, Bool.and_false]⟩
      · exact ⟨pt_str (by decide +kernel), by simp only [rowB, show sgB "=>" = false by decide +kernel, Bool.and_false]⟩
      · exact ⟨pt_non, rfl⟩
      · exact ⟨pt_str (by decide +kernel), by simp only [rowB, show sgB "" = false by decide +kernel, Bool.and_false]⟩
      · exact ⟨pt_str (by decide +kernel), by simp only [rowB, show sgB ">=>" = false by decide +kernel, Bool.and_false]⟩
    have hj3 : j < 5 := by
      rcases Nat.lt_or_ge j 5 with h' | h'
      · exact h'
      · rw [List.getElem?_eq_none (by simpa using h')] at hx; simp at hx
    have hdz : ds.length < 16777216 := by omega
    have ho := (odd_last hm hl hr (el_3 pf hxb.1 pn) hxb.2).1
    refine ⟨_, κ', ?_, rfl, by omega, ds ++ [.tup [.int m, .tup (rows.map rowD ++ [.tup [.tup (r.fs.map .int), x, .int r.num]])]], some x, by simp [hdl]; omega, ?_, rfl⟩
    · simp -implicitDefEqProofs [sizeLine_eq, startS, wipeS, assignT, assign1, setAt_eq, isTy, b_addT (hb _), hdz]
    · intro y hy
      rcases List.mem_append.mp hy with h | h
      · exact hd y h
      · simp only [List.mem_singleton, id] at h
        subst h
        exact ho
  · rintro σ κ' ⟨rfl, hj, ds, u, hdl, hd, rfl⟩
    simp only [List.length_cons, List.length_nil] at hdl
    simp -implicitDefEqProofs [sizeLine_eq, startS, wipeS, assignT, assign1, setAt_eq, isTy, ]
    refine good_for1 (I := fun j σ κ => κ = κ' ∧ j ≤ 4 ∧ ∃ (ds : List D) (v : Option D), ds.length = 20 + j ∧ (∀ d ∈ ds, OddS d) ∧
      σ = [a, some (.fz (.int m)), some (.fz (.tup (rows.map rowD))), e, some (.fz (rowD r)), some (.ol none ds), Option.map O.fz u, Option.map O.fz v, none, none, none]) ?_ ?_ ?_
    · exact ⟨rfl, by omega, ds, none, by omega, hd, rfl⟩
    · rintro j x σ κ hx ⟨rfl, hj, ds, v, hdl, hd, rfl⟩
      have hxb : Pt x ∧ rowB m (.tup [.tup (r.fs.map .int), sgD r.st, x]) = false := by
        have := List.mem_of_getElem? hx
        simp only [List.mem_cons, List.not_mem_nil, or_false] at this
        rcases this with rfl | rfl | rfl | rfl
        · exact ⟨pt_bl _, rfl⟩
        · exact ⟨pt_str (by decide +kernel), rfl⟩
        · exact ⟨pt_non, rfl⟩
        · exact ⟨pt_lo lo_11, rfl⟩
      have hj3 : j < 4 := by
        rcases Nat.lt_or_ge j 4 with h' | h'
        · exact h'
        · rw [List.getElem?_eq_none (by simpa using h')] at hx; simp at hx
      have hdz : ds.length < 16777216 := by omega
      have ho := (odd_last hm hl hr (el_3 pf (pt_sg r.st) hxb.1) hxb.2).2
      refine ⟨_, κ, ?_, rfl, by omega, ds ++ [.tup [.int m, .tup ([.tup [.tup (r.fs.map .int), sgD r.st, x]] ++ rows.map rowD)]], some x, by simp [hdl]; omega, ?_, rfl⟩
      · simp -implicitDefEqProofs [sizeLine_eq, startS, wipeS, assignT, assign1, setAt_eq, isTy, -List.singleton_append, -List.cons_append, b_addT (hb' _), hdz]
      · intro y hy
        rcases List.mem_append.mp hy with h | h
        · exact hd y h
        · simp only [List.mem_singleton, id] at h
          subst h
          exact ho
    · rintro σ κ ⟨rfl, hj, ds, v, hdl, hd, rfl⟩
      simp only [List.length_cons, List.length_nil] at hdl
      have hdz : ds.length < 16777216 := by omega
      have hdz2 : ds.length + 1 < 16777216 := by omega
      by_cases hm0 : 0 < m
      · have hlen := hr0.len
        have cm := cut_m1 (r.fs.map D.int) (by simp; omega)
        rw [List.length_map] at cm
        have hbf : ∀ d : D, ((r.fs.map D.int).take (r.fs.length - 1)).length + [d].length ≤ sizeLine := fun d => by rw [sizeLine_eq]; simp; omega
        have hpt : ∀ d : D, Lo d → whole d = false → Pt (.tup ((r.fs.map D.int).take (r.fs.length - 1) ++ [d])) ∧ ∀ c e : D, rowB m (.tup [.tup ((r.fs.map D.int).take (r.fs.length - 1) ++ [d]), c, e]) = false := by
          intro d hd hw
          constructor
          · refine (pt_seq (by simp; omega) ?_).1
            intro x hx
            rcases List.mem_append.mp hx with h | h
            · exact fs_lo hr0 x (List.mem_of_mem_take h)
            · simp only [List.mem_singleton, id] at h
              subst h
              exact hd
          · intro c e
            have : ((r.fs.map D.int).take (r.fs.length - 1) ++ [d]).all whole = false := List.all_eq_false.mpr ⟨d, by simp, by simp [hw]⟩
            cases c <;> cases e <;> first | rfl | simp only [rowB, this, Bool.and_false, Bool.false_and]
        have ht := hpt (.bl true) (lo_bl _) rfl
        have h1 := hpt (.tup [.int 1, .int 1]) lo_11 rfl
        have o1 := (odd_last hm hl hr (el_3 ht.1 (pt_sg r.st) pn) (ht.2 _ _)).1
        have o2 := (odd_last hm hl hr (el_3 h1.1 (pt_sg r.st) pn) (h1.2 _ _)).1
        simp -implicitDefEqProofs [sizeLine_eq, startS, wipeS, assignT, assign1, setAt_eq, isTy, -List.map_take, hm0, cm, b_addT (hbf _), b_addT (hb _), hdz, hdz2]
        refine hT _ ?_ u v
        intro d hd'
        simp only [List.mem_append, List.mem_cons, List.not_mem_nil, or_false] at hd'
        rcases hd' with h | rfl | rfl
        · exact hd d h
        · exact o1
        · exact o2
      · simp -implicitDefEqProofs [sizeLine_eq, startS, wipeS, assignT, assign1, setAt_eq, isTy, hm0]
        exact hT ds hd u v
end R

/-! M21: is_system is right; the law's pen; the law. -/
namespace R
open PySem L2
theorem systems_ok (n : Nat) {N : Nat} {κ : Cells} (hk : PenK N κ) (hN : N ≤ 600000) {m : Nat} (hm : m ≤ 7) :
    ∃ (κ' : Cells), callN P0 (n + 7) 43 [.obj 0, .int m] κ = .ok (.bl true, κ') ∧ PenK (N + 200) κ' := by
  suffices h : ∃ d κ', callN P0 (n + 7) 43 [.obj 0, .int m] κ = .ok (d, κ') ∧ (d = .bl true ∧ PenK (N + 200) κ') by
    obtain ⟨d, κ', h, rfl, h2⟩ := h
    exact ⟨κ', h, h2⟩
  refine good_callQ (fn := ⟨2, 11, Pr.b__law_systems_right⟩) rfl rfl fun Q hQ => ?_
  have hT := fun (κ : Cells) (hk : PenK (N + 200) κ) (rows : List Row) (hl : rows.length ≤ 8) hr (r : Row) hr0 (ds : List D) hd hdl (a e : Option O) =>
    sys_mid n (κ := κ) (Q := Q) (m := m) hm (rows := rows) hl hr (r := r) hr0 ds hd hdl (hQ _ _ ⟨rfl, hk⟩) a e
  rw [show (⟨2, 11, Pr.b__law_systems_right⟩ : Fn).body = Pr.b__law_systems_right from rfl, sys_split]
  generalize sR 7 Pr.b__law_systems_right = R at hT
  obtain ⟨k, κ1, e1, g1, g2, hk1⟩ := draw' (n + 5) hk (by omega) 8 (by omega) (by omega)
  obtain ⟨i, rfl⟩ := Int.eq_ofNat_of_zero_le g1
  have er : rangeD 0 (1 + (i : Int)) = some ((List.range (1 + i)).map fun (k : Nat) => D.int (k : Int)) := by
    have := range_nat (n := 1 + i) (by omega)
    rwa [Int.natCast_add, Int.natCast_one] at this
  simp -implicitDefEqProofs [sizeLine_eq, startS, wipeS, assignT, assign1, setAt_eq, isTy, Pr.b__law_systems_right, sN, e1, er]
  generalize hC : compD _ _ _ _ = C
  have hC' := good_compC (I := fun j κ => j ≤ 1 + i ∧ PenK (N + 1 + 22 * j) κ) (T := fun y => ∃ r, y = rowD r ∧ DrOk m 1000 r) hC (⟨Nat.zero_le _, hk1⟩) (by
    rintro j x κ1 hx ⟨hj, hk1⟩
    obtain ⟨hj, rfl⟩ := get_range hx
    obtain ⟨r, κ2, e, hr, hk2⟩ := lrow_ok (n + 3) hk1 m 1000 (by omega) (by decide) (by omega)
    refine ⟨rowD r, κ2, ?_, ⟨hj, hk2.up (by omega)⟩, r, rfl, hr⟩
    simp -implicitDefEqProofs [sizeLine_eq, startS, wipeS, assignT, assign1, setAt_eq, isTy, show callN P0 (n + 6) 33 [.obj 0, .int m, .int 1000] κ1 = _ from e])
  clear hC
  simp only [List.length_map, List.length_range] at hC'
  obtain ⟨ys, κ2, rfl, hl, ⟨-, hk2⟩, hy⟩ := hC'
  obtain ⟨rows, rfl, hr⟩ := list_of hy
  rw [List.length_map] at hl
  have hz1 : rows.length < 16777216 := by omega
  obtain ⟨r, rs, rfl⟩ : ∃ r rs, rows = r :: rs := by
    cases rows with
    | nil => simp at hl; omega
    | cons r rs => exact ⟨r, rs, rfl⟩
  have hr0 := hr r (by simp)
  have hlen := hr0.len
  have hl8 : (r :: rs).length ≤ 8 := by omega
  have hsys : SysOk m (r :: rs) := ⟨by omega, by omega, fun x hx => (hr x hx).row (by decide)⟩
  have hsys0 : SysOk m [] := ⟨by simp, by omega, by simp⟩
  have e2 := sys_ok (n + 3) (sysD m (r :: rs)) κ2 hsys.nice
  rw [hsys.sys] at e2
  have e3 := sys_ok (n + 3) (sysD m []) κ2 hsys0.nice
  rw [hsys0.sys] at e3
  have i0 : atI ((r :: rs).map rowD) 0 = some (rowD r) := atI_nat (j := 0) rfl
  have esys : D.tup [.int m, .tup ((r :: rs).map rowD)] = sysD m (r :: rs) := rfl
  have esys0 : D.tup [.int m, .tup []] = sysD m [] := rfl
  have hb : ∀ d : D, ((r :: rs).map rowD).length + [d].length ≤ sizeLine := fun d => by rw [sizeLine_eq]; simp at hz1 ⊢; omega
  have hbf : ∀ d : D, (r.fs.map D.int).length + [d].length ≤ sizeLine := fun d => by rw [sizeLine_eq]; simp; omega
  have hb3 : ∀ a b c d e f g h i j k l o : D, [a, b, c, d, e, f, g, h, i].length + [j, k, l, o].length ≤ sizeLine := fun a b c d e f g h i j k l o => by rw [sizeLine_eq]; simp
  generalize hR : (r :: rs) = rows at *
  have hz1 : rows.length < 16777216 := by omega
  have ex : Rp 4 520100 (.tup (rows.map rowD)) ∧ Rp 4 520100 (.lst (rows.map rowD)) ∧ (D.tup (rows.map rowD)).nice = true ∧ (D.lst (rows.map rowD)).nice = true := rows_rp (by simp; omega) (fun x hx => by
    obtain ⟨y, hy, rfl⟩ := (List.mem_map.mp hx)
    exact el_row hm (hr y hy))
  obtain ⟨x1, x2, x3, x4⟩ := ex
  have pr : Pa (.tup (rows.map rowD)) := ⟨x3, x1⟩
  have pl : Pa (.lst (rows.map rowD)) := ⟨x4, x2⟩
  have pf : Pt (.tup (r.fs.map .int)) ∧ Pt (.lst (r.fs.map .int)) := pt_seq (by simp; omega) (fs_lo hr0)
  have pn : Pt (.int r.num) := pt_int _ (by have := hr0.num; omega)
  have two : ∀ {a b : D}, Pa a → Pa b → ∀ x ∈ [a, b], Pa x := fun ha hb x hx => by
    simp only [List.not_mem_nil, or_false, List.mem_cons] at hx
    rcases hx with rfl | rfl
    · exact ha
    · exact hb
  simp -implicitDefEqProofs [sizeLine_eq, startS, wipeS, assignT, assign1, setAt_eq, isTy, hz1, exec.exec1, exec.evos, exec.assignO, i0, esys, esys0, e2, e3, li_row, sl_row, b_addT (hb _), b_addT (hbf _), b_addL (hb3 _ _ _ _ _ _ _ _ _ _ _ _ _)]
  refine hT κ2 (hk2.up (by omega)) rows hl8 hr r hr0 _ ?_ ?_ _ _
  · intro d hd
    simp only [List.mem_cons, List.not_mem_nil, or_false] at hd
    have pm : Pa (.int m) := pa_int _ (by omega)
    have ha : ∀ k : Int, ¬ (m : Int) = k → (rows.map rowD).all (rowB k) = false := fun k hk => by
      rw [← hR]
      exact List.all_eq_false.mpr ⟨rowD r, by simp, by
        rw [rowB_no (by rw [hlen]; exact hk)]
        simp⟩
    have s2 : ∀ a b : D, [a, b].length ≤ 3 := fun a b => by simp
    rcases hd with rfl | rfl | rfl | rfl | rfl | rfl | rfl | rfl | rfl | rfl | rfl | rfl | rfl | rfl | rfl
    · exact ⟨nice_non, rfl, rp_non.up (by decide) (by decide)⟩
    · exact odd_t (by simp) (by simp) rfl
    · exact ⟨x3, sysB_rows rows, x1.up (by decide) (by decide)⟩
    · exact odd_l (s2 _ _) (two pm pr)
    · exact odd_t (s2 _ _) (two pm pl) rfl
    · refine odd_t (s2 _ _) (two (pa_int _ (by omega)) pr) ?_
      simp only [sysB, ha _ (show ¬ (m : Int) = (m : Int) + 1 by omega), Bool.and_false]
    · refine odd_t (s2 _ _) (two (pa_int _ (by omega)) pr) ?_
      simp only [sysB, decide_eq_false (show ¬ (0 : Int) ≤ -1 by decide), Bool.false_and]
    · exact odd_t (s2 _ _) (two (pa_bl _) pr) rfl
    · exact odd_t (s2 _ _) (two pa_non pr) rfl
    · exact (odd_last hm hl8 hr el_non rfl).1
    · refine (odd_last hm hl8 hr (el_t (by simp) ?_).1 rfl).1
      intro x hx
      simp only [List.not_mem_nil, or_false, List.mem_cons] at hx
      rcases hx with rfl | rfl
      · exact pf.1
      · exact pt_sg _
    · refine (odd_last hm hl8 hr (el_t (by simp) ?_).2 rfl).1
      intro x hx
      simp only [List.not_mem_nil, or_false, List.mem_cons] at hx
      rcases hx with rfl | rfl | rfl
      · exact pf.1
      · exact pt_sg _
      · exact pn
    · refine odd_t (by simp) ?_ rfl
      intro x hx
      simp only [List.not_mem_nil, or_false, List.mem_cons] at hx
      rcases hx with rfl | rfl | rfl
      · exact pm
      · exact pr
      · exact ⟨nice_t (by simp) (by simp), (rp_tup (k := 0) (b := 0) (xs := []) (by simp)).up (by decide) (by simp)⟩
    · exact (odd_last hm hl8 hr (el_3 pf.2 (pt_sg _) pn) rfl).1
    · refine (odd_last hm hl8 hr (el_3 (pt_seq (by simp; omega) ?_).1 (pt_sg _) pn) ?_).1
      · intro x hx
        rcases List.mem_append.mp hx with h | h
        · exact fs_lo hr0 x h
        · simp only [List.mem_singleton, id] at h
          subst h
          exact lo_int _ (by decide)
      · have : ¬ (((r.fs.map D.int ++ [D.int 0]).length : Int) = (m : Int)) := by simp; omega
        simp only [rowB, sgD, decide_eq_false this, Bool.false_and]
  · rfl
theorem lpen_ok (n : Nat) (xs : List Int) : ∃ κ, callN P0 (n + 1) 27 [.scr (xs.map .int)] [] = .ok (.obj 0, κ) ∧ PenK 0 κ := by
  suffices h : ∃ d κ, callN P0 (n + 1) 27 [.scr (xs.map .int)] [] = .ok (d, κ) ∧ (d = .obj 0 ∧ PenK 0 κ) by
    obtain ⟨d, κ', h, rfl, h2⟩ := h
    exact ⟨κ', h, h2⟩
  refine good_callQ (fn := ⟨1, 3, Pr.b__law_pen⟩) rfl rfl fun Q hQ => ?_
  simp -implicitDefEqProofs [sizeLine_eq, startS, wipeS, assignT, assign1, setAt_eq, isTy, Pr.b__law_pen]
  refine good_for (I := fun ys σ κ => κ = [] ∧ ∃ (zs : List Int) (f : Int) (u : Option D), ys = zs.map .int ∧ 0 ≤ f ∧ f < 2147483497 ∧
    σ = [some (.fz (.scr (xs.map .int))), some (.fz (.int f)), Option.map O.fz u]) ?_ ?_ ?_
  · exact ⟨rfl, xs, 0, none, rfl, by decide, by decide, rfl⟩
  · rintro x ys σ κ ⟨rfl, zs, f, u, hz, h0, h1, rfl⟩
    cases zs with
    | nil => simp at hz
    | cons z zs =>
      simp only [List.map_cons, List.cons.injEq] at hz
      obtain ⟨rfl, rfl⟩ := hz
      have em : mulOk f 61 = true := mulOk_of (a := 40) (b := 10) (by omega) (by decide) (by decide)
      have h2 := Int.fmod_nonneg_of_pos (f * 61 + z) (show (0 : Int) < 1000000123 by decide)
      have h3 := Int.fmod_lt_of_pos (f * 61 + z) (show (0 : Int) < 1000000123 by decide)
      refine ⟨_, [], ?_, rfl, zs, (f * 61 + z).fmod 1000000123, some (.int z), rfl, h2, by omega, rfl⟩
      simp -implicitDefEqProofs [sizeLine_eq, startS, wipeS, assignT, assign1, setAt_eq, isTy, b_mul em, b_mod (show (1000000123 : Int) ≠ 0 by decide)]
  · rintro σ κ ⟨rfl, zs, f, u, hz, h0, h1, rfl⟩
    simp -implicitDefEqProofs [sizeLine_eq, startS, wipeS, assignT, assign1, setAt_eq, isTy, ]
    rw [if_pos (by decide +kernel)]
    have ek : putP (putP (putP (putP (putP [] (Sum.inr (Str.ofString "cells")) (D.lst (List.map D.int xs))) (Sum.inr (Str.ofString "at")) (D.int 0)) (Sum.inr (Str.ofString "digits")) (D.int 0))
        (Sum.inr (Str.ofString "count")) (D.int 0)) (Sum.inr (Str.ofString "fold")) (D.int f) = Pen.kv ⟨xs, 0, 0, 0, f⟩ := rfl
    rw [ek]
    simp -implicitDefEqProofs [sizeLine_eq, startS, wipeS, assignT, assign1, setAt_eq, isTy, ]
    exact hQ _ _ ⟨rfl, ⟨xs, 0, 0, 0, f⟩, rfl, ⟨Int.le_refl _, Nat.le_refl _, h0, h1⟩⟩
theorem law_true (n : Nat) (xs : List Int) : ∃ κ, callN P0 (n + 8) 44 [.scr (xs.map .int)] [] = .ok (.bl true, κ) := by
  suffices h : ∃ d κ, callN P0 (n + 8) 44 [.scr (xs.map .int)] [] = .ok (d, κ) ∧ d = .bl true by
    obtain ⟨d, κ', h, rfl⟩ := h
    exact ⟨κ', h⟩
  refine good_callQ (fn := ⟨1, 4, Pr.b_law⟩) rfl rfl fun Q hQ => ?_
  obtain ⟨κ0, e0, hk0⟩ := lpen_ok (n + 6) xs
  have e4 : rangeD 0 4 = some ((List.range 4).map fun (k : Nat) => D.int (k : Int)) := range_nat (n := 4) (by decide)
  simp -implicitDefEqProofs [sizeLine_eq, startS, wipeS, assignT, assign1, setAt_eq, isTy, Pr.b_law, e0, e4]
  refine good_for1 (I := fun j σ κ => j ≤ 4 ∧ PenK (1000 * j) κ ∧ ∃ (u v : Option D), σ = [some (.fz (.scr (xs.map .int))), some (.fz (.obj 0)), Option.map O.fz u, Option.map O.fz v]) ?_ ?_ ?_
  · exact ⟨by decide, hk0, none, none, rfl⟩
  · rintro j x σ κ hx ⟨hj, hk, u, v, rfl⟩
    obtain ⟨hj, rfl⟩ := get_range (n := 4) hx
    obtain ⟨k, κ1, e1, g1, g2, hk1⟩ := draw' (n + 6) hk (by omega) 7 (by omega) (by omega)
    obtain ⟨i, rfl⟩ := Int.eq_ofNat_of_zero_le g1
    obtain ⟨κ2, e2, hk2⟩ := refuted_ok (n + 1) hk1 (by omega) (m := i) (by omega)
    obtain ⟨κ3, e3, hk3⟩ := kept_ok (n + 1) hk2 (by omega) (m := i) (by omega)
    obtain ⟨κ4, e5, hk4⟩ := systems_ok n hk3 (by omega) (m := i) (by omega)
    refine ⟨_, κ4, ?_, hj, hk4.up (by omega), some (.int j), some (.int i), rfl⟩
    simp -implicitDefEqProofs [sizeLine_eq, startS, wipeS, assignT, assign1, setAt_eq, isTy, e1, e2, e3, e5]
  · rintro σ κ ⟨hj, hk, u, v, rfl⟩
    simp -implicitDefEqProofs [sizeLine_eq, startS, wipeS, assignT, assign1, setAt_eq, isTy, ]
    exact hQ _ _ rfl
end R

namespace My
open L2 PyProof.Rows PySem.Spec PySem
def top (i : Nat) : Stmt := PySem.Challenge.pw_seldomsteps_k38_systems_judged.main.body.getD i (.Pass ⟨0, 0, 0, 0⟩)
abbrev dF (x : Str) (i : Nat) : He.DefD := ⟨(x, none), x, x, defArgs (top i), defBody (top i), defScope (top i), [], []⟩
abbrev dM (C m q : Str) (i j : Nat) : He.DefD := ⟨(C, some m), m, q, defArgs (inClass (top i) j), defBody (inClass (top i) j), defScope (inClass (top i) j), [], []⟩
def fn : List He.DefD := [dM "BadFacts" "__init__" "BadFacts.__init__" 3 0,
  dF "is_whole" 4,
  dF "is_count" 5,
  dF "is_fraction" 7,
  dF "fraction_of" 8,
  dF "added" 9,
  dF "is_less" 10,
  dM "Refuted" "__init__" "Refuted.__init__" 12 0,
  dM "Refuted" "__eq__" "Refuted.__eq__" 12 1,
  dF "is_row" 13,
  dF "is_system" 14,
  dF "need_system" 15,
  dF "sum_at" 16,
  dF "keeps_row" 17,
  dF "is_point" 18,
  dF "keeps" 19,
  dF "are_refuting" 20,
  dF "refutes" 21,
  dM "Tableau" "__init__" "Tableau.__init__" 22 0,
  dM "Tableau" "exchange" "Tableau.exchange" 22 1,
  dM "Tableau" "entering" "Tableau.entering" 22 2,
  dM "Tableau" "is_nearer" "Tableau.is_nearer" 22 3,
  dM "Tableau" "leaving" "Tableau.leaving" 22 4,
  dM "Tableau" "improve" "Tableau.improve" 22 5,
  dM "Tableau" "get_ready" "Tableau.get_ready" 22 6,
  dM "Tableau" "aim" "Tableau.aim" 22 7,
  dM "Tableau" "reached" "Tableau.reached" 22 8,
  dM "Tableau" "worth_of" "Tableau.worth_of" 22 9,
  dM "Tableau" "price_of" "Tableau.price_of" 22 10,
  dF "solved" 23,
  dF "_law_pen" 25,
  dF "_law_draw" 26,
  dF "_law_pick" 27,
  dF "_law_shuffled" 28,
  dF "_law_frac" 29,
  dF "_law_add" 30,
  dF "_law_row" 31,
  dF "_law_keeps" 32,
  dF "_law_refuting" 33,
  dF "_law_is_integer" 34,
  dF "_law_planted" 35,
  dF "_law_is_right_refuted" 36,
  dF "_law_refuted_right" 37,
  dF "_law_point" 38,
  dF "_law_kept_right" 39,
  dF "_law_told" 40,
  dF "_law_systems_right" 41,
  dF "law" 42]
def fa : List He.Fa := ([.glo "is_whole", .glo "is_count", .glo "is_fraction", .glo "fraction_of", .glo "added", .glo "is_less", .glo "is_row", .glo "is_system", .glo "need_system", .glo "sum_at", .glo "keeps_row", .glo "is_point", .glo "keeps", .glo "are_refuting", .glo "refutes", .glo "solved", .glo "_law_pen", .glo "_law_draw", .glo "_law_pick", .glo "_law_shuffled", .glo "_law_frac", .glo "_law_add", .glo "_law_row", .glo "_law_keeps", .glo "_law_refuting", .glo "_law_is_integer", .glo "_law_planted", .glo "_law_is_right_refuted", .glo "_law_refuted_right", .glo "_law_point"] : List He.Fa) ++ ([.glo "_law_kept_right", .glo "_law_told", .glo "_law_systems_right", .glo "law", .free "len", .free "isinstance", .free "all", .free "tuple", .free "list", .free "range", .free "zip", .free "repr", .free "abs", .free "int", .free "bool", .free "str", .free "dict", .free "any", .free "sum", .free "min", .free "max", .free "sorted", .free "enumerate", .glo "Refuted", .glo "RareError", .glo "BadFacts", .cls "Refuted", .noat "Refuted" "multipliers", .mkr "Refuted", .exm "BadFacts" "RareError" true] : List He.Fa) ++ ([.exm "BadFacts" "BadFacts" true, .meth "Refuted" "__eq__"] : List He.Fa)
def fx : List R.Fx := [.ins "Refuted", .nf "Refuted", .oex "BadFacts", .exg "BadFacts" "facts", .gcd]
def loose : List Str := (["RareError", "BadFacts", "is_whole", "is_count", "is_fraction", "fraction_of", "added", "is_less", "Refuted", "is_row", "is_system", "need_system", "sum_at", "keeps_row", "is_point", "keeps", "are_refuting", "refutes", "Tableau", "solved", "_law_pen", "_law_draw", "_law_pick", "_law_shuffled", "_law_frac", "_law_add", "_law_row", "_law_keeps", "_law_refuting", "_law_is_integer"] : List Str) ++ (["_law_planted", "_law_is_right_refuted", "_law_refuted_right", "_law_point", "_law_kept_right", "_law_told", "_law_systems_right", "__name__"] : List Str)
abbrev Ro : PySem.W.OpenRow := PySem.W.OpenLaw.row PySem.Challenge.rw_seldomsteps_k38_systems_judged
abbrev hk : PySem.W.Hook := R.hookX 4 fa fn fx
def ob (s : PySem.W.SharedT) : He.AlD × Bool := R.obsX 4 fa fn fx (HandSHeadRun.getT s)
theorem ob_eq (s : PySem.W.SharedT) : ob s = hk.obs s.abs := R.obsX_eq (HandSHeadRun.getT_eq s)
theorem run (w : World) : HandSHeadRun.RunEqI Ro (PySem.W.view Ro.prog [0, 42]) hk ob 20000 loose w := by
  unfold HandSHeadRun.RunEqI
  kernel_rfl
end My

/-! the facts of a law's head, as prog_ok asks for them -/
namespace My
open PySem PySem.Spec PyProof.Rows L2 R
def sg : Sg := ⟨(["is_whole", "is_count", "is_fraction", "fraction_of", "added", "is_less", "", "is_row", "is_system", "need_system", "sum_at", "keeps_row", "is_point", "keeps", "are_refuting", "refutes", "", "", "", "", "", "", "", "", ""] : List Str) ++ (["", "solved", "_law_pen", "_law_draw", "_law_pick", "_law_shuffled", "_law_frac", "_law_add", "_law_row", "_law_keeps", "_law_refuting", "_law_is_integer", "_law_planted", "_law_is_right_refuted", "_law_refuted_right", "_law_point", "_law_kept_right", "_law_told", "_law_systems_right", "law"] : List Str), [("RareError", ([] : List Str)), ("BadFacts", (["facts"] : List Str)), ("Refuted", (["multipliers"] : List Str)), ("Tableau", (["tasks"] : List Str))], ([] : List Str), true, [2], [0, 1]⟩
abbrev Pw : Prog := R.Pr.prog 1
def tb (K : PySem.W.Frag) : Tb := ⟨K, fun c => if c = 2 then some (He.ga K "Refuted", ["multipliers"]) else none, fun c => if c = 1 then some (He.ga K "BadFacts", ["facts"]) else none⟩
section
variable {K : PySem.W.Frag}
theorem fit_0 : fitB sg Pw.sub ⟨1, 1, Pr.b_is_whole⟩ (top 4) ((["value"] : List Str)) ["value"] = true := by
  decide +kernel
theorem df_0 (c : He.SaysD fa fn K) : ∃ (fd : FuncData), Def K sg Pw 0 (He.ga K "is_whole") fd ["value"] ∧ PySem.W.keepIn K (.ref (He.ga K "is_whole")) = true := by
  obtain ⟨fd, F⟩ := c.def_ 1 (d := dF "is_whole" 4) rfl
  exact ⟨fd, ⟨"is_whole", "is_whole", (top 4), _, _, rfl, F, fit_0, F.bindsN fun _ _ _ _ _ _ us hl => match us, hl with | [_], _ => rfl⟩, F.kp⟩
theorem fit_1 : fitB sg Pw.sub ⟨1, 1, Pr.b_is_count⟩ (top 5) ((["value"] : List Str)) ["value"] = true := by
  decide +kernel
theorem df_1 (c : He.SaysD fa fn K) : ∃ (fd : FuncData), Def K sg Pw 1 (He.ga K "is_count") fd ["value"] ∧ PySem.W.keepIn K (.ref (He.ga K "is_count")) = true := by
  obtain ⟨fd, F⟩ := c.def_ 2 (d := dF "is_count" 5) rfl
  exact ⟨fd, ⟨"is_count", "is_count", (top 5), _, _, rfl, F, fit_1, F.bindsN fun _ _ _ _ _ _ us hl => match us, hl with | [_], _ => rfl⟩, F.kp⟩
theorem fit_2 : fitB sg Pw.sub ⟨1, 2, Pr.b_is_fraction⟩ (top 7) ((["value", "item"] : List Str)) ["value"] = true := by
  decide +kernel
theorem df_2 (c : He.SaysD fa fn K) : ∃ (fd : FuncData), Def K sg Pw 2 (He.ga K "is_fraction") fd ["value"] ∧ PySem.W.keepIn K (.ref (He.ga K "is_fraction")) = true := by
  obtain ⟨fd, F⟩ := c.def_ 3 (d := dF "is_fraction" 7) rfl
  exact ⟨fd, ⟨"is_fraction", "is_fraction", (top 7), _, _, rfl, F, fit_2, F.bindsN fun _ _ _ _ _ _ us hl => match us, hl with | [_], _ => rfl⟩, F.kp⟩
theorem fit_3 : fitB sg Pw.sub ⟨2, 3, Pr.b_fraction_of⟩ (top 8) ((["top", "bottom", "shared"] : List Str)) ["top", "bottom"] = true := by
  decide +kernel
theorem df_3 (c : He.SaysD fa fn K) : ∃ (fd : FuncData), Def K sg Pw 3 (He.ga K "fraction_of") fd ["top", "bottom"] ∧ PySem.W.keepIn K (.ref (He.ga K "fraction_of")) = true := by
  obtain ⟨fd, F⟩ := c.def_ 4 (d := dF "fraction_of" 8) rfl
  exact ⟨fd, ⟨"fraction_of", "fraction_of", (top 8), _, _, rfl, F, fit_3, F.bindsN fun _ _ _ _ _ _ us hl => match us, hl with | [_, _], _ => rfl⟩, F.kp⟩
theorem fit_4 : fitB sg Pw.sub ⟨2, 2, Pr.b_added⟩ (top 9) ((["first", "second"] : List Str)) ["first", "second"] = true := by
  decide +kernel
theorem df_4 (c : He.SaysD fa fn K) : ∃ (fd : FuncData), Def K sg Pw 4 (He.ga K "added") fd ["first", "second"] ∧ PySem.W.keepIn K (.ref (He.ga K "added")) = true := by
  obtain ⟨fd, F⟩ := c.def_ 5 (d := dF "added" 9) rfl
  exact ⟨fd, ⟨"added", "added", (top 9), _, _, rfl, F, fit_4, F.bindsN fun _ _ _ _ _ _ us hl => match us, hl with | [_, _], _ => rfl⟩, F.kp⟩
theorem fit_5 : fitB sg Pw.sub ⟨2, 2, Pr.b_is_less⟩ (top 10) ((["first", "second"] : List Str)) ["first", "second"] = true := by
  decide +kernel
theorem df_5 (c : He.SaysD fa fn K) : ∃ (fd : FuncData), Def K sg Pw 5 (He.ga K "is_less") fd ["first", "second"] ∧ PySem.W.keepIn K (.ref (He.ga K "is_less")) = true := by
  obtain ⟨fd, F⟩ := c.def_ 6 (d := dF "is_less" 10) rfl
  exact ⟨fd, ⟨"is_less", "is_less", (top 10), _, _, rfl, F, fit_5, F.bindsN fun _ _ _ _ _ _ us hl => match us, hl with | [_, _], _ => rfl⟩, F.kp⟩
theorem fit_6 : fitB sg Pw.sub ⟨2, 2, Pr.b_Refuted_eq⟩ (inClass (top 12) 1) ((["self", "other"] : List Str)) ["self", "other"] = true := by
  decide +kernel
theorem df_6 (c : He.SaysD fa fn K) : ∃ (fd : FuncData), Def K sg Pw 6 (He.ma K (He.ga K "Refuted") "__eq__") fd ["self", "other"] ∧ PySem.W.keepIn K (.ref (He.ma K (He.ga K "Refuted") "__eq__")) = true := by
  obtain ⟨fd, F⟩ := c.def_ 8 (d := dM "Refuted" "__eq__" "Refuted.__eq__" 12 1) rfl
  exact ⟨fd, ⟨"__eq__", "Refuted.__eq__", (inClass (top 12) 1), _, _, rfl, F, fit_6, F.bindsN fun _ _ _ _ _ _ us hl => match us, hl with | [_, _], _ => rfl⟩, F.kp⟩
theorem fit_7 : fitB sg Pw.sub ⟨2, 3, Pr.b_is_row⟩ (top 13) ((["value", "many", "factor"] : List Str)) ["value", "many"] = true := by
  decide +kernel
theorem df_7 (c : He.SaysD fa fn K) : ∃ (fd : FuncData), Def K sg Pw 7 (He.ga K "is_row") fd ["value", "many"] ∧ PySem.W.keepIn K (.ref (He.ga K "is_row")) = true := by
  obtain ⟨fd, F⟩ := c.def_ 9 (d := dF "is_row" 13) rfl
  exact ⟨fd, ⟨"is_row", "is_row", (top 13), _, _, rfl, F, fit_7, F.bindsN fun _ _ _ _ _ _ us hl => match us, hl with | [_, _], _ => rfl⟩, F.kp⟩
theorem fit_8 : fitB sg Pw.sub ⟨1, 2, Pr.b_is_system⟩ (top 14) ((["value", "row"] : List Str)) ["value"] = true := by
  decide +kernel
theorem df_8 (c : He.SaysD fa fn K) : ∃ (fd : FuncData), Def K sg Pw 8 (He.ga K "is_system") fd ["value"] ∧ PySem.W.keepIn K (.ref (He.ga K "is_system")) = true := by
  obtain ⟨fd, F⟩ := c.def_ 10 (d := dF "is_system" 14) rfl
  exact ⟨fd, ⟨"is_system", "is_system", (top 14), _, _, rfl, F, fit_8, F.bindsN fun _ _ _ _ _ _ us hl => match us, hl with | [_], _ => rfl⟩, F.kp⟩
theorem fit_9 : fitB sg Pw.sub ⟨1, 1, Pr.b_need_system⟩ (top 15) ((["value"] : List Str)) ["value"] = true := by
  decide +kernel
theorem df_9 (c : He.SaysD fa fn K) : ∃ (fd : FuncData), Def K sg Pw 9 (He.ga K "need_system") fd ["value"] ∧ PySem.W.keepIn K (.ref (He.ga K "need_system")) = true := by
  obtain ⟨fd, F⟩ := c.def_ 11 (d := dF "need_system" 15) rfl
  exact ⟨fd, ⟨"need_system", "need_system", (top 15), _, _, rfl, F, fit_9, F.bindsN fun _ _ _ _ _ _ us hl => match us, hl with | [_], _ => rfl⟩, F.kp⟩
theorem fit_10 : fitB sg Pw.sub ⟨2, 5, Pr.b_sum_at⟩ (top 16) ((["factors", "point", "found", "factor", "part"] : List Str)) ["factors", "point"] = true := by
  decide +kernel
theorem df_10 (c : He.SaysD fa fn K) : ∃ (fd : FuncData), Def K sg Pw 10 (He.ga K "sum_at") fd ["factors", "point"] ∧ PySem.W.keepIn K (.ref (He.ga K "sum_at")) = true := by
  obtain ⟨fd, F⟩ := c.def_ 12 (d := dF "sum_at" 16) rfl
  exact ⟨fd, ⟨"sum_at", "sum_at", (top 16), _, _, rfl, F, fit_10, F.bindsN fun _ _ _ _ _ _ us hl => match us, hl with | [_, _], _ => rfl⟩, F.kp⟩
theorem fit_11 : fitB sg Pw.sub ⟨2, 4, Pr.b_keeps_row⟩ (top 17) ((["row", "point", "amount", "number"] : List Str)) ["row", "point"] = true := by
  decide +kernel
theorem df_11 (c : He.SaysD fa fn K) : ∃ (fd : FuncData), Def K sg Pw 11 (He.ga K "keeps_row") fd ["row", "point"] ∧ PySem.W.keepIn K (.ref (He.ga K "keeps_row")) = true := by
  obtain ⟨fd, F⟩ := c.def_ 13 (d := dF "keeps_row" 17) rfl
  exact ⟨fd, ⟨"keeps_row", "keeps_row", (top 17), _, _, rfl, F, fit_11, F.bindsN fun _ _ _ _ _ _ us hl => match us, hl with | [_, _], _ => rfl⟩, F.kp⟩
theorem fit_12 : fitB sg Pw.sub ⟨2, 3, Pr.b_is_point⟩ (top 18) ((["value", "many", "part"] : List Str)) ["value", "many"] = true := by
  decide +kernel
theorem df_12 (c : He.SaysD fa fn K) : ∃ (fd : FuncData), Def K sg Pw 12 (He.ga K "is_point") fd ["value", "many"] ∧ PySem.W.keepIn K (.ref (He.ga K "is_point")) = true := by
  obtain ⟨fd, F⟩ := c.def_ 14 (d := dF "is_point" 18) rfl
  exact ⟨fd, ⟨"is_point", "is_point", (top 18), _, _, rfl, F, fit_12, F.bindsN fun _ _ _ _ _ _ us hl => match us, hl with | [_, _], _ => rfl⟩, F.kp⟩
theorem fit_13 : fitB sg Pw.sub ⟨2, 3, Pr.b_keeps⟩ (top 19) ((["system", "value", "row"] : List Str)) ["system", "value"] = true := by
  decide +kernel
theorem df_13 (c : He.SaysD fa fn K) : ∃ (fd : FuncData), Def K sg Pw 13 (He.ga K "keeps") fd ["system", "value"] ∧ PySem.W.keepIn K (.ref (He.ga K "keeps")) = true := by
  obtain ⟨fd, F⟩ := c.def_ 15 (d := dF "keeps" 19) rfl
  exact ⟨fd, ⟨"keeps", "keeps", (top 19), _, _, rfl, F, fit_13, F.bindsN fun _ _ _ _ _ _ us hl => match us, hl with | [_, _], _ => rfl⟩, F.kp⟩
theorem fit_14 : fitB sg Pw.sub ⟨2, 11, Pr.b_are_refuting⟩ (top 20) ((["system", "multipliers", "many", "rows", "sums", "number", "is_strict", "row", "amount", "one", "factor"] : List Str)) ["system", "multipliers"] = true := by
  decide +kernel
theorem df_14 (c : He.SaysD fa fn K) : ∃ (fd : FuncData), Def K sg Pw 14 (He.ga K "are_refuting") fd ["system", "multipliers"] ∧ PySem.W.keepIn K (.ref (He.ga K "are_refuting")) = true := by
  obtain ⟨fd, F⟩ := c.def_ 16 (d := dF "are_refuting" 20) rfl
  exact ⟨fd, ⟨"are_refuting", "are_refuting", (top 20), _, _, rfl, F, fit_14, F.bindsN fun _ _ _ _ _ _ us hl => match us, hl with | [_, _], _ => rfl⟩, F.kp⟩
theorem fit_15 : fitB sg Pw.sub ⟨2, 3, Pr.b_refutes⟩ (top 21) ((["system", "value", "amount"] : List Str)) ["system", "value"] = true := by
  decide +kernel
theorem df_15 (c : He.SaysD fa fn K) : ∃ (fd : FuncData), Def K sg Pw 15 (He.ga K "refutes") fd ["system", "value"] ∧ PySem.W.keepIn K (.ref (He.ga K "refutes")) = true := by
  obtain ⟨fd, F⟩ := c.def_ 17 (d := dF "refutes" 21) rfl
  exact ⟨fd, ⟨"refutes", "refutes", (top 21), _, _, rfl, F, fit_15, F.bindsN fun _ _ _ _ _ _ us hl => match us, hl with | [_, _], _ => rfl⟩, F.kp⟩
theorem fit_16 : fitB sg Pw.sub ⟨3, 13, Pr.b_Tableau_exchange⟩ (inClass (top 22) 1) ((["self", "at", "by", "row", "old", "found", "key", "place", "other", "part", "new", "spot", "number"] : List Str)) ["self", "at", "by"] = true := by
  decide +kernel
theorem df_16 (c : He.SaysD fa fn K) : ∃ (fd : FuncData), Def K sg Pw 16 (He.ma K (He.ga K "Tableau") "exchange") fd ["self", "at", "by"] ∧ PySem.W.keepIn K (.ref (He.ma K (He.ga K "Tableau") "exchange")) = true := by
  obtain ⟨fd, F⟩ := c.def_ 19 (d := dM "Tableau" "exchange" "Tableau.exchange" 22 1) rfl
  exact ⟨fd, ⟨"exchange", "Tableau.exchange", (inClass (top 22) 1), _, _, rfl, F, fit_16, F.bindsN fun _ _ _ _ _ _ us hl => match us, hl with | [_, _, _], _ => rfl⟩, F.kp⟩
theorem fit_17 : fitB sg Pw.sub ⟨1, 4, Pr.b_Tableau_entering⟩ (inClass (top 22) 2) ((["self", "found", "by", "number"] : List Str)) ["self"] = true := by
  decide +kernel
theorem df_17 (c : He.SaysD fa fn K) : ∃ (fd : FuncData), Def K sg Pw 17 (He.ma K (He.ga K "Tableau") "entering") fd ["self"] ∧ PySem.W.keepIn K (.ref (He.ma K (He.ga K "Tableau") "entering")) = true := by
  obtain ⟨fd, F⟩ := c.def_ 20 (d := dM "Tableau" "entering" "Tableau.entering" 22 2) rfl
  exact ⟨fd, ⟨"entering", "Tableau.entering", (inClass (top 22) 2), _, _, rfl, F, fit_17, F.bindsN fun _ _ _ _ _ _ us hl => match us, hl with | [_], _ => rfl⟩, F.kp⟩
theorem fit_18 : fitB sg Pw.sub ⟨4, 6, Pr.b_Tableau_is_nearer⟩ (inClass (top 22) 3) ((["self", "one", "two", "by", "first", "second"] : List Str)) ["self", "one", "two", "by"] = true := by
  decide +kernel
theorem df_18 (c : He.SaysD fa fn K) : ∃ (fd : FuncData), Def K sg Pw 18 (He.ma K (He.ga K "Tableau") "is_nearer") fd ["self", "one", "two", "by"] ∧ PySem.W.keepIn K (.ref (He.ma K (He.ga K "Tableau") "is_nearer")) = true := by
  obtain ⟨fd, F⟩ := c.def_ 21 (d := dM "Tableau" "is_nearer" "Tableau.is_nearer" 22 3) rfl
  exact ⟨fd, ⟨"is_nearer", "Tableau.is_nearer", (inClass (top 22) 3), _, _, rfl, F, fit_18, F.bindsN fun _ _ _ _ _ _ us hl => match us, hl with | [_, _, _, _], _ => rfl⟩, F.kp⟩
theorem fit_19 : fitB sg Pw.sub ⟨2, 4, Pr.b_Tableau_leaving⟩ (inClass (top 22) 4) ((["self", "by", "best", "at"] : List Str)) ["self", "by"] = true := by
  decide +kernel
theorem df_19 (c : He.SaysD fa fn K) : ∃ (fd : FuncData), Def K sg Pw 19 (He.ma K (He.ga K "Tableau") "leaving") fd ["self", "by"] ∧ PySem.W.keepIn K (.ref (He.ma K (He.ga K "Tableau") "leaving")) = true := by
  obtain ⟨fd, F⟩ := c.def_ 22 (d := dM "Tableau" "leaving" "Tableau.leaving" 22 4) rfl
  exact ⟨fd, ⟨"leaving", "Tableau.leaving", (inClass (top 22) 4), _, _, rfl, F, fit_19, F.bindsN fun _ _ _ _ _ _ us hl => match us, hl with | [_, _], _ => rfl⟩, F.kp⟩
theorem fit_20 : fitB sg Pw.sub ⟨1, 2, Pr.b_Tableau_improve⟩ (inClass (top 22) 5) ((["self", "by"] : List Str)) ["self"] = true := by
  decide +kernel
theorem df_20 (c : He.SaysD fa fn K) : ∃ (fd : FuncData), Def K sg Pw 20 (He.ma K (He.ga K "Tableau") "improve") fd ["self"] ∧ PySem.W.keepIn K (.ref (He.ma K (He.ga K "Tableau") "improve")) = true := by
  obtain ⟨fd, F⟩ := c.def_ 23 (d := dM "Tableau" "improve" "Tableau.improve" 22 5) rfl
  exact ⟨fd, ⟨"improve", "Tableau.improve", (inClass (top 22) 5), _, _, rfl, F, fit_20, F.bindsN fun _ _ _ _ _ _ us hl => match us, hl with | [_], _ => rfl⟩, F.kp⟩
theorem fit_21 : fitB sg Pw.sub ⟨1, 5, Pr.b_Tableau_get_ready⟩ (inClass (top 22) 6) ((["self", "lows", "place", "row", "by"] : List Str)) ["self"] = true := by
  decide +kernel
theorem df_21 (c : He.SaysD fa fn K) : ∃ (fd : FuncData), Def K sg Pw 21 (He.ma K (He.ga K "Tableau") "get_ready") fd ["self"] ∧ PySem.W.keepIn K (.ref (He.ma K (He.ga K "Tableau") "get_ready")) = true := by
  obtain ⟨fd, F⟩ := c.def_ 24 (d := dM "Tableau" "get_ready" "Tableau.get_ready" 22 6) rfl
  exact ⟨fd, ⟨"get_ready", "Tableau.get_ready", (inClass (top 22) 6), _, _, rfl, F, fit_21, F.bindsN fun _ _ _ _ _ _ us hl => match us, hl with | [_], _ => rfl⟩, F.kp⟩
theorem fit_22 : fitB sg Pw.sub ⟨2, 8, Pr.b_Tableau_aim⟩ (inClass (top 22) 7) ((["self", "goal", "row", "unknown", "factor", "part", "one", "two"] : List Str)) ["self", "goal"] = true := by
  decide +kernel
theorem df_22 (c : He.SaysD fa fn K) : ∃ (fd : FuncData), Def K sg Pw 22 (He.ma K (He.ga K "Tableau") "aim") fd ["self", "goal"] ∧ PySem.W.keepIn K (.ref (He.ma K (He.ga K "Tableau") "aim")) = true := by
  obtain ⟨fd, F⟩ := c.def_ 25 (d := dM "Tableau" "aim" "Tableau.aim" 22 7) rfl
  exact ⟨fd, ⟨"aim", "Tableau.aim", (inClass (top 22) 7), _, _, rfl, F, fit_22, F.bindsN fun _ _ _ _ _ _ us hl => match us, hl with | [_, _], _ => rfl⟩, F.kp⟩
theorem fit_23 : fitB sg Pw.sub ⟨1, 1, Pr.b_Tableau_reached⟩ (inClass (top 22) 8) ((["self"] : List Str)) ["self"] = true := by
  decide +kernel
theorem df_23 (c : He.SaysD fa fn K) : ∃ (fd : FuncData), Def K sg Pw 23 (He.ma K (He.ga K "Tableau") "reached") fd ["self"] ∧ PySem.W.keepIn K (.ref (He.ma K (He.ga K "Tableau") "reached")) = true := by
  obtain ⟨fd, F⟩ := c.def_ 26 (d := dM "Tableau" "reached" "Tableau.reached" 22 8) rfl
  exact ⟨fd, ⟨"reached", "Tableau.reached", (inClass (top 22) 8), _, _, rfl, F, fit_23, F.bindsN fun _ _ _ _ _ _ us hl => match us, hl with | [_], _ => rfl⟩, F.kp⟩
theorem fit_24 : fitB sg Pw.sub ⟨2, 2, Pr.b_Tableau_worth_of⟩ (inClass (top 22) 9) ((["self", "unknown"] : List Str)) ["self", "unknown"] = true := by
  decide +kernel
theorem df_24 (c : He.SaysD fa fn K) : ∃ (fd : FuncData), Def K sg Pw 24 (He.ma K (He.ga K "Tableau") "worth_of") fd ["self", "unknown"] ∧ PySem.W.keepIn K (.ref (He.ma K (He.ga K "Tableau") "worth_of")) = true := by
  obtain ⟨fd, F⟩ := c.def_ 27 (d := dM "Tableau" "worth_of" "Tableau.worth_of" 22 9) rfl
  exact ⟨fd, ⟨"worth_of", "Tableau.worth_of", (inClass (top 22) 9), _, _, rfl, F, fit_24, F.bindsN fun _ _ _ _ _ _ us hl => match us, hl with | [_, _], _ => rfl⟩, F.kp⟩
theorem fit_25 : fitB sg Pw.sub ⟨2, 2, Pr.b_Tableau_price_of⟩ (inClass (top 22) 10) ((["self", "unknown"] : List Str)) ["self", "unknown"] = true := by
  decide +kernel
theorem df_25 (c : He.SaysD fa fn K) : ∃ (fd : FuncData), Def K sg Pw 25 (He.ma K (He.ga K "Tableau") "price_of") fd ["self", "unknown"] ∧ PySem.W.keepIn K (.ref (He.ma K (He.ga K "Tableau") "price_of")) = true := by
  obtain ⟨fd, F⟩ := c.def_ 28 (d := dM "Tableau" "price_of" "Tableau.price_of" 22 10) rfl
  exact ⟨fd, ⟨"price_of", "Tableau.price_of", (inClass (top 22) 10), _, _, rfl, F, fit_25, F.bindsN fun _ _ _ _ _ _ us hl => match us, hl with | [_, _], _ => rfl⟩, F.kp⟩
theorem fit_26 : fitB sg Pw.sub ⟨1, 15, Pr.b_solved⟩ (top 23) ((["system", "many", "rows", "tasks", "factors", "sign", "number", "turned", "tableau", "found", "unknown", "top", "bottom", "factor", "place"] : List Str)) ["system"] = true := by
  decide +kernel
theorem df_26 (c : He.SaysD fa fn K) : ∃ (fd : FuncData), Def K sg Pw 26 (He.ga K "solved") fd ["system"] ∧ PySem.W.keepIn K (.ref (He.ga K "solved")) = true := by
  obtain ⟨fd, F⟩ := c.def_ 29 (d := dF "solved" 23) rfl
  exact ⟨fd, ⟨"solved", "solved", (top 23), _, _, rfl, F, fit_26, F.bindsN fun _ _ _ _ _ _ us hl => match us, hl with | [_], _ => rfl⟩, F.kp⟩
theorem fit_27 : fitB sg Pw.sub ⟨1, 3, Pr.b__law_pen⟩ (top 25) ((["script", "fold", "cell"] : List Str)) ["script"] = true := by
  decide +kernel
theorem df_27 (c : He.SaysD fa fn K) : ∃ (fd : FuncData), Def K sg Pw 27 (He.ga K "_law_pen") fd ["script"] ∧ PySem.W.keepIn K (.ref (He.ga K "_law_pen")) = true := by
  obtain ⟨fd, F⟩ := c.def_ 30 (d := dF "_law_pen" 25) rfl
  exact ⟨fd, ⟨"_law_pen", "_law_pen", (top 25), _, _, rfl, F, fit_27, F.bindsN fun _ _ _ _ _ _ us hl => match us, hl with | [_], _ => rfl⟩, F.kp⟩
theorem fit_28 : fitB sg Pw.sub ⟨2, 5, Pr.b__law_draw⟩ (top 26) ((["pen", "many", "cell", "digit", "blend"] : List Str)) ["pen", "many"] = true := by
  decide +kernel
theorem df_28 (c : He.SaysD fa fn K) : ∃ (fd : FuncData), Def K sg Pw 28 (He.ga K "_law_draw") fd ["pen", "many"] ∧ PySem.W.keepIn K (.ref (He.ga K "_law_draw")) = true := by
  obtain ⟨fd, F⟩ := c.def_ 31 (d := dF "_law_draw" 26) rfl
  exact ⟨fd, ⟨"_law_draw", "_law_draw", (top 26), _, _, rfl, F, fit_28, F.bindsN fun _ _ _ _ _ _ us hl => match us, hl with | [_, _], _ => rfl⟩, F.kp⟩
theorem fit_29 : fitB sg Pw.sub ⟨2, 2, Pr.b__law_pick⟩ (top 27) ((["pen", "some"] : List Str)) ["pen", "some"] = true := by
  decide +kernel
theorem df_29 (c : He.SaysD fa fn K) : ∃ (fd : FuncData), Def K sg Pw 29 (He.ga K "_law_pick") fd ["pen", "some"] ∧ PySem.W.keepIn K (.ref (He.ga K "_law_pick")) = true := by
  obtain ⟨fd, F⟩ := c.def_ 32 (d := dF "_law_pick" 27) rfl
  exact ⟨fd, ⟨"_law_pick", "_law_pick", (top 27), _, _, rfl, F, fit_29, F.bindsN fun _ _ _ _ _ _ us hl => match us, hl with | [_, _], _ => rfl⟩, F.kp⟩
theorem fit_30 : fitB sg Pw.sub ⟨2, 6, Pr.b__law_shuffled⟩ (top 28) ((["pen", "some", "rest", "found", "lap", "k"] : List Str)) ["pen", "some"] = true := by
  decide +kernel
theorem df_30 (c : He.SaysD fa fn K) : ∃ (fd : FuncData), Def K sg Pw 30 (He.ga K "_law_shuffled") fd ["pen", "some"] ∧ PySem.W.keepIn K (.ref (He.ga K "_law_shuffled")) = true := by
  obtain ⟨fd, F⟩ := c.def_ 33 (d := dF "_law_shuffled" 28) rfl
  exact ⟨fd, ⟨"_law_shuffled", "_law_shuffled", (top 28), _, _, rfl, F, fit_30, F.bindsN fun _ _ _ _ _ _ us hl => match us, hl with | [_, _], _ => rfl⟩, F.kp⟩
theorem fit_31 : fitB sg Pw.sub ⟨2, 6, Pr.b__law_frac⟩ (top 29) ((["top", "bottom", "a", "b", "lap", "sign"] : List Str)) ["top", "bottom"] = true := by
  decide +kernel
theorem df_31 (c : He.SaysD fa fn K) : ∃ (fd : FuncData), Def K sg Pw 31 (He.ga K "_law_frac") fd ["top", "bottom"] ∧ PySem.W.keepIn K (.ref (He.ga K "_law_frac")) = true := by
  obtain ⟨fd, F⟩ := c.def_ 34 (d := dF "_law_frac" 29) rfl
  exact ⟨fd, ⟨"_law_frac", "_law_frac", (top 29), _, _, rfl, F, fit_31, F.bindsN fun _ _ _ _ _ _ us hl => match us, hl with | [_, _], _ => rfl⟩, F.kp⟩
theorem fit_32 : fitB sg Pw.sub ⟨2, 2, Pr.b__law_add⟩ (top 30) ((["one", "two"] : List Str)) ["one", "two"] = true := by
  decide +kernel
theorem df_32 (c : He.SaysD fa fn K) : ∃ (fd : FuncData), Def K sg Pw 32 (He.ga K "_law_add") fd ["one", "two"] ∧ PySem.W.keepIn K (.ref (He.ga K "_law_add")) = true := by
  obtain ⟨fd, F⟩ := c.def_ 35 (d := dF "_law_add" 30) rfl
  exact ⟨fd, ⟨"_law_add", "_law_add", (top 30), _, _, rfl, F, fit_32, F.bindsN fun _ _ _ _ _ _ us hl => match us, hl with | [_, _], _ => rfl⟩, F.kp⟩
theorem fit_33 : fitB sg Pw.sub ⟨3, 5, Pr.b__law_row⟩ (top 31) ((["pen", "many", "much", "factors", "k"] : List Str)) ["pen", "many", "much"] = true := by
  decide +kernel
theorem df_33 (c : He.SaysD fa fn K) : ∃ (fd : FuncData), Def K sg Pw 33 (He.ga K "_law_row") fd ["pen", "many", "much"] ∧ PySem.W.keepIn K (.ref (He.ga K "_law_row")) = true := by
  obtain ⟨fd, F⟩ := c.def_ 36 (d := dF "_law_row" 31) rfl
  exact ⟨fd, ⟨"_law_row", "_law_row", (top 31), _, _, rfl, F, fit_33, F.bindsN fun _ _ _ _ _ _ us hl => match us, hl with | [_, _, _], _ => rfl⟩, F.kp⟩
theorem fit_34 : fitB sg Pw.sub ⟨2, 6, Pr.b__law_keeps⟩ (top 32) ((["row", "point", "total", "factor", "part", "by"] : List Str)) ["row", "point"] = true := by
  decide +kernel
theorem df_34 (c : He.SaysD fa fn K) : ∃ (fd : FuncData), Def K sg Pw 34 (He.ga K "_law_keeps") fd ["row", "point"] ∧ PySem.W.keepIn K (.ref (He.ga K "_law_keeps")) = true := by
  obtain ⟨fd, F⟩ := c.def_ 37 (d := dF "_law_keeps" 32) rfl
  exact ⟨fd, ⟨"_law_keeps", "_law_keeps", (top 32), _, _, rfl, F, fit_34, F.bindsN fun _ _ _ _ _ _ us hl => match us, hl with | [_, _], _ => rfl⟩, F.kp⟩
theorem fit_35 : fitB sg Pw.sub ⟨3, 9, Pr.b__law_refuting⟩ (top 33) ((["rows", "multipliers", "many", "sums", "number", "is_strict", "row", "amount", "k"] : List Str)) ["rows", "multipliers", "many"] = true := by
  decide +kernel
theorem df_35 (c : He.SaysD fa fn K) : ∃ (fd : FuncData), Def K sg Pw 35 (He.ga K "_law_refuting") fd ["rows", "multipliers", "many"] ∧ PySem.W.keepIn K (.ref (He.ga K "_law_refuting")) = true := by
  obtain ⟨fd, F⟩ := c.def_ 38 (d := dF "_law_refuting" 33) rfl
  exact ⟨fd, ⟨"_law_refuting", "_law_refuting", (top 33), _, _, rfl, F, fit_35, F.bindsN fun _ _ _ _ _ _ us hl => match us, hl with | [_, _, _], _ => rfl⟩, F.kp⟩
theorem fit_36 : fitB sg Pw.sub ⟨1, 1, Pr.b__law_is_integer⟩ (top 34) ((["value"] : List Str)) ["value"] = true := by
  decide +kernel
theorem df_36 (c : He.SaysD fa fn K) : ∃ (fd : FuncData), Def K sg Pw 36 (He.ga K "_law_is_integer") fd ["value"] ∧ PySem.W.keepIn K (.ref (He.ga K "_law_is_integer")) = true := by
  obtain ⟨fd, F⟩ := c.def_ 39 (d := dF "_law_is_integer" 34) rfl
  exact ⟨fd, ⟨"_law_is_integer", "_law_is_integer", (top 34), _, _, rfl, F, fit_36, F.bindsN fun _ _ _ _ _ _ us hl => match us, hl with | [_], _ => rfl⟩, F.kp⟩
theorem fit_37 : fitB sg Pw.sub ⟨2, 15, Pr.b__law_planted⟩ (top 35) ((["pen", "many", "rows", "amounts", "sums", "number", "row", "amount", "k", "is_strict", "sign", "more", "order", "lap", "one"] : List Str)) ["pen", "many"] = true := by
  decide +kernel
theorem df_37 (c : He.SaysD fa fn K) : ∃ (fd : FuncData), Def K sg Pw 37 (He.ga K "_law_planted") fd ["pen", "many"] ∧ PySem.W.keepIn K (.ref (He.ga K "_law_planted")) = true := by
  obtain ⟨fd, F⟩ := c.def_ 40 (d := dF "_law_planted" 35) rfl
  exact ⟨fd, ⟨"_law_planted", "_law_planted", (top 35), _, _, rfl, F, fit_37, F.bindsN fun _ _ _ _ _ _ us hl => match us, hl with | [_, _], _ => rfl⟩, F.kp⟩
theorem fit_38 : fitB sg Pw.sub ⟨2, 3, Pr.b__law_is_right_refuted⟩ (top 36) ((["system", "value", "amount"] : List Str)) ["system", "value"] = true := by
  decide +kernel
theorem df_38 (c : He.SaysD fa fn K) : ∃ (fd : FuncData), Def K sg Pw 38 (He.ga K "_law_is_right_refuted") fd ["system", "value"] ∧ PySem.W.keepIn K (.ref (He.ga K "_law_is_right_refuted")) = true := by
  obtain ⟨fd, F⟩ := c.def_ 41 (d := dF "_law_is_right_refuted" 36) rfl
  exact ⟨fd, ⟨"_law_is_right_refuted", "_law_is_right_refuted", (top 36), _, _, rfl, F, fit_38, F.bindsN fun _ _ _ _ _ _ us hl => match us, hl with | [_, _], _ => rfl⟩, F.kp⟩
theorem fit_39 : fitB sg Pw.sub ⟨2, 11, Pr.b__law_refuted_right⟩ (top 37) ((["pen", "many", "rows", "amounts", "system", "at", "all_amounts", "by", "one", "odd", "same"] : List Str)) ["pen", "many"] = true := by
  decide +kernel
theorem df_39 (c : He.SaysD fa fn K) : ∃ (fd : FuncData), Def K sg Pw 39 (He.ga K "_law_refuted_right") fd ["pen", "many"] ∧ PySem.W.keepIn K (.ref (He.ga K "_law_refuted_right")) = true := by
  obtain ⟨fd, F⟩ := c.def_ 42 (d := dF "_law_refuted_right" 37) rfl
  exact ⟨fd, ⟨"_law_refuted_right", "_law_refuted_right", (top 37), _, _, rfl, F, fit_39, F.bindsN fun _ _ _ _ _ _ us hl => match us, hl with | [_, _], _ => rfl⟩, F.kp⟩
theorem fit_40 : fitB sg Pw.sub ⟨2, 4, Pr.b__law_point⟩ (top 38) ((["pen", "many", "found", "k"] : List Str)) ["pen", "many"] = true := by
  decide +kernel
theorem df_40 (c : He.SaysD fa fn K) : ∃ (fd : FuncData), Def K sg Pw 40 (He.ga K "_law_point") fd ["pen", "many"] ∧ PySem.W.keepIn K (.ref (He.ga K "_law_point")) = true := by
  obtain ⟨fd, F⟩ := c.def_ 43 (d := dF "_law_point" 38) rfl
  exact ⟨fd, ⟨"_law_point", "_law_point", (top 38), _, _, rfl, F, fit_40, F.bindsN fun _ _ _ _ _ _ us hl => match us, hl with | [_, _], _ => rfl⟩, F.kp⟩
theorem fit_41 : fitB sg Pw.sub ⟨2, 17, Pr.b__law_kept_right⟩ (top 39) ((["pen", "many", "point", "rows", "lap", "factors", "sign", "number", "total", "factor", "part", "system", "some", "due", "odds", "odd", "row"] : List Str)) ["pen", "many"] = true := by
  decide +kernel
theorem df_41 (c : He.SaysD fa fn K) : ∃ (fd : FuncData), Def K sg Pw 41 (He.ga K "_law_kept_right") fd ["pen", "many"] ∧ PySem.W.keepIn K (.ref (He.ga K "_law_kept_right")) = true := by
  obtain ⟨fd, F⟩ := c.def_ 44 (d := dF "_law_kept_right" 39) rfl
  exact ⟨fd, ⟨"_law_kept_right", "_law_kept_right", (top 39), _, _, rfl, F, fit_41, F.bindsN fun _ _ _ _ _ _ us hl => match us, hl with | [_, _], _ => rfl⟩, F.kp⟩
theorem fit_42 : fitB sg Pw.sub ⟨2, 4, Pr.b__law_told⟩ (top 40) ((["way", "value", "found", "e"] : List Str)) ["way", "value"] = true := by
  decide +kernel
theorem df_42 (c : He.SaysD fa fn K) : ∃ (fd : FuncData), Def K sg Pw 42 (He.ga K "_law_told") fd ["way", "value"] ∧ PySem.W.keepIn K (.ref (He.ga K "_law_told")) = true := by
  obtain ⟨fd, F⟩ := c.def_ 45 (d := dF "_law_told" 40) rfl
  exact ⟨fd, ⟨"_law_told", "_law_told", (top 40), _, _, rfl, F, fit_42, F.bindsN fun _ _ _ _ _ _ us hl => match us, hl with | [_, _], _ => rfl⟩, F.kp⟩
theorem fit_43 : fitB sg Pw.sub ⟨2, 11, Pr.b__law_systems_right⟩ (top 41) ((["pen", "many", "rows", "system", "row", "odds", "word", "number", "odd", "way", "lap"] : List Str)) ["pen", "many"] = true := by
  decide +kernel
theorem df_43 (c : He.SaysD fa fn K) : ∃ (fd : FuncData), Def K sg Pw 43 (He.ga K "_law_systems_right") fd ["pen", "many"] ∧ PySem.W.keepIn K (.ref (He.ga K "_law_systems_right")) = true := by
  obtain ⟨fd, F⟩ := c.def_ 46 (d := dF "_law_systems_right" 41) rfl
  exact ⟨fd, ⟨"_law_systems_right", "_law_systems_right", (top 41), _, _, rfl, F, fit_43, F.bindsN fun _ _ _ _ _ _ us hl => match us, hl with | [_, _], _ => rfl⟩, F.kp⟩
theorem fit_44 : fitB sg Pw.sub ⟨1, 4, Pr.b_law⟩ (top 42) ((["script", "pen", "lap", "many"] : List Str)) ["script"] = true := by
  decide +kernel
theorem df_44 (c : He.SaysD fa fn K) : ∃ (fd : FuncData), Def K sg Pw 44 (He.ga K "law") fd ["script"] ∧ PySem.W.keepIn K (.ref (He.ga K "law")) = true := by
  obtain ⟨fd, F⟩ := c.def_ 47 (d := dF "law" 42) rfl
  exact ⟨fd, ⟨"law", "law", (top 42), _, _, rfl, F, fit_44, F.bindsN fun _ _ _ _ _ _ us hl => match us, hl with | [_], _ => rfl⟩, F.kp⟩
theorem ib_Refuted : initB (inClass (top 12) 0) "self" "multipliers" "multipliers" = true := by
  decide +kernel
theorem ib_BadFacts : initB (inClass (top 3) 0) "self" "facts" "facts" = true := by
  decide +kernel
variable {Pm : Program} {w : World} {mg : Str → Option Value} {h : Heap}
theorem tx (X : K.In h) (G : h.Ns mainGlobals mg) (c : He.SaysD fa fn K) (cx : (fx.all fun f => f.ok K) = true) : TX Pm w K mg (tb K) sg Pw := by
  have fxa : ∀ (i : Nat) (f : Fx), fx[i]? = some f → f.ok K = true := fun i f hf => List.all_eq_true.mp cx f (List.mem_of_getElem? hf)
  refine { hK := rfl, bi := ?bi, gcd := ?gcd, gl := ?gl, fns := ?fns, ins := ?ins, insAll := ?insAll, mkC := ?mkC, eqF := ?eqF, ins2 := ?ins2, exn := ?exn, exc := ?exc, han := ?han }
  case bi =>
    intro b hb
    simp only [biNames, List.mem_cons, List.not_mem_nil, or_false] at hb
    rcases hb with rfl | rfl | rfl | rfl | rfl | rfl | rfl | rfl | rfl | rfl | rfl | rfl | rfl | rfl | rfl | rfl | rfl | rfl | rfl
    · exact He.free_ok X G (c.fact 34 (f := .free "len") rfl)
    · exact He.free_ok X G (c.fact 36 (f := .free "all") rfl)
    · exact He.free_ok X G (c.fact 47 (f := .free "any") rfl)
    · exact He.free_ok X G (c.fact 37 (f := .free "tuple") rfl)
    · exact He.free_ok X G (c.fact 38 (f := .free "list") rfl)
    · exact He.free_ok X G (c.fact 41 (f := .free "repr") rfl)
    · exact He.free_ok X G (c.fact 42 (f := .free "abs") rfl)
    · exact He.free_ok X G (c.fact 43 (f := .free "int") rfl)
    · exact He.free_ok X G (c.fact 50 (f := .free "max") rfl)
    · exact He.free_ok X G (c.fact 49 (f := .free "min") rfl)
    · exact He.free_ok X G (c.fact 48 (f := .free "sum") rfl)
    · exact He.free_ok X G (c.fact 51 (f := .free "sorted") rfl)
    · exact He.free_ok X G (c.fact 46 (f := .free "dict") rfl)
    · exact He.free_ok X G (c.fact 45 (f := .free "str") rfl)
    · exact He.free_ok X G (c.fact 44 (f := .free "bool") rfl)
    · exact He.free_ok X G (c.fact 39 (f := .free "range") rfl)
    · exact He.free_ok X G (c.fact 40 (f := .free "zip") rfl)
    · exact He.free_ok X G (c.fact 52 (f := .free "enumerate") rfl)
    · exact He.free_ok X G (c.fact 35 (f := .free "isinstance") rfl)
  case gcd => exact fun _ => gcd_ok X G (fxa 4 .gcd rfl)
  case gl =>
    intro g x d h1 h2
    cases (show (none : Option Str) = some x from h1)
  case fns =>
    intro f x h1 h2
    match f, h1 with
    | 0, h1 =>
      obtain rfl : ("is_whole" : Str) = x := Option.some.inj (show some ("is_whole" : Str) = some x from h1)
      obtain ⟨fd, d, k⟩ := df_0 (K := K) c
      exact ⟨_, fd, _, He.glo_ok X G (c.fact 0 (f := .glo "is_whole") rfl), k, d⟩
    | 1, h1 =>
      obtain rfl : ("is_count" : Str) = x := Option.some.inj (show some ("is_count" : Str) = some x from h1)
      obtain ⟨fd, d, k⟩ := df_1 (K := K) c
      exact ⟨_, fd, _, He.glo_ok X G (c.fact 1 (f := .glo "is_count") rfl), k, d⟩
    | 2, h1 =>
      obtain rfl : ("is_fraction" : Str) = x := Option.some.inj (show some ("is_fraction" : Str) = some x from h1)
      obtain ⟨fd, d, k⟩ := df_2 (K := K) c
      exact ⟨_, fd, _, He.glo_ok X G (c.fact 2 (f := .glo "is_fraction") rfl), k, d⟩
    | 3, h1 =>
      obtain rfl : ("fraction_of" : Str) = x := Option.some.inj (show some ("fraction_of" : Str) = some x from h1)
      obtain ⟨fd, d, k⟩ := df_3 (K := K) c
      exact ⟨_, fd, _, He.glo_ok X G (c.fact 3 (f := .glo "fraction_of") rfl), k, d⟩
    | 4, h1 =>
      obtain rfl : ("added" : Str) = x := Option.some.inj (show some ("added" : Str) = some x from h1)
      obtain ⟨fd, d, k⟩ := df_4 (K := K) c
      exact ⟨_, fd, _, He.glo_ok X G (c.fact 4 (f := .glo "added") rfl), k, d⟩
    | 5, h1 =>
      obtain rfl : ("is_less" : Str) = x := Option.some.inj (show some ("is_less" : Str) = some x from h1)
      obtain ⟨fd, d, k⟩ := df_5 (K := K) c
      exact ⟨_, fd, _, He.glo_ok X G (c.fact 5 (f := .glo "is_less") rfl), k, d⟩
    | 6, h1 =>
      obtain rfl : ("" : Str) = x := Option.some.inj (show some ("" : Str) = some x from h1)
      exact absurd rfl h2
    | 7, h1 =>
      obtain rfl : ("is_row" : Str) = x := Option.some.inj (show some ("is_row" : Str) = some x from h1)
      obtain ⟨fd, d, k⟩ := df_7 (K := K) c
      exact ⟨_, fd, _, He.glo_ok X G (c.fact 6 (f := .glo "is_row") rfl), k, d⟩
    | 8, h1 =>
      obtain rfl : ("is_system" : Str) = x := Option.some.inj (show some ("is_system" : Str) = some x from h1)
      obtain ⟨fd, d, k⟩ := df_8 (K := K) c
      exact ⟨_, fd, _, He.glo_ok X G (c.fact 7 (f := .glo "is_system") rfl), k, d⟩
    | 9, h1 =>
      obtain rfl : ("need_system" : Str) = x := Option.some.inj (show some ("need_system" : Str) = some x from h1)
      obtain ⟨fd, d, k⟩ := df_9 (K := K) c
      exact ⟨_, fd, _, He.glo_ok X G (c.fact 8 (f := .glo "need_system") rfl), k, d⟩
    | 10, h1 =>
      obtain rfl : ("sum_at" : Str) = x := Option.some.inj (show some ("sum_at" : Str) = some x from h1)
      obtain ⟨fd, d, k⟩ := df_10 (K := K) c
      exact ⟨_, fd, _, He.glo_ok X G (c.fact 9 (f := .glo "sum_at") rfl), k, d⟩
    | 11, h1 =>
      obtain rfl : ("keeps_row" : Str) = x := Option.some.inj (show some ("keeps_row" : Str) = some x from h1)
      obtain ⟨fd, d, k⟩ := df_11 (K := K) c
      exact ⟨_, fd, _, He.glo_ok X G (c.fact 10 (f := .glo "keeps_row") rfl), k, d⟩
    | 12, h1 =>
      obtain rfl : ("is_point" : Str) = x := Option.some.inj (show some ("is_point" : Str) = some x from h1)
      obtain ⟨fd, d, k⟩ := df_12 (K := K) c
      exact ⟨_, fd, _, He.glo_ok X G (c.fact 11 (f := .glo "is_point") rfl), k, d⟩
    | 13, h1 =>
      obtain rfl : ("keeps" : Str) = x := Option.some.inj (show some ("keeps" : Str) = some x from h1)
      obtain ⟨fd, d, k⟩ := df_13 (K := K) c
      exact ⟨_, fd, _, He.glo_ok X G (c.fact 12 (f := .glo "keeps") rfl), k, d⟩
    | 14, h1 =>
      obtain rfl : ("are_refuting" : Str) = x := Option.some.inj (show some ("are_refuting" : Str) = some x from h1)
      obtain ⟨fd, d, k⟩ := df_14 (K := K) c
      exact ⟨_, fd, _, He.glo_ok X G (c.fact 13 (f := .glo "are_refuting") rfl), k, d⟩
    | 15, h1 =>
      obtain rfl : ("refutes" : Str) = x := Option.some.inj (show some ("refutes" : Str) = some x from h1)
      obtain ⟨fd, d, k⟩ := df_15 (K := K) c
      exact ⟨_, fd, _, He.glo_ok X G (c.fact 14 (f := .glo "refutes") rfl), k, d⟩
    | 16, h1 =>
      obtain rfl : ("" : Str) = x := Option.some.inj (show some ("" : Str) = some x from h1)
      exact absurd rfl h2
    | 17, h1 =>
      obtain rfl : ("" : Str) = x := Option.some.inj (show some ("" : Str) = some x from h1)
      exact absurd rfl h2
    | 18, h1 =>
      obtain rfl : ("" : Str) = x := Option.some.inj (show some ("" : Str) = some x from h1)
      exact absurd rfl h2
    | 19, h1 =>
      obtain rfl : ("" : Str) = x := Option.some.inj (show some ("" : Str) = some x from h1)
      exact absurd rfl h2
    | 20, h1 =>
      obtain rfl : ("" : Str) = x := Option.some.inj (show some ("" : Str) = some x from h1)
      exact absurd rfl h2
    | 21, h1 =>
      obtain rfl : ("" : Str) = x := Option.some.inj (show some ("" : Str) = some x from h1)
      exact absurd rfl h2
    | 22, h1 =>
      obtain rfl : ("" : Str) = x := Option.some.inj (show some ("" : Str) = some x from h1)
      exact absurd rfl h2
    | 23, h1 =>
      obtain rfl : ("" : Str) = x := Option.some.inj (show some ("" : Str) = some x from h1)
      exact absurd rfl h2
    | 24, h1 =>
      obtain rfl : ("" : Str) = x := Option.some.inj (show some ("" : Str) = some x from h1)
      exact absurd rfl h2
    | 25, h1 =>
      obtain rfl : ("" : Str) = x := Option.some.inj (show some ("" : Str) = some x from h1)
      exact absurd rfl h2
    | 26, h1 =>
      obtain rfl : ("solved" : Str) = x := Option.some.inj (show some ("solved" : Str) = some x from h1)
      obtain ⟨fd, d, k⟩ := df_26 (K := K) c
      exact ⟨_, fd, _, He.glo_ok X G (c.fact 15 (f := .glo "solved") rfl), k, d⟩
    | 27, h1 =>
      obtain rfl : ("_law_pen" : Str) = x := Option.some.inj (show some ("_law_pen" : Str) = some x from h1)
      obtain ⟨fd, d, k⟩ := df_27 (K := K) c
      exact ⟨_, fd, _, He.glo_ok X G (c.fact 16 (f := .glo "_law_pen") rfl), k, d⟩
    | 28, h1 =>
      obtain rfl : ("_law_draw" : Str) = x := Option.some.inj (show some ("_law_draw" : Str) = some x from h1)
      obtain ⟨fd, d, k⟩ := df_28 (K := K) c
      exact ⟨_, fd, _, He.glo_ok X G (c.fact 17 (f := .glo "_law_draw") rfl), k, d⟩
    | 29, h1 =>
      obtain rfl : ("_law_pick" : Str) = x := Option.some.inj (show some ("_law_pick" : Str) = some x from h1)
      obtain ⟨fd, d, k⟩ := df_29 (K := K) c
      exact ⟨_, fd, _, He.glo_ok X G (c.fact 18 (f := .glo "_law_pick") rfl), k, d⟩
    | 30, h1 =>
      obtain rfl : ("_law_shuffled" : Str) = x := Option.some.inj (show some ("_law_shuffled" : Str) = some x from h1)
      obtain ⟨fd, d, k⟩ := df_30 (K := K) c
      exact ⟨_, fd, _, He.glo_ok X G (c.fact 19 (f := .glo "_law_shuffled") rfl), k, d⟩
    | 31, h1 =>
      obtain rfl : ("_law_frac" : Str) = x := Option.some.inj (show some ("_law_frac" : Str) = some x from h1)
      obtain ⟨fd, d, k⟩ := df_31 (K := K) c
      exact ⟨_, fd, _, He.glo_ok X G (c.fact 20 (f := .glo "_law_frac") rfl), k, d⟩
    | 32, h1 =>
      obtain rfl : ("_law_add" : Str) = x := Option.some.inj (show some ("_law_add" : Str) = some x from h1)
      obtain ⟨fd, d, k⟩ := df_32 (K := K) c
      exact ⟨_, fd, _, He.glo_ok X G (c.fact 21 (f := .glo "_law_add") rfl), k, d⟩
    | 33, h1 =>
      obtain rfl : ("_law_row" : Str) = x := Option.some.inj (show some ("_law_row" : Str) = some x from h1)
      obtain ⟨fd, d, k⟩ := df_33 (K := K) c
      exact ⟨_, fd, _, He.glo_ok X G (c.fact 22 (f := .glo "_law_row") rfl), k, d⟩
    | 34, h1 =>
      obtain rfl : ("_law_keeps" : Str) = x := Option.some.inj (show some ("_law_keeps" : Str) = some x from h1)
      obtain ⟨fd, d, k⟩ := df_34 (K := K) c
      exact ⟨_, fd, _, He.glo_ok X G (c.fact 23 (f := .glo "_law_keeps") rfl), k, d⟩
    | 35, h1 =>
      obtain rfl : ("_law_refuting" : Str) = x := Option.some.inj (show some ("_law_refuting" : Str) = some x from h1)
      obtain ⟨fd, d, k⟩ := df_35 (K := K) c
      exact ⟨_, fd, _, He.glo_ok X G (c.fact 24 (f := .glo "_law_refuting") rfl), k, d⟩
    | 36, h1 =>
      obtain rfl : ("_law_is_integer" : Str) = x := Option.some.inj (show some ("_law_is_integer" : Str) = some x from h1)
      obtain ⟨fd, d, k⟩ := df_36 (K := K) c
      exact ⟨_, fd, _, He.glo_ok X G (c.fact 25 (f := .glo "_law_is_integer") rfl), k, d⟩
    | 37, h1 =>
      obtain rfl : ("_law_planted" : Str) = x := Option.some.inj (show some ("_law_planted" : Str) = some x from h1)
      obtain ⟨fd, d, k⟩ := df_37 (K := K) c
      exact ⟨_, fd, _, He.glo_ok X G (c.fact 26 (f := .glo "_law_planted") rfl), k, d⟩
    | 38, h1 =>
      obtain rfl : ("_law_is_right_refuted" : Str) = x := Option.some.inj (show some ("_law_is_right_refuted" : Str) = some x from h1)
      obtain ⟨fd, d, k⟩ := df_38 (K := K) c
      exact ⟨_, fd, _, He.glo_ok X G (c.fact 27 (f := .glo "_law_is_right_refuted") rfl), k, d⟩
    | 39, h1 =>
      obtain rfl : ("_law_refuted_right" : Str) = x := Option.some.inj (show some ("_law_refuted_right" : Str) = some x from h1)
      obtain ⟨fd, d, k⟩ := df_39 (K := K) c
      exact ⟨_, fd, _, He.glo_ok X G (c.fact 28 (f := .glo "_law_refuted_right") rfl), k, d⟩
    | 40, h1 =>
      obtain rfl : ("_law_point" : Str) = x := Option.some.inj (show some ("_law_point" : Str) = some x from h1)
      obtain ⟨fd, d, k⟩ := df_40 (K := K) c
      exact ⟨_, fd, _, He.glo_ok X G (c.fact 29 (f := .glo "_law_point") rfl), k, d⟩
    | 41, h1 =>
      obtain rfl : ("_law_kept_right" : Str) = x := Option.some.inj (show some ("_law_kept_right" : Str) = some x from h1)
      obtain ⟨fd, d, k⟩ := df_41 (K := K) c
      exact ⟨_, fd, _, He.glo_ok X G (c.fact 30 (f := .glo "_law_kept_right") rfl), k, d⟩
    | 42, h1 =>
      obtain rfl : ("_law_told" : Str) = x := Option.some.inj (show some ("_law_told" : Str) = some x from h1)
      obtain ⟨fd, d, k⟩ := df_42 (K := K) c
      exact ⟨_, fd, _, He.glo_ok X G (c.fact 31 (f := .glo "_law_told") rfl), k, d⟩
    | 43, h1 =>
      obtain rfl : ("_law_systems_right" : Str) = x := Option.some.inj (show some ("_law_systems_right" : Str) = some x from h1)
      obtain ⟨fd, d, k⟩ := df_43 (K := K) c
      exact ⟨_, fd, _, He.glo_ok X G (c.fact 32 (f := .glo "_law_systems_right") rfl), k, d⟩
    | 44, h1 =>
      obtain rfl : ("law" : Str) = x := Option.some.inj (show some ("law" : Str) = some x from h1)
      obtain ⟨fd, d, k⟩ := df_44 (K := K) c
      exact ⟨_, fd, _, He.glo_ok X G (c.fact 33 (f := .glo "law") rfl), k, d⟩
    | n + 45, h1 => cases (show (none : Option Str) = some x from h1)
  case ins =>
    intro c' C nms h
    simp only [tb] at h
    by_cases e2 : c' = 2
    · subst e2
      obtain ⟨rfl, rfl⟩ := (Prod.mk.injEq _ _ _ _).mp (Option.some.inj (show some (He.ga K "Refuted", (["multipliers"] : List Str)) = some (C, nms) from h))
      exact ⟨ins_ok (He.cls_ok (c.fact 56 (f := .cls "Refuted") rfl)) (fxa 0 (.ins "Refuted") rfl), ⟨"Refuted", rfl, He.glo_ok X G (c.fact 53 (f := .glo "Refuted") rfl)⟩, by simp, fun f hf => by
        simp only [List.mem_singleton] at hf
        subst hf
        exact He.noat_ok (c.fact 57 (f := .noat "Refuted" "multipliers") rfl)⟩
    · rw [if_neg e2] at h
      cases h
  case insAll =>
    intro c' hc
    simp only [sg, List.mem_cons, List.not_mem_nil, or_false] at hc
    rcases hc with rfl
    · exact ⟨_, _, rfl⟩
  case mkC =>
    intro c' C nms h
    simp only [tb] at h
    by_cases e2 : c' = 2
    · subst e2
      obtain ⟨rfl, rfl⟩ := (Prod.mk.injEq _ _ _ _).mp (Option.some.inj (show some (He.ga K "Refuted", (["multipliers"] : List Str)) = some (C, nms) from h))
      obtain ⟨fd, F⟩ := c.def_ 7 (d := dM "Refuted" "__init__" "Refuted.__init__" 12 0) rfl
      exact ⟨_, fd, ["self", "multipliers"], He.mkr_ok (c.fact 58 (f := .mkr "Refuted") rfl), fun base => initI_ok F ib_Refuted (He.cls_ok (c.fact 56 (f := .cls "Refuted") rfl)) (He.noat_ok (c.fact 57 (f := .noat "Refuted" "multipliers") rfl)), F.bindsN fun _ _ _ _ _ _ us hl => match us, hl with | [_, _], _ => rfl⟩
    · rw [if_neg e2] at h
      cases h
  case eqF =>
    intro c' f C nms hf h
    simp only [tb] at h
    by_cases e2 : c' = 2
    · subst e2
      obtain ⟨rfl, rfl⟩ := (Prod.mk.injEq _ _ _ _).mp (Option.some.inj (show some (He.ga K "Refuted", (["multipliers"] : List Str)) = some (C, nms) from h))
      obtain rfl : 6 = f := Option.some.inj (show some 6 = some f from hf)
      obtain ⟨fd, d, kp⟩ := df_6 (K := K) c
      have m := He.meth_ok (c.fact 61 (f := .meth "Refuted" "__eq__") rfl)
      exact ⟨_, fd, _, m.1, m.2, d, fxa 1 (.nf "Refuted") rfl⟩
    · rw [if_neg e2] at h
      cases h
  case ins2 =>
    intro c1 c2 C C' nms nms' ne h h'
    simp only [tb] at h h'
    by_cases e2 : c1 = 2
    · subst e2
      obtain ⟨rfl, rfl⟩ := (Prod.mk.injEq _ _ _ _).mp (Option.some.inj (show some (He.ga K "Refuted", (["multipliers"] : List Str)) = some (C, nms) from h))
      by_cases f2 : c2 = 2
      · subst f2
        exact absurd rfl ne
      · rw [if_neg f2] at h'
        cases h'
    · rw [if_neg e2] at h
      cases h
  case exn =>
    intro c' hc x nms h0 ne
    simp only [sg, List.mem_cons, List.not_mem_nil, or_false] at hc
    rcases hc with rfl | rfl
    · obtain ⟨rfl, rfl⟩ := (Prod.mk.injEq _ _ _ _).mp (Option.some.inj (show some (("RareError" : Str), ([] : List Str)) = some (x, nms) from h0))
      exact absurd rfl ne
    · obtain ⟨rfl, rfl⟩ := (Prod.mk.injEq _ _ _ _).mp (Option.some.inj (show some (("BadFacts" : Str), (["facts"] : List Str)) = some (x, nms) from h0))
      exact ⟨_, rfl⟩
  case exc =>
    intro c' C nms h
    simp only [tb] at h
    by_cases e1 : c' = 1
    · subst e1
      obtain ⟨rfl, rfl⟩ := (Prod.mk.injEq _ _ _ _).mp (Option.some.inj (show some (He.ga K "BadFacts", (["facts"] : List Str)) = some (C, nms) from h))
      obtain ⟨fd, F⟩ := c.def_ 0 (d := dM "BadFacts" "__init__" "BadFacts.__init__" 3 0) rfl
      have q := exg_ok (fxa 3 (.exg "BadFacts" "facts") rfl)
      have ox := oex_ok (fxa 2 (.oex "BadFacts") rfl)
      exact ⟨"BadFacts", "facts", rfl, rfl, by simp [sg], He.glo_ok X G (c.fact 55 (f := .glo "BadFacts") rfl), ox, q.1, q.2.1, q.2.2.1, q.2.2.2.1, _, fd, ["self", "facts"], q.2.2.2.2.2.1, q.2.2.2.2.2.2, fun base => initX_ok F ib_BadFacts ox q.1, F.bindsN fun _ _ _ _ _ _ us hl => match us, hl with | [_, _], _ => rfl⟩
    · rw [if_neg e1] at h
      cases h
  case han =>
    intro c2 hc
    simp only [sg, List.mem_cons, List.not_mem_nil, or_false] at hc
    rcases hc with rfl | rfl
    · refine ⟨_, "RareError", _, rfl, He.glo_ok X G (c.fact 54 (f := .glo "RareError") rfl), ?_⟩
      intro c' C nms h
      simp only [tb] at h
      by_cases e1 : c' = 1
      · subst e1
        obtain ⟨rfl, rfl⟩ := (Prod.mk.injEq _ _ _ _).mp (Option.some.inj (show some (He.ga K "BadFacts", (["facts"] : List Str)) = some (C, nms) from h))
        exact He.exm_ok (c.fact 59 (f := .exm "BadFacts" "RareError" true) rfl)
      · rw [if_neg e1] at h
        cases h
    · refine ⟨_, "BadFacts", _, rfl, He.glo_ok X G (c.fact 55 (f := .glo "BadFacts") rfl), ?_⟩
      intro c' C nms h
      simp only [tb] at h
      by_cases e1 : c' = 1
      · subst e1
        obtain ⟨rfl, rfl⟩ := (Prod.mk.injEq _ _ _ _).mp (Option.some.inj (show some (He.ga K "BadFacts", (["facts"] : List Str)) = some (C, nms) from h))
        exact He.exm_ok (c.fact 60 (f := .exm "BadFacts" "BadFacts" true) rfl)
      · rw [if_neg e1] at h
        cases h
end
end My

namespace My
open PySem PySem.Spec PyProof.Rows L2 R
theorem facts {Pm : Program} {w : World} {K : PySem.W.Frag} {h : Heap} {mg : Str → Option Value} {f : Addr} (X : K.In h) (G : h.Ns mainGlobals mg) (hfa : mg ("law" : Str) = some (.ref f)) (c : He.SaysD fa fn K) (cx : (fx.all fun f => f.ok K) = true) :
    ∃ fd : FuncData, (∀ (s : Shared) (v : Value), BindsTo s fd ⟨[v], []⟩ [("script", v)]) ∧ ∀ base : Heap, K.In base → base.Ns mainGlobals mg → FnG Pm w K mg base 10 f fd ["script"] (spD (tb K) (callN Pw 8) 44) := by
  obtain ⟨fd, F⟩ := c.def_ 47 (d := dF "law" 42) rfl
  have e := hfa.symm.trans (He.glo_ok X G (c.fact 33 (f := .glo "law") rfl))
  cases e
  have b := (FunD.bindsA (ps := ["script"]) F fun _ _ _ _ _ _ us hl => match us, hl with | [_], _ => rfl)
  have df : Def K sg Pw 44 (He.ga K "law") fd ["script"] := ⟨"law", "law", (top 42), _, _, rfl, F, fit_44, F.bindsN fun _ _ _ _ _ _ us hl => match us, hl with | [_], _ => rfl⟩
  exact ⟨fd, fun s v => b s [v] rfl, fun base _ _ => prog_ok (tx X G c cx) 8 44 _ fd _ df⟩
end My
open PyProof.Rows PySem.Calls PySem.W PySem
set_option maxHeartbeats 0 in
theorem PySem.Challenge.cw_seldomsteps_k38_systems_judged_holds : PySem.Challenge.rw_seldomsteps_k38_systems_judged.Holds := by
  w_on; o_law
  refine HandSHeadRun.head_imp (r := My.Ro) (q := view My.Ro.prog [0, 42]) (H := My.hk) (ob := My.ob) (M := 20000) (loose := My.loose) (d := HandSHeadRun.topDef My.Ro.prog 42) (kwd := []) My.ob_eq
    My.run (by kernel_rfl) (by kernel_rfl) (by kernel_rfl) (by rfl) (by first | assumption | decide +kernel) (by decide +kernel) ⟨rfl, rfl, rfl, rfl, rfl, by decide +kernel⟩ ?hw ?hc
  case hw => w_witness2
  case hc =>
    refine R.walk_G (l := PySem.Challenge.rw_seldomsteps_k38_systems_judged) (n := 63) (k := 10) (x := "script") rfl (by decide) (by kernel_rfl) ⟨rfl, by decide, by decide⟩ ?F
    intro w mg at_ h Y G hmg0
    obtain ⟨K, KX, c, cx⟩ := Y
    have hmg : mg ("law" : PySem.Str) = some (.ref at_) := by
      have e : (HandSHeadRun.topDef My.Ro.prog 42).name = ("law" : PySem.Str) := by kernel_rfl
      rw [← e]
      exact hmg0
    obtain ⟨fd, hb, hF⟩ := My.facts (Pm := (PySem.Challenge.rw_seldomsteps_k38_systems_judged).prog) (w := w) KX G hmg c cx
    exact ⟨K, fd, _, KX, hb, fun H a is hl _ hS => R.sp_start hS (R.law_true 0 is), hF⟩

