import PyProof.Rows.All
import Wide.All
import OpenK.AllK
import Wide.FinOn
import PyProof.EqAt
import PyProof.EqKinds
import PyProof.TupleCall
import HandS.Base
import HandS.Call
import HandS.List
import HandS.Comp
import HandS.Dict
import HandS.Exc
import HandS.TupAny
import HandS.TupLe
import HandS.Deep
import HandS.Style
import HandS.CallSlots
import HandS.TupLen
import HandS.Words
import HandS.WordsList
import HandS.WordsExc
import HandS.TupMul
import PyProof.P3Eq
import PyProof.P3In
import HandS.Flow
import HandS.TryOnly
import KE.KTupSum
import KE.DataMinMax
import PyProof.ListOps
import PyProof.AutoSeq1
import HandS.Small
import HandS.Ends
import HandS.Defaults
import HandS.Conv
import PyProof.ReprRoads
import PyProof.CallFns
import PyProof.Rows.FactsT3
import HandS.HeadEnd
import HandS.Head0
import HandS.Head1
import HandS.Head2
import HandS.HeadHook1
import HandS.HeadHook2
import KE.KStateDown
import PySem.Challenge.RW_larderdays_k48_stable_shares
set_option Elab.async false
set_option linter.all false
set_option maxRecDepth 100000
namespace Ev
open PySem
abbrev PD := PyData
/-- a value: frozen data, a cell of the store, a def, a tuple with such in it -/
inductive D where
  | py (d : PD) | ref (n : Nat) | fn (f : Nat) | tp (ds : List D) | scr (ns : List Int)
inductive Cell where
  | lst (ds : List D)
  | dct (kvs : List (List Int × D))
  | ins (c : Nat) (fs : List (Str × D))
  | frz (d : PD)
abbrev Store := List Cell
abbrev EnvD := List (Option D)
/-- an error that flies: its class, its one field -/
structure Exc where
  cls : Nat
  fld : Option (Str × PD)
inductive Rs (α : Type) where
  | ok (a : α) (st : Store)
  | ex (e : Exc) (st : Store)
  | bad
def Rs.bind {α β : Type} (r : Rs α) (k : α → Store → Rs β) : Rs β := match r with
  | .ok a st => k a st
  | .ex e st => .ex e st
  | .bad => .bad
@[simp] theorem Rs.bind_ok {α β : Type} (a : α) (st : Store) (k : α → Store → Rs β) : (Rs.ok a st).bind k = k a st := rfl
@[simp] theorem Rs.bind_ex {α β : Type} (e : Exc) (st : Store) (k : α → Store → Rs β) : (Rs.ex e st : Rs α).bind k = .ex e st := rfl
@[simp] theorem Rs.bind_bad {α β : Type} (k : α → Store → Rs β) : (Rs.bad : Rs α).bind k = .bad := rfl
def Rs.of {α : Type} (o : Option α) (st : Store) : Rs α := match o with
  | some a => .ok a st
  | none => .bad
@[simp] theorem Rs.of_some {α : Type} (a : α) (st : Store) : Rs.of (some a) st = .ok a st := rfl
@[simp] theorem Rs.of_none {α : Type} (st : Store) : (Rs.of none st : Rs α) = .bad := rfl
/-- the largest size of a list, a tuple, a text -/
abbrev line : Nat := 16777216

def pys : List D → Option (List PD)
  | [] => some []
  | .py d :: r => (pys r).map (d :: ·)
  | _ :: _ => none
theorem pys_map (l : List PD) : pys (l.map .py) = some l := by
  induction l with
  | nil => rfl
  | cons a r ih => simp only [List.map_cons, pys, ih, Option.map_some]
def mkTup (ds : List D) : D := match pys ds with
  | some ps => .py (.tuple ps)
  | none => .tp ds
/-- the items of a list, of a list or a tuple -/
def listOf (st : Store) : D → Option (List D)
  | .py (.list ds) => some (ds.map .py)
  | .ref n => (match st[n]? with
    | some (.lst ds) => some ds
    | some (.frz (.list ds)) => some (ds.map .py)
    | _ => none)
  | _ => none
def tupOf : D → Option (List D)
  | .py (.tuple ds) => some (ds.map .py)
  | .tp ds => some ds
  | _ => none
def seqOf (st : Store) (d : D) : Option (List D) := match listOf st d with
  | some l => some l
  | none => tupOf d
/-- the data as it stands now, through the cells -/
def valF : Nat → Store → D → Option PD
  | _, _, .py d => some d
  | 0, _, _ => none
  | n + 1, st, .ref k => (match st[k]? with
    | some (.lst ds) => (ds.mapM (valF n st)).map .list
    | some (.frz d) => some d
    | _ => none)
  | n + 1, st, .tp ds => (ds.mapM (valF n st)).map .tuple
  | _, _, .fn _ => none
  | _, _, .scr _ => none
abbrev val (st : Store) (d : D) : Option PD := valF 6 st d
@[simp] theorem valF_py (n : Nat) (st : Store) (d : PD) : valF n st (.py d) = some d := by cases n <;> rfl
def intOf : D → Option Int
  | .py (.int i) => some i
  | _ => none
def intsOf : List PD → Option (List Int)
  | [] => some []
  | .int i :: r => (intsOf r).map (i :: ·)
  | _ :: _ => none
theorem intsOf_map (l : List Int) : intsOf (l.map .int) = some l := by
  induction l with
  | nil => rfl
  | cons a r ih => simp only [List.map_cons, intsOf, ih, Option.map_some]
def keyOf : D → Option (List Int)
  | .py (.tuple ds) => intsOf ds
  | _ => none

inductive BOp where | add | sub | mul | fdiv | mod | pow
inductive COp where | lt | le | gt | ge | eq | ne | isin | notin

def cut {α : Type} (xs : List α) (lo hi : Option Int) : List α := (xs.drop (HT.sIx xs.length 0 lo)).take (HT.sIx xs.length xs.length hi - HT.sIx xs.length 0 lo)
abbrev ixN := L2.ixN
def small (i : Int) : Bool := decide (-(2 ^ 64) < i) && decide (i < 2 ^ 64)
mutual
def ltPD : PD → PD → Option Bool
  | .int i, .int j => some (decide (i < j))
  | .tuple xs, .tuple ys => ltAll xs ys
  | _, _ => none
def ltAll : List PD → List PD → Option Bool
  | [], [] => some false
  | [], _ :: _ => some true
  | _ :: _, [] => some false
  | x :: xs, y :: ys => (ltAll xs ys).bind fun r => if PyData.eqv x y = true then some r else ltPD x y
end
def bop (st : Store) (op : BOp) (a b : D) : Option D := match op, a, b with
  | .add, .py (.int i), .py (.int j) => some (.py (.int (i + j)))
  | .sub, .py (.int i), .py (.int j) => some (.py (.int (i - j)))
  | .mul, .py (.int i), .py (.int j) => if small i || small j then some (.py (.int (i * j))) else none
  | .fdiv, .py (.int i), .py (.int j) => if decide (0 < j) && decide (j < 1073741824) then some (.py (.int (i / j))) else none
  | .mod, .py (.int i), .py (.int j) => if decide (0 < j) then some (.py (.int (i % j))) else none
  | .pow, .py (.int i), .py (.int j) => if decide (0 ≤ j) && decide (j ≤ 1000000) && small i then some (.py (.int (i ^ j.toNat))) else none
  | .add, .py (.str x), .py (.str y) => if x.length + y.length ≤ line then some (.py (.str (x ++ y))) else none
  | .add, .py (.tuple x), .py (.tuple y) => if x.length + y.length ≤ line then some (.py (.tuple (x ++ y))) else none
  | .add, .py (.list x), .py (.list y) => if x.length + y.length ≤ line then some (.py (.list (x ++ y))) else none
  | .mul, .py (.list x), .py (.int k) => if decide (0 ≤ k) && decide (k < 1000) && decide (x.length * k.toNat ≤ line) then some (.py (.list (List.replicate k.toNat x).flatten)) else none
  | .mul, .py (.tuple x), .py (.int k) => if k = 1 then some (.py (.tuple x)) else if decide (2 ≤ k) && decide (k ≤ 1000) && !x.isEmpty && decide (x.length ≤ 1000) then some (.py (.tuple (List.replicate k.toNat x).flatten)) else none
  | _, _, _ => none
def cmpI : COp → Int → Int → Option Bool
  | .lt, i, j => some (decide (i < j))
  | .le, i, j => some (decide (i ≤ j))
  | .gt, i, j => some (decide (j < i))
  | .ge, i, j => some (decide (j ≤ i))
  | _, _, _ => none
def valK (kvs : List (List Int × D)) (k : List Int) : Option D := (kvs.find? fun kv => decide (kv.1 = k)).map (·.2)
def isinD (st : Store) (a b : D) : Option Bool := match b with
  | .ref n => (match st[n]? with
    | some (.dct kvs) => (keyOf a).map fun k => (valK kvs k).isSome
    | _ => none)
  | .py (.list ds) => (match val st a with
    | some d => if (SeqAt.shaped d && SeqAt.shaped (.list ds)) = true then some (ds.any fun z => PyData.eqv z d) else none
    | none => none)
  | _ => none
def cop (st : Store) (op : COp) (a b : D) : Option Bool := match op with
  | .eq => (match val st a, val st b with
    | some x, some y => if (SeqAt.shaped x && SeqAt.shaped y) = true then some (PyData.eqv x y) else none
    | _, _ => none)
  | .ne => (match val st a, val st b with
    | some x, some y => if (SeqAt.shaped x && SeqAt.shaped y) = true then some (!PyData.eqv x y) else none
    | _, _ => none)
  | .isin => isinD st a b
  | .notin => (isinD st a b).map (!·)
  | op => (match a, b with
    | .py (.int i), .py (.int j) => cmpI op i j
    | .py x, .py y => (match op with
      | .lt => if (SeqAt.shaped x && SeqAt.shaped y) = true then ltPD x y else none
      | _ => none)
    | _, _ => none)
def augI (op : BOp) (a b : D) : Option D := match op, a, b with
  | .add, .py (.int i), .py (.int j) => some (.py (.int (i + j)))
  | .sub, .py (.int i), .py (.int j) => some (.py (.int (i - j)))
  | _, _, _ => none
def isLst (st : Store) : D → Bool
  | .ref n => (match st[n]? with
    | some (.lst _) => true
    | _ => false)
  | _ => false
def appD (st : Store) (x z : D) : Option Store := match x with
  | .ref n => (match st[n]? with
    | some (.lst ds) => if ds.length < line then some (st.set n (.lst (ds ++ [z]))) else none
    | _ => none)
  | _ => none
/-- is it the same as None, True, False -/
def isc (c : PD) (d : D) : Option Bool := match c, d with
  | .none, .py .none => some true
  | .none, .py _ => some false
  | .none, .ref _ => some false
  | .none, .tp _ => some false
  | .bool b, .py (.bool k) => some (decide (k = b))
  | _, .py _ => none
  | _, .ref _ => none
  | _, .tp _ => none
  | _, .fn _ => none
  | _, .scr _ => none
def truth (st : Store) (d : D) : Option Bool := match d with
  | .py .none => some false
  | .py (.bool b) => some b
  | .py (.int i) => some (i != 0)
  | .py (.str x) => if x.length ≤ line then some (x.length != 0) else none
  | d => (seqOf st d).map (!·.isEmpty)
def getix (st : Store) (a i : D) : Option D := match a with
  | .ref n => (match st[n]? with
    | some (.dct kvs) => (keyOf i).bind fun k => valK kvs k
    | some (.lst ds) => (intOf i).bind fun i => (ixN ds.length i).bind fun j => ds[j]?
    | some (.frz (.list ds)) => (intOf i).bind fun i => (ixN ds.length i).bind fun j => (ds[j]?).map .py
    | _ => none)
  | .py (.list ds) => (intOf i).bind fun i => (ixN ds.length i).bind fun j => (ds[j]?).map .py
  | .py (.tuple ds) => (intOf i).bind fun i => (ixN ds.length i).bind fun j => (ds[j]?).map .py
  | .tp ds => (intOf i).bind fun i => (ixN ds.length i).bind fun j => ds[j]?
  | .scr ns => (intOf i).bind fun i => (ixN ns.length i).bind fun j => (ns[j]?).map fun z => .py (.int z)
  | _ => none
def putK (kvs : List (List Int × D)) (k : List Int) (v : D) : List (List Int × D) := if (kvs.any fun kv => decide (kv.1 = k)) = true then kvs.map fun kv => if kv.1 = k then (kv.1, v) else kv else kvs ++ [(k, v)]
def setix (st : Store) (a i v : D) : Option Store := match a with
  | .ref n => (match st[n]? with
    | some (.lst ds) => (intOf i).bind fun i => (ixN ds.length i).map fun j => st.set n (.lst (ds.set j v))
    | some (.dct kvs) => (keyOf i).bind fun k => if kvs.length < line then some (st.set n (.dct (putK kvs k v))) else none
    | _ => none)
  | _ => none
def slcD (st : Store) (a : D) (lo hi : Option Int) : Option D := match a with
  | .py (.tuple ds) => some (.py (.tuple (cut ds lo hi)))
  | .py (.list ds) => some (.py (.list (cut ds lo hi)))
  | _ => none

inductive Bi where | len | sum | max | min | max2 | min2 | abs | int | tuple | sorted
def sumI (ds : List PD) : Option Int := (intsOf ds).map List.sum
def maxI (l : List Int) : Option Int := match l with
  | [] => none
  | a :: r => some (r.foldl max a)
def minI (l : List Int) : Option Int := match l with
  | [] => none
  | a :: r => some (r.foldl min a)
def seqPD (st : Store) (d : D) : Option (List PD) := (seqOf st d).bind pys
def seqI (st : Store) (d : D) : Option (List Int) := (seqPD st d).bind intsOf
def bi (st : Store) (b : Bi) (ds : List D) : Option D := match b, ds with
  | .len, [d] => (match d with
    | .py (.str x) => if x.length ≤ line then some (.py (.int x.length)) else none
    | .ref n => (match st[n]? with
      | some (.dct kvs) => some (.py (.int kvs.length))
      | some (.lst l) => some (.py (.int l.length))
      | some (.frz (.list l)) => some (.py (.int l.length))
      | _ => none)
    | .scr ns => some (.py (.int ns.length))
    | d => (seqOf st d).map fun l => .py (.int l.length))
  | .sum, [d] => (seqI st d).map fun l => .py (.int l.sum)
  | .max, [d] => (seqI st d).bind fun l => (maxI l).map fun i => .py (.int i)
  | .min, [d] => (seqI st d).bind fun l => (minI l).map fun i => .py (.int i)
  | .max2, [.py (.int i), .py (.int j)] => some (.py (.int (if j > i then j else i)))
  | .min2, [.py (.int i), .py (.int j)] => some (.py (.int (if j < i then j else i)))
  | .abs, [.py (.int i)] => some (.py (.int (if i < 0 then -i else i)))
  | .int, [.py (.int i)] => some (.py (.int i))
  | .int, [.py (.bool b)] => some (.py (.int (if b then 1 else 0)))
  | .tuple, [d] => (seqPD st d).map fun l => .py (.tuple l)
  | _, _ => none

/-- the deep freezing of a value -/
def frzD : Nat → Store → D → Option (PD × Store)
  | _, st, .py d => some (d, st)
  | 0, _, _ => none
  | k + 1, st, .ref n => (match st[n]? with
    | some (.frz d) => some (d, st)
    | some (.lst ds) => (ds.foldlM (fun (p : List PD × Store) d => (frzD k p.2 d).map fun q => (p.1 ++ [q.1], q.2)) (([] : List PD), st)).map fun p => (.list p.1, p.2.set n (.frz (.list p.1)))
    | _ => none)
  | k + 1, st, .tp ds => (ds.foldlM (fun (p : List PD × Store) d => (frzD k p.2 d).map fun q => (p.1 ++ [q.1], q.2)) (([] : List PD), st)).map fun p => (.tuple p.1, p.2)
  | _, _, .fn _ => none
  | _, _, .scr _ => none

/-- targets: a name's slot; several -/
inductive Tg where
  | nm (i : Nat)
  | two (a b : Tg)
  | thr (a b c : Tg)
def asg : Tg → Store → D → EnvD → Option EnvD
  | .nm i, _, d, ρ => some (ρ.set i (some d))
  | .two a b, st, d, ρ => (match seqOf st d with
    | some [x, y] => (asg a st x ρ).bind (asg b st y)
    | _ => none)
  | .thr a b c, st, d, ρ => (match seqOf st d with
    | some [x, y, z] => (asg a st x ρ).bind fun ρ => (asg b st y ρ).bind (asg c st z)
    | _ => none)
def wipe (ρ : EnvD) : List Nat → EnvD
  | [] => ρ
  | v :: vs => (wipe ρ vs).set v none

mutual
inductive E where
  | var (i : Nat)
  | con (d : PD)
  | fnv (f : Nat)
  | tup (es : Es)
  | li (l : L)
  | cell (l : L)
  | dnew
  | frz (a : E)
  | bin (op : BOp) (a b : E)
  | neg (a : E)
  | cmp (op : COp) (a b : E)
  | cmp2 (op op' : COp) (a b c : E)
  | isc (c : PD) (ng : Bool) (a : E)
  | and (a b : E)
  | or (a b : E)
  | nt (a : E)
  | ife (t : T) (a b : E)
  | ix (a i : E)
  | sl (a : E) (lo hi : O)
  | call (f : Nat) (es : Es)
  | bi (b : Bi) (es : Es)
  | fld (a : E) (f : Str)
  | mk (c : Nat) (f : Nat) (es : Es)
  | same (a b : E)
  | trng (a : E)
inductive O where
  | no
  | so (e : E)
inductive Es where
  | nil
  | cons (e : E) (r : Es)
inductive L where
  | lst (es : Es)
  | lc (elt : E) (tg : Tg) (own : List Nat) (it : It) (t : T)
  | seq (e : E)
inductive T where
  | v (e : E)
  | and (a b : T)
  | or (a b : T)
  | nt (a : T)
  | yes
inductive It where
  | e (e : E)
  | rng (a : E)
  | rng2 (a b : E)
  | enm (a : E)
  | zip (a b : E)
end
inductive Fl where
  | nx | rt (d : D) | bk | ct | xc (e : Exc)
inductive RS where
  | go (f : Fl) (ρ : EnvD) (st : Store) | bad
mutual
inductive S where
  | set (i : Nat) (e : E)
  | asg (t : Tg) (e : E)
  | swp (i j : Nat) (a b : E)
  | stI (a i v : E)
  | stF (a : E) (f : Str) (v : E)
  | aug (i : Nat) (op : BOp) (e : E)
  | ext (i : Nat) (e : E)
  | app (a v : E)
  | ife (t : T) (a b : Ss)
  | for (tg : Tg) (it : It) (b : Ss)
  | whl (t : T) (b : Ss)
  | ret (e : E)
  | expr (e : E)
  | brk | cnt | pass
inductive Ss where
  | nil
  | cons (s : S) (r : Ss)
end

/-- what the defs do -/
abbrev Dn := Nat → List D → Store → Rs D
def rangeD (lo hi : Int) : List D := (List.range (hi - lo).toNat).map fun (i : Nat) => .py (.int (lo + i))
def enumD (l : List D) : List D := (List.range l.length).zipWith (fun (i : Nat) d => mkTup [.py (.int i), d]) l
def zipD (a b : List D) : List D := List.zipWith (fun x y => mkTup [x, y]) a b
def fit (i : Int) : Bool := decide (-(2 ^ 62) ≤ i) && decide (i < 2 ^ 62)
/-- no error leaves a block -/
def Rs.noex {α : Type} (r : Rs α) : Rs α := match r with
  | .ex _ _ => .bad
  | r => r
@[simp] theorem Rs.noex_ok {α : Type} (a : α) (st : Store) : (Rs.ok a st).noex = .ok a st := rfl
@[simp] theorem Rs.noex_bad {α : Type} : (Rs.bad : Rs α).noex = .bad := rfl
/-- the turns of a comprehension -/
def lcLoop (f : D → Store → Rs (Option D)) : List D → List D → Store → Rs (List D)
  | acc, [], st => .ok acc st
  | acc, d :: ds, st => (f d st).bind fun o st => match o with
    | some x => if acc.length < line then lcLoop f (acc ++ [x]) ds st else .bad
    | none => lcLoop f acc ds st
def lcTurn (elt : EnvD → Store → Rs D) (t : EnvD → Store → Rs Bool) (tg : Tg) (ρ : EnvD) (d : D) (st : Store) : Rs (Option D) := match asg tg st d ρ with
  | some ρ' => (t ρ' st).noex.bind fun b st => if b = true then (elt ρ' st).noex.bind fun x st => .ok (some x) st else .ok none st
  | none => .bad
/-- what can be shown -/
def okShow (p : PD) : Bool := SeqAt.shaped p && (PyData.showable p && decide (p.shown.length ≤ line))
def shw (st : Store) (d : D) : Option PD := (val st d).bind fun p => if okShow p = true then some p else none
noncomputable def sameP (p q : PD) : Option D := open Classical in if p = q then some (.py (.bool true)) else none
section
variable (Δ : Dn)
mutual
noncomputable def ev : E → EnvD → Store → Rs D
  | .var i, ρ, st => (match ρ[i]? with
    | some (some (.ref n)) => (match st[n]? with
      | some (.frz d) => .ok (.py d) st
      | _ => .ok (.ref n) st)
    | some (some d) => .ok d st
    | _ => .bad)
  | .con d, _, st => .ok (.py d) st
  | .fnv f, _, st => .ok (.fn f) st
  | .tup es, ρ, st => (evs es ρ st).bind fun ds st => .ok (mkTup ds) st
  | .li l, ρ, st => (evL l ρ st).bind fun ds st => match pys ds with
    | some ps => .ok (.py (.list ps)) st
    | none => .bad
  | .cell l, ρ, st => (evL l ρ st).bind fun ds st => .ok (.ref st.length) (st ++ [.lst ds])
  | .dnew, _, st => .ok (.ref st.length) (st ++ [.dct []])
  | .frz a, ρ, st => (ev a ρ st).bind fun d st => match frzD 6 st d with
    | some (p, st) => .ok (.py p) st
    | none => .bad
  | .bin op a b, ρ, st => (ev a ρ st).bind fun x st => (ev b ρ st).bind fun y st => .of (bop st op x y) st
  | .neg a, ρ, st => (ev a ρ st).bind fun x st => .of ((intOf x).map fun i => .py (.int (-i))) st
  | .cmp op a b, ρ, st => (ev a ρ st).bind fun x st => (ev b ρ st).bind fun y st => .of ((cop st op x y).map fun b => .py (.bool b)) st
  | .cmp2 op op' a b c, ρ, st => (ev a ρ st).bind fun x st => (ev b ρ st).bind fun y st => (Rs.of (cop st op x y) st).bind fun k st =>
    if k = true then (ev c ρ st).bind fun z st => .of ((cop st op' y z).map fun b => .py (.bool b)) st else .ok (.py (.bool false)) st
  | .isc c ng a, ρ, st => (ev a ρ st).bind fun x st => .of ((isc c x).map fun b => .py (.bool (b != ng))) st
  | .and a b, ρ, st => (ev a ρ st).bind fun x st => (match x with
    | .py (.bool true) => ev b ρ st
    | .py (.bool false) => .ok (.py (.bool false)) st
    | _ => .bad)
  | .or a b, ρ, st => (ev a ρ st).bind fun x st => (match x with
    | .py (.bool true) => .ok (.py (.bool true)) st
    | .py (.bool false) => ev b ρ st
    | _ => .bad)
  | .nt a, ρ, st => (ev a ρ st).bind fun x st => .of ((truth st x).map fun b => .py (.bool (!b))) st
  | .ife t a b, ρ, st => (evT t ρ st).bind fun k st => if k = true then ev a ρ st else ev b ρ st
  | .ix a i, ρ, st => (ev a ρ st).bind fun x st => (ev i ρ st).bind fun y st => .of (getix st x y) st
  | .sl a lo hi, ρ, st => (ev a ρ st).bind fun x st => (evO lo ρ st).bind fun l st => (evO hi ρ st).bind fun h st => .of (slcD st x l h) st
  | .call f es, ρ, st => (evs es ρ st).bind fun ds st => Δ f ds st
  | .bi b es, ρ, st => (evs es ρ st).bind fun ds st => .of (bi st b ds) st
  | .fld a f, ρ, st => (ev a ρ st).bind fun x st => (match x with
    | .ref n => (match st[n]? with
      | some (.ins _ fs) => .of (fs.lookup f) st
      | _ => .bad)
    | _ => .bad)
  | .mk c f es, ρ, st => (evs es ρ st).bind fun ds st => (Δ f (.ref st.length :: ds) (st ++ [.ins c []])).bind fun r st' => (match r with
    | .py .none => .ok (.ref st.length) st'
    | _ => .bad)
  | .same a b, ρ, st => (ev a ρ st).bind fun x st => (Rs.of (shw st x) st).bind fun p st => (ev b ρ st).bind fun y st => (Rs.of (shw st y) st).bind fun q st => .of (sameP p q) st
  | .trng a, ρ, st => (ev a ρ st).bind fun x st => (match x with
    | .py (.int j) => if decide (j ≤ 16777216) && decide (-16777216 ≤ j) then .ok (.py (.tuple ((List.range j.toNat).map fun (i : Nat) => .int i))) st else .bad
    | _ => .bad)
noncomputable def evO : O → EnvD → Store → Rs (Option Int)
  | .no, _, st => .ok none st
  | .so e, ρ, st => (ev e ρ st).bind fun x st => .of ((intOf x).map some) st
noncomputable def evs : Es → EnvD → Store → Rs (List D)
  | .nil, _, st => .ok [] st
  | .cons e r, ρ, st => (ev e ρ st).bind fun d st => (evs r ρ st).bind fun ds st => .ok (d :: ds) st
noncomputable def evL : L → EnvD → Store → Rs (List D)
  | .lst es, ρ, st => (evs es ρ st).bind fun ds st => if ds.length ≤ line then .ok ds st else .bad
  | .lc elt tg own it t, ρ, st => (evI it ρ st).bind fun ds st => lcLoop (lcTurn (ev elt) (evT t) tg (wipe ρ own)) [] ds st
  | .seq e, ρ, st => (ev e ρ st).bind fun d st => .of (seqOf st d) st
noncomputable def evT : T → EnvD → Store → Rs Bool
  | .v e, ρ, st => (ev e ρ st).bind fun d st => .of (truth st d) st
  | .and a b, ρ, st => (evT a ρ st).bind fun k st => if k = true then evT b ρ st else .ok false st
  | .or a b, ρ, st => (evT a ρ st).bind fun k st => if k = true then .ok true st else evT b ρ st
  | .nt a, ρ, st => (evT a ρ st).bind fun k st => .ok (!k) st
  | .yes, _, st => .ok true st
noncomputable def evI : It → EnvD → Store → Rs (List D)
  | .e e, ρ, st => (ev e ρ st).bind fun d st => (match d with
    | .ref _ => .bad
    | d => .of (seqOf st d) st)
  | .rng a, ρ, st => (ev a ρ st).bind fun x st => (match x with
    | .py (.int j) => if fit j = true then .ok (rangeD 0 j) st else .bad
    | _ => .bad)
  | .rng2 a b, ρ, st => (ev a ρ st).bind fun x st => (ev b ρ st).bind fun y st => (match x, y with
    | .py (.int i), .py (.int j) => if (fit i && fit j) = true then .ok (rangeD i j) st else .bad
    | _, _ => .bad)
  | .enm a, ρ, st => (ev a ρ st).bind fun x st => (match x with
    | .ref _ => .bad
    | d => .of ((seqOf st d).map enumD) st)
  | .zip a b, ρ, st => (ev a ρ st).bind fun x st => (ev b ρ st).bind fun y st => (match x, y with
    | .ref _, _ => .bad
    | _, .ref _ => .bad
    | x, y => (match seqOf st x, seqOf st y with
      | some l, some l' => .ok (zipD l l') st
      | _, _ => .bad))
end
end
def Rs.to {α : Type} (r : Rs α) (ρ : EnvD) (k : α → Store → RS) : RS := match r with
  | .ok a st => k a st
  | .ex e st => .go (.xc e) ρ st
  | .bad => .bad
@[simp] theorem Rs.to_ok {α : Type} (a : α) (st : Store) (ρ : EnvD) (k : α → Store → RS) : (Rs.ok a st).to ρ k = k a st := rfl
@[simp] theorem Rs.to_ex {α : Type} (e : Exc) (st : Store) (ρ : EnvD) (k : α → Store → RS) : (Rs.ex e st : Rs α).to ρ k = .go (.xc e) ρ st := rfl
@[simp] theorem Rs.to_bad {α : Type} (ρ : EnvD) (k : α → Store → RS) : (Rs.bad : Rs α).to ρ k = .bad := rfl
/-- behind a turn: the next one, or the loop's end -/
def RS.turn (r : RS) (k : EnvD → Store → RS) : RS := match r with
  | .go .nx ρ st => k ρ st
  | .go .ct ρ st => k ρ st
  | .go .bk ρ st => .go .nx ρ st
  | .go f ρ st => .go f ρ st
  | .bad => .bad
def RS.seq (r : RS) (k : EnvD → Store → RS) : RS := match r with
  | .go .nx ρ st => k ρ st
  | .go f ρ st => .go f ρ st
  | .bad => .bad
@[simp] theorem RS.turn_nx (ρ : EnvD) (st : Store) (k : EnvD → Store → RS) : (RS.go .nx ρ st).turn k = k ρ st := rfl
@[simp] theorem RS.turn_ct (ρ : EnvD) (st : Store) (k : EnvD → Store → RS) : (RS.go .ct ρ st).turn k = k ρ st := rfl
@[simp] theorem RS.turn_bk (ρ : EnvD) (st : Store) (k : EnvD → Store → RS) : (RS.go .bk ρ st).turn k = .go .nx ρ st := rfl
@[simp] theorem RS.turn_rt (d : D) (ρ : EnvD) (st : Store) (k : EnvD → Store → RS) : (RS.go (.rt d) ρ st).turn k = .go (.rt d) ρ st := rfl
@[simp] theorem RS.turn_xc (e : Exc) (ρ : EnvD) (st : Store) (k : EnvD → Store → RS) : (RS.go (.xc e) ρ st).turn k = .go (.xc e) ρ st := rfl
@[simp] theorem RS.turn_bad (k : EnvD → Store → RS) : RS.bad.turn k = .bad := rfl
@[simp] theorem RS.seq_nx (ρ : EnvD) (st : Store) (k : EnvD → Store → RS) : (RS.go .nx ρ st).seq k = k ρ st := rfl
@[simp] theorem RS.seq_ct (ρ : EnvD) (st : Store) (k : EnvD → Store → RS) : (RS.go .ct ρ st).seq k = .go .ct ρ st := rfl
@[simp] theorem RS.seq_bk (ρ : EnvD) (st : Store) (k : EnvD → Store → RS) : (RS.go .bk ρ st).seq k = .go .bk ρ st := rfl
@[simp] theorem RS.seq_rt (d : D) (ρ : EnvD) (st : Store) (k : EnvD → Store → RS) : (RS.go (.rt d) ρ st).seq k = .go (.rt d) ρ st := rfl
@[simp] theorem RS.seq_xc (e : Exc) (ρ : EnvD) (st : Store) (k : EnvD → Store → RS) : (RS.go (.xc e) ρ st).seq k = .go (.xc e) ρ st := rfl
@[simp] theorem RS.seq_bad (k : EnvD → Store → RS) : RS.bad.seq k = .bad := rfl
def forLoop (f : D → EnvD → Store → RS) : List D → EnvD → Store → RS
  | [], ρ, st => .go .nx ρ st
  | d :: ds, ρ, st => (f d ρ st).turn fun ρ st => forLoop f ds ρ st
def whlLoop (t : EnvD → Store → Rs Bool) (f : EnvD → Store → RS) : Nat → EnvD → Store → RS
  | 0, _, _ => .bad
  | n + 1, ρ, st => (t ρ st).to ρ fun b st => if b = true then (f ρ st).turn fun ρ st => whlLoop t f n ρ st else .go .nx ρ st
def putF (f : Str) (v : D) : List (Str × D) → List (Str × D)
  | [] => [(f, v)]
  | (g, x) :: r => if g = f then (g, v) :: r else (g, x) :: putF f v r
abbrev nx (ρ : EnvD) (st : Store) : RS := .go .nx ρ st
def bindT (tg : Tg) (st : Store) (d : D) (ρ : EnvD) (k : EnvD → Store → RS) : RS := match asg tg st d ρ with
  | some ρ' => k ρ' st
  | none => .bad
section
variable (Δ : Dn) (fu : Nat)
mutual
noncomputable def ex : S → EnvD → Store → RS
  | .set i e, ρ, st => (ev Δ e ρ st).to ρ fun d st => nx (ρ.set i (some d)) st
  | .asg t e, ρ, st => (ev Δ e ρ st).to ρ fun d st => bindT t st d ρ nx
  | .swp i j a b, ρ, st => (ev Δ a ρ st).to ρ fun x st => (ev Δ b ρ st).to ρ fun y st => nx ((ρ.set i (some x)).set j (some y)) st
  | .stI a i v, ρ, st => (ev Δ v ρ st).to ρ fun z st => (ev Δ a ρ st).to ρ fun x st => (ev Δ i ρ st).to ρ fun y st => (match setix st x y z with
    | some st' => nx ρ st'
    | none => .bad)
  | .stF a f v, ρ, st => (ev Δ v ρ st).to ρ fun z st => (ev Δ a ρ st).to ρ fun x st => (match x with
    | .ref n => (match st[n]? with
      | some (.ins c fs) => if fs.length < 20 then nx ρ (st.set n (.ins c (putF f z fs))) else .bad
      | _ => .bad)
    | _ => .bad)
  | .aug i op e, ρ, st => (match ρ[i]? with
    | some (some x) => (ev Δ e ρ st).to ρ fun y st => (match augI op x y with
      | some z => nx (ρ.set i (some z)) st
      | none => .bad)
    | _ => .bad)
  | .ext i e, ρ, st => (match ρ[i]? with
    | some (some (.ref n)) => (ev Δ e ρ st).to ρ fun y st => (match st[n]?, listOf st y with
      | some (.lst ds), some l => if ds.length + l.length ≤ line then nx ρ (st.set n (.lst (ds ++ l))) else .bad
      | _, _ => .bad)
    | _ => .bad)
  | .app a v, ρ, st => (ev Δ a ρ st).to ρ fun x st => if isLst st x = true then (ev Δ v ρ st).to ρ fun z st => (match appD st x z with
    | some st' => nx ρ st'
    | none => .bad) else .bad
  | .ife t a b, ρ, st => (evT Δ t ρ st).to ρ fun k st => if k = true then exs a ρ st else exs b ρ st
  | .for tg it b, ρ, st => (evI Δ it ρ st).to ρ fun ds st => forLoop (fun d ρ st => bindT tg st d ρ (exs b)) ds ρ st
  | .whl t b, ρ, st => whlLoop (evT Δ t) (exs b) fu ρ st
  | .ret e, ρ, st => (ev Δ e ρ st).to ρ fun d st => .go (.rt d) ρ st
  | .expr e, ρ, st => (ev Δ e ρ st).to ρ fun _ st => nx ρ st
  | .brk, ρ, st => .go .bk ρ st
  | .cnt, ρ, st => .go .ct ρ st
  | .pass, ρ, st => nx ρ st
noncomputable def exs : Ss → EnvD → Store → RS
  | .nil, ρ, st => nx ρ st
  | .cons s r, ρ, st => (ex s ρ st).seq (exs r)
end
/-- no cell of the old ones, nor the value, names a younger one -/
def refsUnder (n : Nat) : Nat → D → Bool
  | _, .py _ => true
  | _, .ref k => decide (k < n)
  | _, .fn _ => true
  | _, .scr _ => true
  | 0, .tp _ => false
  | j + 1, .tp ds => ds.all (refsUnder n j)
def cellUnder (n : Nat) : Cell → Bool
  | .lst ds => ds.all (refsUnder n 3)
  | .dct kvs => kvs.all fun p => refsUnder n 3 p.2
  | .ins _ fs => fs.all fun p => refsUnder n 3 p.2
  | .frz _ => true
/-- behind a call: what no one can reach is forgotten -/
def trim (n : Nat) (d : D) (st : Store) : Store := if refsUnder n 3 d && (st.take n).all (cellUnder n) then st.take n else st
/-- a def: ar parameters, sl slots -/
noncomputable def runFn (ar sl : Nat) (b : Ss) (ds : List D) (st : Store) : Rs D :=
  if ds.length = ar then
    match exs Δ fu b (ds.map some ++ List.replicate (sl - ar) none) st with
    | .go (.rt d) _ st' => .ok d (trim st.length d st')
    | .go .nx _ st' => .ok (.py .none) (trim st.length (.py .none) st')
    | .go (.xc e) _ st' => .ex e (trim st.length (.py .none) st')
    | _ => .bad
  else .bad
end
end Ev
namespace Ev
open PySem PySem.Spec PyProof.Rows L2
def Le (F F' : Hp) : Prop := ∀ a o, F a = some o → F' a = some o
theorem Le.refl {F : Hp} : Le F F := fun _ _ e => e
theorem Le.trans {F G H : Hp} (a : Le F G) (b : Le G H) : Le F H := fun x o e => b x o (a x o e)
theorem Le.sqL {K : PySem.W.Frag} {F G : Hp} (l : Le F G) {a : Addr} {xs : List V} (h : SqL K F a xs) : SqL K G a xs := by
  rcases h with (h | ⟨o, h⟩) | h
  · exact .inl (.inl (l _ _ h))
  · exact .inl (.inr ⟨o, l _ _ h⟩)
  · exact .inr h
mutual
inductive Dq (F : Hp) : V → PyData → Prop
  | non : Dq F .non .none
  | bl (b : Bool) : Dq F (.bl b) (.bool b)
  | int (i : Int) : Dq F (.int i) (.int i)
  | str (x : Str) : Dq F (.str x) (.str x)
  | lst {a : Addr} {xs : List V} {ds : List PyData} : F a = some (.lst xs) → DqAll F xs ds → Dq F (.ref a) (.list ds)
  | tup {a : Addr} {xs : List V} {ds : List PyData} : F a = some (.tup xs) → DqAll F xs ds → Dq F (.ref a) (.tuple ds)
inductive DqAll (F : Hp) : List V → List PyData → Prop
  | nil : DqAll F [] []
  | cons {v : V} {vs : List V} {d : PyData} {ds : List PyData} : Dq F v d → DqAll F vs ds → DqAll F (v :: vs) (d :: ds)
end
mutual
theorem Dq.mono {F G : Hp} (l : Le F G) : ∀ {v : V} {d : PyData}, Dq F v d → Dq G v d
  | _, _, .non => .non
  | _, _, .bl b => .bl b
  | _, _, .int i => .int i
  | _, _, .str x => .str x
  | _, _, .lst h t => .lst (l _ _ h) (DqAll.mono l t)
  | _, _, .tup h t => .tup (l _ _ h) (DqAll.mono l t)
theorem DqAll.mono {F G : Hp} (l : Le F G) : ∀ {vs : List V} {ds : List PyData}, DqAll F vs ds → DqAll G vs ds
  | _, _, .nil => .nil
  | _, _, .cons h t => .cons (Dq.mono l h) (DqAll.mono l t)
end
mutual
theorem Dq.dp {K : PySem.W.Frag} {F : Hp} : ∀ {v : V} {d : PyData}, Dq F v d → Dp K F v d
  | _, _, .non => .non
  | _, _, .bl b => .bl b
  | _, _, .int i => .int i
  | _, _, .str x => .str x
  | _, _, .lst h t => .lst (.inl (.inl h)) (DqAll.dp t)
  | _, _, .tup h t => .tup (.inl (.inl h)) (DqAll.dp t)
theorem DqAll.dp {K : PySem.W.Frag} {F : Hp} : ∀ {vs : List V} {ds : List PyData}, DqAll F vs ds → DpAll K F vs ds
  | _, _, .nil => .nil
  | _, _, .cons h t => .cons (Dq.dp h) (DqAll.dp t)
end
theorem DqAll.length {F : Hp} : ∀ {vs : List V} {ds : List PyData}, DqAll F vs ds → vs.length = ds.length
  | _, _, .nil => rfl
  | _, _, .cons _ t => by rw [List.length_cons, List.length_cons, DqAll.length t]
theorem DqAll.get {F : Hp} : ∀ {vs : List V} {ds : List PyData} {j : Nat} {d : PyData}, DqAll F vs ds → ds[j]? = some d → ∃ v, vs[j]? = some v ∧ Dq F v d
  | _, _, _, _, .nil, e => by simp at e
  | _, _, 0, _, .cons h _, e => by simp at e; subst e; exact ⟨_, rfl, h⟩
  | _, _, j + 1, _, .cons _ t, e => by
    obtain ⟨v, h1, h2⟩ := DqAll.get (j := j) t (by simpa using e)
    exact ⟨v, by simpa using h1, h2⟩
theorem DqAll.append {F : Hp} : ∀ {vs : List V} {ds : List PyData} {us : List V} {es : List PyData}, DqAll F vs ds → DqAll F us es → DqAll F (vs ++ us) (ds ++ es)
  | _, _, _, _, .nil, h => h
  | _, _, _, _, .cons h t, g => .cons h (DqAll.append t g)
theorem DqAll.rep {F : Hp} {vs : List V} {ds : List PyData} (h : DqAll F vs ds) : ∀ n : Nat, DqAll F (List.replicate n vs).flatten (List.replicate n ds).flatten
  | 0 => .nil
  | n + 1 => by
    rw [List.replicate_succ, List.replicate_succ, List.flatten_cons, List.flatten_cons]
    exact h.append (DqAll.rep h n)
theorem DqAll.drop {F : Hp} : ∀ {vs : List V} {ds : List PyData} (n : Nat), DqAll F vs ds → DqAll F (vs.drop n) (ds.drop n)
  | _, _, 0, h => h
  | _, _, _ + 1, .nil => .nil
  | _, _, n + 1, .cons _ t => DqAll.drop n t
theorem DqAll.take {F : Hp} : ∀ {vs : List V} {ds : List PyData} (n : Nat), DqAll F vs ds → DqAll F (vs.take n) (ds.take n)
  | _, _, 0, _ => .nil
  | _, _, _ + 1, .nil => .nil
  | _, _, n + 1, .cons h t => .cons h (DqAll.take n t)
theorem DqAll.ints {F : Hp} : ∀ {vs : List V} {ds : List PyData} {ns : List Int}, DqAll F vs ds → intsOf ds = some ns → vs = ns.map V.int
  | _, _, _, .nil, e => by cases e; rfl
  | _, _, _, .cons (d := .int i) (.int _) t, e => by
    simp only [intsOf, Option.map_eq_some_iff] at e
    obtain ⟨ms, e1, rfl⟩ := e
    rw [DqAll.ints t e1]; rfl
  | _, _, _, .cons (d := .none) _ _, e => by simp [intsOf] at e
  | _, _, _, .cons (d := .bool _) _ _, e => by simp [intsOf] at e
  | _, _, _, .cons (d := .str _) _ _, e => by simp [intsOf] at e
  | _, _, _, .cons (d := .list _) _ _, e => by simp [intsOf] at e
  | _, _, _, .cons (d := .tuple _) _ _, e => by simp [intsOf] at e
  | _, _, _, .cons (d := .dict _) _ _, e => by simp [intsOf] at e

section
variable (K : PySem.W.Frag) (fa : Nat → Addr)
mutual
inductive RV (w : List Addr) (F : Hp) : V → D → Prop
  | py {v : V} {d : PyData} : Dq F v d → RV w F v (.py d)
  | scr {a : Addr} {ns : List Int} : SqL K F a (ns.map V.int) → RV w F (.ref a) (.scr ns)
  | ref {n : Nat} {a : Addr} : w[n]? = some a → RV w F (.ref a) (.ref n)
  | fn {f : Nat} : RV w F (.ref (fa f)) (.fn f)
  | tp {a : Addr} {vs : List V} {ds : List D} : F a = some (.tup vs) → RVs w F vs ds → RV w F (.ref a) (.tp ds)
inductive RVs (w : List Addr) (F : Hp) : List V → List D → Prop
  | nil : RVs w F [] []
  | cons {v : V} {vs : List V} {d : D} {ds : List D} : RV w F v d → RVs w F vs ds → RVs w F (v :: vs) (d :: ds)
end
end
theorem pre_get {w w' : List Addr} (p : w <+: w') {n : Nat} {a : Addr} (h : w[n]? = some a) : w'[n]? = some a := by
  obtain ⟨r, rfl⟩ := p
  rw [List.getElem?_append_left (List.getElem?_eq_some_iff.mp h).1]
  exact h
section
variable {K : PySem.W.Frag} {fa : Nat → Addr} {w w' : List Addr} {F G : Hp}
mutual
theorem RV.mono (p : ∀ (n : Nat) (a : Addr), w[n]? = some a → w'[n]? = some a) (l : Le F G) : ∀ {v : V} {d : D}, RV K fa w F v d → RV K fa w' G v d
  | _, _, .py h => .py (Dq.mono l h)
  | _, _, .scr h => .scr (l.sqL h)
  | _, _, .ref h => .ref (p _ _ h)
  | _, _, .fn => .fn
  | _, _, .tp h t => .tp (l _ _ h) (RVs.mono p l t)
theorem RVs.mono (p : ∀ (n : Nat) (a : Addr), w[n]? = some a → w'[n]? = some a) (l : Le F G) : ∀ {vs : List V} {ds : List D}, RVs K fa w F vs ds → RVs K fa w' G vs ds
  | _, _, .nil => .nil
  | _, _, .cons h t => .cons (RV.mono p l h) (RVs.mono p l t)
end
theorem RVs.length : ∀ {vs : List V} {ds : List D}, RVs K fa w F vs ds → vs.length = ds.length
  | _, _, .nil => rfl
  | _, _, .cons _ t => by rw [List.length_cons, List.length_cons, RVs.length t]
theorem RVs.get : ∀ {vs : List V} {ds : List D} {j : Nat} {d : D}, RVs K fa w F vs ds → ds[j]? = some d → ∃ v, vs[j]? = some v ∧ RV K fa w F v d
  | _, _, _, _, .nil, e => by simp at e
  | _, _, 0, _, .cons h _, e => by simp at e; subst e; exact ⟨_, rfl, h⟩
  | _, _, j + 1, _, .cons _ t, e => by
    obtain ⟨v, h1, h2⟩ := RVs.get (j := j) t (by simpa using e)
    exact ⟨v, by simpa using h1, h2⟩
theorem RVs.getV : ∀ {vs : List V} {ds : List D} {j : Nat} {v : V}, RVs K fa w F vs ds → vs[j]? = some v → ∃ d, ds[j]? = some d ∧ RV K fa w F v d
  | _, _, _, _, .nil, e => by simp at e
  | _, _, 0, _, .cons h _, e => by simp at e; subst e; exact ⟨_, rfl, h⟩
  | _, _, j + 1, _, .cons _ t, e => by
    obtain ⟨v, h1, h2⟩ := RVs.getV (j := j) t (by simpa using e)
    exact ⟨v, by simpa using h1, h2⟩
theorem RVs.append : ∀ {vs : List V} {ds : List D} {us : List V} {es : List D}, RVs K fa w F vs ds → RVs K fa w F us es → RVs K fa w F (vs ++ us) (ds ++ es)
  | _, _, _, _, .nil, h => h
  | _, _, _, _, .cons h t, g => .cons h (RVs.append t g)
theorem RVs.set {v : V} {d : D} (r : RV K fa w F v d) : ∀ {vs : List V} {ds : List D} (j : Nat), RVs K fa w F vs ds → RVs K fa w F (vs.set j v) (ds.set j d)
  | _, _, _, .nil => .nil
  | _, _, 0, .cons _ t => .cons r t
  | _, _, j + 1, .cons h t => .cons h (RVs.set r j t)
theorem RVs.of_dq : ∀ {vs : List V} {ds : List PyData}, DqAll F vs ds → RVs K fa w F vs (ds.map .py)
  | _, _, .nil => .nil
  | _, _, .cons h t => .cons (.py h) (RVs.of_dq t)
theorem RVs.pys : ∀ {vs : List V} {ds : List D} {ps : List PyData}, RVs K fa w F vs ds → Ev.pys ds = some ps → DqAll F vs ps
  | _, _, _, .nil, e => by cases e; exact .nil
  | _, _, _, .cons (d := .py d) (.py h) t, e => by
    simp only [Ev.pys, Option.map_eq_some_iff] at e
    obtain ⟨qs, e1, e2⟩ := e
    subst e2
    exact .cons h (RVs.pys t e1)
  | _, _, _, .cons (d := .ref _) _ _, e => by simp [Ev.pys] at e
  | _, _, _, .cons (d := .fn _) _ _, e => by simp [Ev.pys] at e
  | _, _, _, .cons (d := .tp _) _ _, e => by simp [Ev.pys] at e
  | _, _, _, .cons (d := .scr _) _ _, e => by simp [Ev.pys] at e
end

def Cell.live : Cell → Prop
  | .frz _ => False
  | _ => True
def Live (w : List Addr) (st : Store) (a : Addr) : Prop := ∃ (n : Nat) (c : Cell), w[n]? = some a ∧ st[n]? = some c ∧ c.live
/-- what does not change: all but the cells that live and what is kept aside -/
noncomputable def FZ (hid : List Addr) (w : List Addr) (st : Store) (H : Hp) : Hp := fun a => open Classical in if Live w st a ∨ a ∈ hid then none else H a
theorem FZ.at {hid w : List Addr} {st : Store} {H : Hp} {a : Addr} {o : HO} : FZ hid w st H a = some o ↔ ¬ Live w st a ∧ a ∉ hid ∧ H a = some o := by
  unfold FZ
  by_cases h : Live w st a ∨ a ∈ hid
  · rw [if_pos h]
    constructor
    · intro q; cases q
    · rintro ⟨h1, h2, _⟩; exact (h.elim h1 h2).elim
  · rw [if_neg h]
    constructor
    · intro q; exact ⟨fun z => h (.inl z), fun z => h (.inr z), q⟩
    · rintro ⟨_, _, q⟩; exact q
theorem FZ.le {hid w : List Addr} {st : Store} {H : Hp} : Le (FZ hid w st H) H := fun _ _ e => (FZ.at.mp e).2.2
section
variable (K : PySem.W.Frag) (fa ca : Nat → Addr)
def CellOk (w : List Addr) (F H : Hp) (a : Addr) : Cell → Prop
  | .lst ds => ∃ vs, H a = some (.lst vs) ∧ RVs K fa w F vs ds
  | .dct kvs => ∃ kv : List (List Key × V), H a = some (.dT kv) ∧ Paired (fun (p : List Key × V) (q : List Int × D) => p.1 = q.1.map Sum.inl ∧ RV K fa w F p.2 q.2) kv kvs
  | .ins c fs => ∃ (dx : Addr) (fv : List (Str × V)), H a = some (.ins (ca c) dx fv) ∧ Paired (fun (p : Str × V) (q : Str × D) => p.1 = q.1 ∧ RV K fa w F p.2 q.2) fv fs
  | .frz d => Dq F (.ref a) d
structure Good (hid w : List Addr) (st : Store) (H : Hp) : Prop where
  len : w.length = st.length
  nd : w.Nodup
  trk : ∀ a ∈ w, ∃ o, H a = some o
  asd : ∀ a ∈ hid, a ∉ w ∧ ∃ o, H a = some o
  cells : ∀ (n : Nat) (a : Addr) (c : Cell), w[n]? = some a → st[n]? = some c → CellOk K fa ca w (FZ hid w st H) H a c
structure Ext (hid w : List Addr) (st : Store) (H : Hp) (w' : List Addr) (st' : Store) (H' : Hp) : Prop where
  pre : w <+: w'
  le : Le (FZ hid w st H) (FZ hid w' st' H')
  asd : ∀ a ∈ hid, H' a = H a
def Slots (w : List Addr) (F : Hp) (ρ : EnvD) (σ : L2.St) : Prop := ρ.length = σ.length ∧ ∀ (i : Nat) (d : D), ρ[i]? = some (some d) → ∃ v, σ[i]? = some (some v) ∧ RV K fa w F v d
end
section
variable {K : PySem.W.Frag} {fa ca : Nat → Addr} {hid w w' w1 w2 : List Addr} {st st' st1 st2 : Store} {H H' H1 H2 : Hp}
theorem Ext.refl : Ext hid w st H w st H := ⟨List.prefix_refl _, Le.refl, fun _ _ => rfl⟩
theorem Ext.trans (a : Ext hid w st H w1 st1 H1) (b : Ext hid w1 st1 H1 w2 st2 H2) : Ext hid w st H w2 st2 H2 :=
  ⟨a.pre.trans b.pre, a.le.trans b.le, fun x h => (b.asd x h).trans (a.asd x h)⟩
theorem Ext.rv (x : Ext hid w st H w' st' H') {v : V} {d : D} (r : RV K fa w (FZ hid w st H) v d) : RV K fa w' (FZ hid w' st' H') v d := r.mono (fun _ _ h => pre_get x.pre h) x.le
theorem Ext.rvs (x : Ext hid w st H w' st' H') {vs : List V} {ds : List D} (r : RVs K fa w (FZ hid w st H) vs ds) : RVs K fa w' (FZ hid w' st' H') vs ds := r.mono (fun _ _ h => pre_get x.pre h) x.le
theorem Ext.slots (x : Ext hid w st H w' st' H') {ρ : EnvD} {σ : L2.St} (r : Slots K fa w (FZ hid w st H) ρ σ) : Slots K fa w' (FZ hid w' st' H') ρ σ :=
  ⟨r.1, fun i d e => let ⟨v, h1, h2⟩ := r.2 i d e; ⟨v, h1, x.rv h2⟩⟩
theorem w_inj (nd : w.Nodup) {n m : Nat} {a : Addr} (h : w[n]? = some a) (h' : w[m]? = some a) : n = m := by
  obtain ⟨h1, e1⟩ := List.getElem?_eq_some_iff.mp h
  obtain ⟨h2, e2⟩ := List.getElem?_eq_some_iff.mp h'
  exact (List.getElem_inj nd).mp (e1.trans e2.symm)
theorem Good.cell (g : Good K fa ca hid w st H) {n : Nat} {c : Cell} (e : st[n]? = some c) : ∃ a, w[n]? = some a ∧ CellOk K fa ca w (FZ hid w st H) H a c := by
  have h : n < w.length := by rw [g.len]; exact (List.getElem?_eq_some_iff.mp e).1
  exact ⟨w[n], List.getElem?_eq_getElem h, g.cells n _ c (List.getElem?_eq_getElem h) e⟩
theorem CellOk.keep {F F' : Hp} {a : Addr} {c : Cell} (h : CellOk K fa ca w F H a c) (p : ∀ (n : Nat) (a : Addr), w[n]? = some a → w'[n]? = some a) (l : Le F F') (e : c.live → H' a = H a) : CellOk K fa ca w' F' H' a c := by
  cases c with
  | lst ds => obtain ⟨vs, h1, h2⟩ := h; exact ⟨vs, (e trivial).trans h1, h2.mono p l⟩
  | dct kvs => obtain ⟨kv, h1, h2⟩ := h; exact ⟨kv, (e trivial).trans h1, Paired.mapP h2 fun _ _ z => ⟨z.1, z.2.mono p l⟩⟩
  | ins c fs => obtain ⟨dx, fv, h1, h2⟩ := h; exact ⟨dx, fv, (e trivial).trans h1, Paired.mapP h2 fun _ _ z => ⟨z.1, z.2.mono p l⟩⟩
  | frz d => exact Dq.mono l h
/-- an address that is not tracked is nowhere -/
theorem Good.notw (g : Good K fa ca hid w st H) {p : Addr} (hp : H p = none) : p ∉ w := fun h => by
  obtain ⟨o, e⟩ := g.trk p h
  rw [hp] at e; cases e
theorem Good.noth (g : Good K fa ca hid w st H) {p : Addr} (hp : H p = none) : p ∉ hid := fun h => by
  obtain ⟨_, o, e⟩ := g.asd p h
  rw [hp] at e; cases e
theorem not_live {p : Addr} (h : p ∉ w) : ¬ Live w st p := fun ⟨n, c, e, _⟩ => h (List.mem_of_getElem? e)
/-- a new frozen object -/
theorem Ext.new (g : Good K fa ca hid w st H) {p : Addr} {o : HO} (hp : H p = none) : Ext hid w st H w st (upd H p o) := by
  refine ⟨List.prefix_refl _, fun a u e => ?_, fun a h => upd_ne fun z => g.noth hp (z ▸ h)⟩
  obtain ⟨h1, h2, h3⟩ := FZ.at.mp e
  exact FZ.at.mpr ⟨h1, h2, by rw [upd_ne (ne_of_none h3 hp)]; exact h3⟩
theorem Good.new (g : Good K fa ca hid w st H) {p : Addr} {o : HO} (hp : H p = none) : Good K fa ca hid w st (upd H p o) := by
  have x := Ext.new (o := o) g hp
  refine ⟨g.len, g.nd, fun a h => ?_, fun a h => ?_, fun n a c h1 h2 => ?_⟩
  · obtain ⟨u, e⟩ := g.trk a h
    exact ⟨u, by rw [upd_ne (ne_of_none e hp)]; exact e⟩
  · obtain ⟨h1, u, e⟩ := g.asd a h
    exact ⟨h1, u, by rw [upd_ne (ne_of_none e hp)]; exact e⟩
  · obtain ⟨u, e⟩ := g.trk a (List.mem_of_getElem? h1)
    exact (g.cells n a c h1 h2).keep (fun _ _ z => z) x.le fun _ => upd_ne (ne_of_none e hp)
theorem FZ.new (g : Good K fa ca hid w st H) {p : Addr} {o : HO} (hp : H p = none) : FZ hid w st (upd H p o) p = some o :=
  FZ.at.mpr ⟨not_live (g.notw hp), g.noth hp, upd_same⟩
/-- an object kept aside is shown -/
theorem Good.show (g : Good K fa ca (p :: hid) w st H) : Good K fa ca hid w st H := by
  refine ⟨g.len, g.nd, g.trk, fun a h => g.asd a (List.mem_cons_of_mem _ h), fun n a c h1 h2 => (g.cells n a c h1 h2).keep (fun _ _ z => z) (fun b u e => ?_) fun _ => rfl⟩
  obtain ⟨h1, h2, h3⟩ := FZ.at.mp e
  exact FZ.at.mpr ⟨h1, fun z => h2 (List.mem_cons_of_mem _ z), h3⟩
theorem FZ.show {p : Addr} : Le (FZ (p :: hid) w st H) (FZ hid w st H) := fun b u e => by
  obtain ⟨h1, h2, h3⟩ := FZ.at.mp e
  exact FZ.at.mpr ⟨h1, fun z => h2 (List.mem_cons_of_mem _ z), h3⟩
/-- a new object is kept aside -/
theorem Good.aside (g : Good K fa ca hid w st H) {p : Addr} {o : HO} (hp : H p = none) : Good K fa ca (p :: hid) w st (upd H p o) := by
  have e : Le (FZ hid w st H) (FZ (p :: hid) w st (upd H p o)) := fun a u e => by
    obtain ⟨h1, h2, h3⟩ := FZ.at.mp e
    have ne := ne_of_none h3 hp
    exact FZ.at.mpr ⟨h1, fun z => (List.mem_cons.mp z).elim ne h2, by rw [upd_ne ne]; exact h3⟩
  refine ⟨g.len, g.nd, fun a h => ?_, fun a h => ?_, fun n a c h1 h2 => ?_⟩
  · obtain ⟨u, e⟩ := g.trk a h
    exact ⟨u, by rw [upd_ne (ne_of_none e hp)]; exact e⟩
  · rcases List.mem_cons.mp h with rfl | h
    · exact ⟨g.notw hp, o, upd_same⟩
    · obtain ⟨h1, u, e⟩ := g.asd a h
      exact ⟨h1, u, by rw [upd_ne (ne_of_none e hp)]; exact e⟩
  · obtain ⟨u, e'⟩ := g.trk a (List.mem_of_getElem? h1)
    exact (g.cells n a c h1 h2).keep (fun _ _ z => z) e fun _ => upd_ne (ne_of_none e' hp)
theorem FZ.aside (g : Good K fa ca hid w st H) {p : Addr} {o : HO} (hp : H p = none) : Le (FZ hid w st H) (FZ (p :: hid) w st (upd H p o)) := fun a u e => by
  obtain ⟨h1, h2, h3⟩ := FZ.at.mp e
  have ne := ne_of_none h3 hp
  exact FZ.at.mpr ⟨h1, fun z => (List.mem_cons.mp z).elim ne h2, by rw [upd_ne ne]; exact h3⟩
/-- an object kept aside changes -/
theorem FZ.turn {p : Addr} {o : HO} (hp : p ∈ hid) : FZ hid w st (upd H p o) = FZ hid w st H := by
  funext a
  by_cases e : a = p
  · subst e
    unfold FZ
    rw [if_pos (Or.inr hp), if_pos (Or.inr hp)]
  · unfold FZ
    rw [upd_ne e]
theorem Good.turn (g : Good K fa ca hid w st H) {p : Addr} {o : HO} (hp : p ∈ hid) : Good K fa ca hid w st (upd H p o) := by
  have up : ∀ b, (∃ u, H b = some u) → ∃ u, upd H p o b = some u := fun b ⟨u, e⟩ => by
    by_cases q : b = p
    · exact ⟨o, by rw [q]; exact upd_same⟩
    · exact ⟨u, by rw [upd_ne q]; exact e⟩
  refine ⟨g.len, g.nd, fun a h => up a (g.trk a h), fun a h => ⟨(g.asd a h).1, up a (g.asd a h).2⟩, fun n a c h1 h2 => ?_⟩
  have ne : a ≠ p := fun z => (g.asd p hp).1 (z ▸ List.mem_of_getElem? h1)
  rw [FZ.turn hp]
  exact (g.cells n a c h1 h2).keep (fun _ _ z => z) Le.refl fun _ => upd_ne ne
/-- an object kept aside becomes a cell -/
theorem live_app {p : Addr} {c : Cell} {a : Addr} (hl : w.length = st.length) (lc : c.live) : Live (w ++ [p]) (st ++ [c]) a ↔ Live w st a ∨ a = p := by
  constructor
  · rintro ⟨n, c', h1, h2, h3⟩
    by_cases hn : n < w.length
    · rw [List.getElem?_append_left hn] at h1
      rw [List.getElem?_append_left (by omega)] at h2
      exact .inl ⟨n, c', h1, h2, h3⟩
    · rw [List.getElem?_append_right (by omega)] at h1
      cases e : n - w.length with
      | zero => rw [e] at h1; exact .inr (Option.some.inj h1).symm
      | succ k => rw [e] at h1; simp at h1
  · rintro (⟨n, c', h1, h2, h3⟩ | rfl)
    · have hn := (List.getElem?_eq_some_iff.mp h1).1
      exact ⟨n, c', by rw [List.getElem?_append_left hn]; exact h1, by rw [List.getElem?_append_left (by omega)]; exact h2, h3⟩
    · exact ⟨w.length, c, by simp, by rw [hl]; simp, lc⟩
theorem FZ.toCell {p : Addr} {c : Cell} (hl : w.length = st.length) (lc : c.live) : FZ hid (w ++ [p]) (st ++ [c]) H = FZ (p :: hid) w st H := by
  funext a
  unfold FZ
  have : (Live (w ++ [p]) (st ++ [c]) a ∨ a ∈ hid) ↔ (Live w st a ∨ a ∈ p :: hid) := by
    rw [live_app hl lc, List.mem_cons, or_assoc]
  by_cases h : Live w st a ∨ a ∈ p :: hid
  · rw [if_pos h, if_pos (this.mpr h)]
  · rw [if_neg h, if_neg (fun z => h (this.mp z))]
theorem Good.toCell (g : Good K fa ca (p :: hid) w st H) {c : Cell} (lc : c.live) (hp : p ∉ hid) (ok : CellOk K fa ca (w ++ [p]) (FZ (p :: hid) w st H) H p c) : Good K fa ca hid (w ++ [p]) (st ++ [c]) H := by
  have pw := (g.asd p List.mem_cons_self).1
  have pre : ∀ (n : Nat) (a : Addr), w[n]? = some a → (w ++ [p])[n]? = some a := fun n a h => pre_get (List.prefix_append _ _) h
  refine ⟨by rw [List.length_append, List.length_append, g.len]; rfl, ?_, fun a h => ?_, fun a h => ?_, fun n a c' h1 h2 => ?_⟩
  · rw [List.nodup_append]
    refine ⟨g.nd, by simp, fun a ha b hb => ?_⟩
    rw [List.mem_singleton.mp hb]
    exact fun z => pw (z ▸ ha)
  · rcases List.mem_append.mp h with h | h
    · exact g.trk a h
    · rw [List.mem_singleton.mp h]
      exact (g.asd p List.mem_cons_self).2
  · obtain ⟨h1, h2⟩ := g.asd a (List.mem_cons_of_mem _ h)
    refine ⟨fun z => ?_, h2⟩
    rcases List.mem_append.mp z with z | z
    · exact h1 z
    · rw [List.mem_singleton.mp z] at h
      exact hp h
  · rw [FZ.toCell g.len lc]
    by_cases hn : n < w.length
    · rw [List.getElem?_append_left hn] at h1
      rw [List.getElem?_append_left (by rw [← g.len]; exact hn)] at h2
      exact (g.cells n a c' h1 h2).keep pre Le.refl fun _ => rfl
    · rw [List.getElem?_append_right (by omega)] at h1
      rw [List.getElem?_append_right (by rw [← g.len]; omega)] at h2
      cases e : n - w.length with
      | zero =>
        rw [e] at h1
        rw [← g.len, e] at h2
        cases h1
        cases h2
        exact ok
      | succ k => rw [e] at h1; simp at h1
theorem Ext.toCell {c : Cell} (hl : w.length = st.length) (lc : c.live) : Le (FZ (p :: hid) w st H) (FZ hid (w ++ [p]) (st ++ [c]) H) := by
  rw [FZ.toCell hl lc]
  exact Le.refl
/-- a cell changes -/
theorem live_set {n : Nat} {a b : Addr} {c c' : Cell} (h1 : st[n]? = some c) (l1 : c.live) (l2 : c'.live) : Live w (st.set n c') b ↔ Live w st b := by
  have hn := (List.getElem?_eq_some_iff.mp h1).1
  constructor
  · rintro ⟨m, d, e1, e2, e3⟩
    by_cases q : n = m
    · subst q; exact ⟨n, c, e1, h1, l1⟩
    · rw [List.getElem?_set_ne q] at e2; exact ⟨m, d, e1, e2, e3⟩
  · rintro ⟨m, d, e1, e2, e3⟩
    by_cases q : n = m
    · subst q; exact ⟨n, c', e1, List.getElem?_set_self hn, l2⟩
    · exact ⟨m, d, e1, by rw [List.getElem?_set_ne q]; exact e2, e3⟩
theorem FZ.write {n : Nat} {a : Addr} {c c' : Cell} {o : HO} (h0 : w[n]? = some a) (h1 : st[n]? = some c) (l1 : c.live) (l2 : c'.live) : FZ hid w (st.set n c') (upd H a o) = FZ hid w st H := by
  funext b
  by_cases e : b = a
  · subst e
    have L : Live w st b := ⟨n, c, h0, h1, l1⟩
    unfold FZ
    rw [if_pos (Or.inl ((live_set (a := b) h1 l1 l2).mpr L)), if_pos (Or.inl L)]
  · unfold FZ
    rw [upd_ne e]
    by_cases h : Live w st b ∨ b ∈ hid
    · rw [if_pos h, if_pos (h.imp (live_set (a := a) h1 l1 l2).mpr id)]
    · rw [if_neg h, if_neg fun z => h (z.imp (live_set (a := a) h1 l1 l2).mp id)]
theorem Ext.write (g : Good K fa ca hid w st H) {n : Nat} {a : Addr} {c c' : Cell} {o : HO} (h0 : w[n]? = some a) (h1 : st[n]? = some c) (l1 : c.live) (l2 : c'.live) : Ext hid w st H w (st.set n c') (upd H a o) :=
  ⟨List.prefix_refl _, by rw [FZ.write h0 h1 l1 l2]; exact Le.refl, fun b hb => upd_ne fun z => (g.asd b hb).1 (z ▸ List.mem_of_getElem? h0)⟩
theorem Good.write (g : Good K fa ca hid w st H) {n : Nat} {a : Addr} {c c' : Cell} {o : HO} (h0 : w[n]? = some a) (h1 : st[n]? = some c) (l1 : c.live) (l2 : c'.live)
    (ok : CellOk K fa ca w (FZ hid w st H) (upd H a o) a c') : Good K fa ca hid w (st.set n c') (upd H a o) := by
  have up : ∀ b, (∃ u, H b = some u) → ∃ u, upd H a o b = some u := fun b ⟨u, e⟩ => by
    by_cases q : b = a
    · exact ⟨o, by rw [q]; exact upd_same⟩
    · exact ⟨u, by rw [upd_ne q]; exact e⟩
  refine ⟨by rw [List.length_set]; exact g.len, g.nd, fun b h => up b (g.trk b h), fun b h => ⟨(g.asd b h).1, up b (g.asd b h).2⟩, fun m b d e1 e2 => ?_⟩
  rw [FZ.write h0 h1 l1 l2]
  by_cases q : n = m
  · subst q
    rw [h0] at e1; cases e1
    rw [List.getElem?_set_self (List.getElem?_eq_some_iff.mp h1).1] at e2
    cases e2
    exact ok
  · rw [List.getElem?_set_ne q] at e2
    have ne : b ≠ a := fun z => q (w_inj g.nd h0 (z ▸ e1))
    exact (g.cells m b d e1 e2).keep (fun _ _ z => z) Le.refl fun _ => upd_ne ne
/-- a cell is frozen -/
theorem Le.freeze {n : Nat} {d : PD} : Le (FZ hid w st H) (FZ hid w (st.set n (.frz d)) H) := fun b u e => by
  obtain ⟨h1, h2, h3⟩ := FZ.at.mp e
  refine FZ.at.mpr ⟨?_, h2, h3⟩
  rintro ⟨m, c, e1, e2, e3⟩
  by_cases q : n = m
  · subst q
    rw [List.getElem?_set] at e2
    split at e2
    · split at e2
      · cases e2; exact e3
      · cases e2
    · rename_i z; exact z rfl
  · rw [List.getElem?_set_ne q] at e2
    exact h1 ⟨m, c, e1, e2, e3⟩
theorem Ext.freeze {n : Nat} {d : PD} : Ext hid w st H w (st.set n (.frz d)) H := ⟨List.prefix_refl _, Le.freeze, fun _ _ => rfl⟩
theorem Good.freeze (g : Good K fa ca hid w st H) {n : Nat} {a : Addr} {d : PD} (h0 : w[n]? = some a) (ok : Dq (FZ hid w (st.set n (.frz d)) H) (.ref a) d) : Good K fa ca hid w (st.set n (.frz d)) H := by
  refine ⟨by rw [List.length_set]; exact g.len, g.nd, g.trk, g.asd, fun m b c e1 e2 => ?_⟩
  by_cases q : n = m
  · subst q
    rw [h0] at e1; cases e1
    have hn : n < st.length := by rw [← g.len]; exact (List.getElem?_eq_some_iff.mp h0).1
    rw [List.getElem?_set_self hn] at e2
    cases e2
    exact ok
  · rw [List.getElem?_set_ne q] at e2
    exact (g.cells m b c e1 e2).keep (fun _ _ z => z) Le.freeze fun _ => rfl
end
end Ev
set_option maxHeartbeats 1000000
namespace Ev
open PySem PySem.Spec PyProof.Rows L2
theorem PE.imp {X : Cx} {e : Expr} {t t' : TE} (h : PE X e t) (i : ∀ σ H Q, t' σ H Q → t σ H Q) : PE X e t' := ⟨fun pins s σ H Q I q => h.run pins s σ H Q I (i σ H Q q)⟩
theorem PT.imp {X : Cx} {e : Expr} {t t' : TT} (h : PT X e t) (i : ∀ σ H Q, t' σ H Q → t σ H Q) : PT X e t' := ⟨fun pins s σ H Q I q => h.run pins s σ H Q I (i σ H Q q)⟩
theorem PA.imp {X : Cx} {e : List Expr} {t t' : TA} (h : PA X e t) (i : ∀ σ H Q, t' σ H Q → t σ H Q) : PA X e t' := ⟨fun p pins s σ H Q I q => h.run p pins s σ H Q I (i σ H Q q)⟩
theorem PS.imp {X : Cx} {e : Stmt} {t t' : TS} (h : PS X e t) (i : ∀ D σ H, t' D σ H → t D σ H) : PS X e t' := ⟨fun pins s σ H D I q => h.run pins s σ H D I (i D σ H q)⟩
theorem PSs.imp {X : Cx} {e : List Stmt} {t t' : TS} (h : PSs X e t) (i : ∀ D σ H, t' D σ H → t D σ H) : PSs X e t' := ⟨fun pins s σ H D I q => h.run pins s σ H D I (i D σ H q)⟩
theorem PI.imp {X : Cx} {tg e : Expr} {t t' : TI} (h : PI X tg e t) (i : ∀ σ H R, t' σ H R → t σ H R) : PI X tg e t' := ⟨fun pins s σ H R I q => h.run pins s σ H R I (i σ H R q)⟩
theorem OpR.or {X : Cx} {f : Value → Value → Sem Value} {r r' : R2} (h : OpR X f r) (h' : OpR X f r') : OpR X f (fun x y H Q => r x y H Q ∨ r' x y H Q) := fun pins s σ H x y v u Q I rx ry q => q.elim (h pins s σ H x y v u Q I rx ry) (h' pins s σ H x y v u Q I rx ry)

section
/-- an error as it lies -/
def RX (ca : Nat → Addr) (cls : Value) (dd : Option Addr) (H : Hp) (e : Exc) : Prop := cls = .ref (ca e.cls) ∧ ∀ f p, e.fld = some (f, p) → ∃ d v, dd = some d ∧ H d = some (.xd [(f, v)]) ∧ Dq (fun _ => none) v p
variable (K : PySem.W.Frag) (fa ca : Nat → Addr) {α β : Type} (rel : List Addr → Hp → β → α → Prop)
def PostG (hid w : List Addr) (st : Store) (H : Hp) (E : XK) (r : Rs α) (Q : β → Hp → Prop) : Prop := match r with
  | .ok d st' => ∀ x w' H', Ext hid w st H w' st' H' → Good K fa ca hid w' st' H' → rel w' (FZ hid w' st' H') x d → Q x H'
  | .ex e st' => ∀ cls dd w' H', Ext hid w st H w' st' H' → Good K fa ca hid w' st' H' → RX ca cls dd H' e → E cls dd H'
  | .bad => False
end
abbrev relV (K : PySem.W.Frag) (fa : Nat → Addr) : List Addr → Hp → V → D → Prop := RV K fa
abbrev relA (K : PySem.W.Frag) (fa : Nat → Addr) : List Addr → Hp → List V → List D → Prop := RVs K fa
abbrev relB : List Addr → Hp → Bool → Bool → Prop := fun _ _ a b => a = b
abbrev relO : List Addr → Hp → Option Int → Option Int → Prop := fun _ _ a b => a = b
section
variable {K : PySem.W.Frag} {fa ca : Nat → Addr} {hid w w' : List Addr} {st st' : Store} {H H' : Hp} {E : XK}
variable {α β α' β' : Type} {rel : List Addr → Hp → β → α → Prop} {rel' : List Addr → Hp → β' → α' → Prop}
theorem PostG.base {r : Rs α} {Q : β → Hp → Prop} (x : Ext hid w st H w' st' H') (h : PostG K fa ca rel hid w st H E r Q) : PostG K fa ca rel hid w' st' H' E r Q := by
  cases r with
  | ok d s => exact fun v w2 H2 y g r => h v w2 H2 (x.trans y) g r
  | ex e s => exact fun c d w2 H2 y g r => h c d w2 H2 (x.trans y) g r
  | bad => exact h
theorem PostG.mono {r : Rs α} {Q Q' : β → Hp → Prop} (h : PostG K fa ca rel hid w st H E r Q) (i : ∀ x H', Q x H' → Q' x H') : PostG K fa ca rel hid w st H E r Q' := by
  cases r with
  | ok d s => exact fun v w2 H2 y g r => i _ _ (h v w2 H2 y g r)
  | ex e s => exact h
  | bad => exact h
theorem PostG.bind {r : Rs α} {k : α → Store → Rs α'} {Q : β' → Hp → Prop} (h : PostG K fa ca rel' hid w st H E (r.bind k) Q) :
    PostG K fa ca rel hid w st H E r fun x H1 => ∃ a w1 st1, Ext hid w st H w1 st1 H1 ∧ Good K fa ca hid w1 st1 H1 ∧ rel w1 (FZ hid w1 st1 H1) x a ∧ r = .ok a st1 ∧ PostG K fa ca rel' hid w1 st1 H1 E (k a st1) Q := by
  cases r with
  | ok d s => exact fun v w2 H2 y g r => ⟨d, w2, s, y, g, r, rfl, PostG.base y h⟩
  | ex e s => exact h
  | bad => exact h
/-- the value is here -/
theorem PostG.here {a : α} {Q : β → Hp → Prop} (h : PostG K fa ca rel hid w st H E (.ok a st) Q) (g : Good K fa ca hid w st H) {x : β} (r : rel w (FZ hid w st H) x a) : Q x H := h x w H Ext.refl g r
/-- the value is a new frozen object -/
theorem PostG.new {a : α} {Q : β → Hp → Prop} (h : PostG K fa ca rel hid w st H E (.ok a st) Q) (g : Good K fa ca hid w st H) {p : Addr} {o : HO} (hp : H p = none) {x : β} (r : rel w (FZ hid w st (upd H p o)) x a) : Q x (upd H p o) :=
  h x w _ (Ext.new g hp) (g.new hp) r
theorem PostG.of {o : Option α} {Q : β → Hp → Prop} (h : PostG K fa ca rel hid w st H E (.of o st) Q) : ∃ a, o = some a ∧ PostG K fa ca rel hid w st H E (.ok a st) Q := by
  cases o with
  | none => exact h.elim
  | some a => exact ⟨a, rfl, h⟩
end
/-- a reading by the evaluator -/
def tG {α β : Type} (K : PySem.W.Frag) (fa ca : Nat → Addr) (W : WX) (rel : List Addr → Hp → β → α → Prop) (f : EnvD → Store → Rs α) : L2.St → Hp → (β → Hp → Prop) → Prop := fun σ H Q =>
  ∃ (hid w : List Addr) (st : Store) (ρ : EnvD), Good K fa ca hid w st H ∧ Slots K fa w (FZ hid w st H) ρ σ ∧ PostG K fa ca rel hid w st H (fun c d H' => W c d σ H') (f ρ st) Q
section
variable {X : Cx} {fa ca : Nat → Addr} {W : WX} {Δ : Dn}
abbrev DE (X : Cx) (fa ca : Nat → Addr) (W : WX) (Δ : Dn) (e : Expr) (c : E) : Prop := PE X e (tG X.K fa ca W (relV X.K fa) (ev Δ c))
abbrev DA (X : Cx) (fa ca : Nat → Addr) (W : WX) (Δ : Dn) (es : List Expr) (c : Es) : Prop := PA X es (tG X.K fa ca W (relA X.K fa) (evs Δ c))
abbrev DT (X : Cx) (fa ca : Nat → Addr) (W : WX) (Δ : Dn) (e : Expr) (c : T) : Prop := PT X e (tG X.K fa ca W relB (evT Δ c))
abbrev DTs (X : Cx) (fa ca : Nat → Addr) (W : WX) (Δ : Dn) (es : List Expr) (c : T) : Prop := PTs X es (tG X.K fa ca W relB (evT Δ c))
abbrev DO (X : Cx) (fa ca : Nat → Addr) (W : WX) (Δ : Dn) (e : Option Expr) (c : O) : Prop := PO X e (tG X.K fa ca W relO (evO Δ c))

theorem tG.two {f g : EnvD → Store → Rs D} {op : D → D → Store → Rs D} {r : R2} {ta tb : TE} {σ : L2.St} {H : Hp} {Q : VK}
    (h : tG X.K fa ca W (relV X.K fa) (fun ρ st => (f ρ st).bind fun x st => (g ρ st).bind fun y st => op x y st) σ H Q)
    (ha : ∀ σ H Q, tG X.K fa ca W (relV X.K fa) f σ H Q → ta σ H Q) (hb : ∀ σ H Q, tG X.K fa ca W (relV X.K fa) g σ H Q → tb σ H Q)
    (hop : ∀ hid w st H E x y d d', Good X.K fa ca hid w st H → RV X.K fa w (FZ hid w st H) x d → RV X.K fa w (FZ hid w st H) y d' → PostG X.K fa ca (relV X.K fa) hid w st H E (op d d' st) Q → r x y H Q) : tOp r ta tb σ H Q := by
  obtain ⟨hid, w, st, ρ, g0, s0, p⟩ := h
  refine ha σ H _ ⟨hid, w, st, ρ, g0, s0, (PostG.bind (rel := relV X.K fa) p).mono fun x H1 ⟨d1, w1, st1, e1, g1, r1, _, p1⟩ => ?_⟩
  refine hb σ H1 _ ⟨hid, w1, st1, ρ, g1, e1.slots s0, (PostG.bind (rel := relV X.K fa) p1).mono fun y H2 ⟨d2, w2, st2, e2, g2, r2, _, p2⟩ => ?_⟩
  exact hop hid w2 st2 H2 _ x y d1 d2 g2 (e2.rv r1) r2 p2
theorem tG.one {f : EnvD → Store → Rs D} {op : D → Store → Rs D} {r : V → Hp → VK → Prop} {ta : TE} {σ : L2.St} {H : Hp} {Q : VK}
    (h : tG X.K fa ca W (relV X.K fa) (fun ρ st => (f ρ st).bind fun x st => op x st) σ H Q)
    (ha : ∀ σ H Q, tG X.K fa ca W (relV X.K fa) f σ H Q → ta σ H Q)
    (hop : ∀ hid w st H E x d, Good X.K fa ca hid w st H → RV X.K fa w (FZ hid w st H) x d → PostG X.K fa ca (relV X.K fa) hid w st H E (op d st) Q → r x H Q) : ta σ H (fun x H1 => r x H1 Q) := by
  obtain ⟨hid, w, st, ρ, g0, s0, p⟩ := h
  refine ha σ H _ ⟨hid, w, st, ρ, g0, s0, (PostG.bind (rel := relV X.K fa) p).mono fun x H1 ⟨d1, w1, st1, e1, g1, r1, _, p1⟩ => ?_⟩
  exact hop hid w1 st1 H1 _ x d1 g1 r1 p1

theorem de_var {i : Nat} {x : Str} {pos : Pos} (hN : X.N[i]? = some x) (hv : Vis X.env.scope x) (hd : (x == ("__debug__" : Str)) = false) (hcd : (x == ("__classdict__" : Str)) = false) : DE X fa ca W Δ (.Name x pos) (.var i) := by
  refine PE.imp (pe_var hN hv hd hcd) fun σ H Q ⟨hid, w, st, ρ, g, s, p⟩ => ?_
  simp only [ev] at p
  split at p
  · rename_i n e
    obtain ⟨v, e1, r1⟩ := s.2 _ _ e
    refine ⟨v, e1, ?_⟩
    split at p
    · rename_i d e2
      obtain ⟨a, ea, ok⟩ := g.cell e2
      cases r1 with
      | ref h =>
        rw [ea] at h; cases h
        exact p.here g (RV.py ok)
    · exact p.here g r1
  · rename_i d _ e
    obtain ⟨v, e1, r1⟩ := s.2 _ _ e
    exact ⟨v, e1, p.here g r1⟩
  · exact p.elim
theorem de_con {e : Expr} {d : PD} {v : V} (h : PE X e (tC v)) (r : ∀ F : Hp, Dq F v d) : DE X fa ca W Δ e (.con d) := by
  refine PE.imp h fun σ H Q ⟨hid, w, st, ρ, g, s, p⟩ => ?_
  exact PostG.here (a := D.py d) (show PostG X.K fa ca (relV X.K fa) hid w st H _ (.ok (.py d) st) Q by simpa only [ev] using p) g (RV.py (r _))
theorem de_fnv {e : Expr} {f : Nat} (h : PE X e (tC (.ref (fa f)))) : DE X fa ca W Δ e (.fnv f) := by
  refine PE.imp h fun σ H Q ⟨hid, w, st, ρ, g, s, p⟩ => ?_
  exact PostG.here (a := D.fn f) (show PostG X.K fa ca (relV X.K fa) hid w st H _ (.ok (.fn f) st) Q by simpa only [ev] using p) g RV.fn

theorem da_nil : DA X fa ca W Δ [] .nil := by
  refine PA.imp pa_nil fun σ H Q ⟨hid, w, st, ρ, g, s, p⟩ => ?_
  simp only [evs] at p
  exact p.here g RVs.nil
theorem da_cons {e : Expr} {es : List Expr} {c : E} {r : Es} (ha : DE X fa ca W Δ e c) (hr : DA X fa ca W Δ es r) (hs : starEach (e :: es) X.env = (false, eval e X.env) :: starEach es X.env) : DA X fa ca W Δ (e :: es) (.cons c r) := by
  refine PA.imp (pa_cons ha hr hs) fun σ H Q ⟨hid, w, st, ρ, g, s, p⟩ => ?_
  simp only [evs] at p
  refine ⟨hid, w, st, ρ, g, s, (PostG.bind (rel := relV X.K fa) p).mono fun x H1 ⟨d1, w1, st1, e1, g1, r1, _, p1⟩ => ?_⟩
  refine ⟨hid, w1, st1, ρ, g1, e1.slots s, (PostG.bind (rel := relA X.K fa) p1).mono fun xs H2 ⟨ds, w2, st2, e2, g2, r2, _, p2⟩ => ?_⟩
  exact p2.here g2 (RVs.cons (e2.rv r1) r2)

theorem listOf_ok {K : PySem.W.Frag} {hid w : List Addr} {st : Store} {H : Hp} {v : V} {d : D} {l : List D} (g : Good K fa ca hid w st H) (r : RV K fa w (FZ hid w st H) v d) (h : listOf st d = some l) : ∃ a vs, v = .ref a ∧ H a = some (.lst vs) ∧ RVs K fa w (FZ hid w st H) vs l := by
  cases r with
  | py hd =>
    rename_i p
    cases p with
    | list ds =>
      simp only [listOf, Option.some.injEq] at h
      subst h
      cases hd with
      | lst hs ha => exact ⟨_, _, rfl, FZ.le _ _ hs, RVs.of_dq ha⟩
    | _ => simp [listOf] at h
  | ref hw =>
    simp only [listOf] at h
    split at h
    · rename_i ds e
      cases h
      obtain ⟨a, ea, vs, h1, h2⟩ := g.cell e
      rw [ea] at hw; cases hw
      exact ⟨_, vs, rfl, h1, h2⟩
    · rename_i ds e
      cases h
      obtain ⟨a, ea, ok⟩ := g.cell e
      rw [ea] at hw; cases hw
      cases (show Dq (FZ hid w st H) (.ref _) (.list ds) from ok) with
      | lst hs ha => exact ⟨_, _, rfl, FZ.le _ _ hs, RVs.of_dq ha⟩
    · cases h
  | fn => simp [listOf] at h
  | tp _ _ => simp [listOf] at h
  | scr _ => simp [listOf] at h
theorem tupOf_ok {K : PySem.W.Frag} {hid w : List Addr} {st : Store} {H : Hp} {v : V} {d : D} {l : List D} (r : RV K fa w (FZ hid w st H) v d) (h : tupOf d = some l) : ∃ a vs, v = .ref a ∧ H a = some (.tup vs) ∧ RVs K fa w (FZ hid w st H) vs l := by
  cases r with
  | py hd =>
    rename_i p
    cases p with
    | tuple ds =>
      simp only [tupOf, Option.some.injEq] at h
      subst h
      cases hd with
      | tup hs ha => exact ⟨_, _, rfl, FZ.le _ _ hs, RVs.of_dq ha⟩
    | _ => simp [tupOf] at h
  | ref hw => simp [tupOf] at h
  | fn => simp [tupOf] at h
  | scr _ => simp [tupOf] at h
  | tp h1 h2 =>
    simp only [tupOf, Option.some.injEq] at h
    subst h
    exact ⟨_, _, rfl, FZ.le _ _ h1, h2⟩
theorem seqOf_ok {K : PySem.W.Frag} {hid w : List Addr} {st : Store} {H : Hp} {v : V} {d : D} {l : List D} (g : Good K fa ca hid w st H) (r : RV K fa w (FZ hid w st H) v d) (h : seqOf st d = some l) : ∃ a vs, v = .ref a ∧ (H a = some (.lst vs) ∨ H a = some (.tup vs)) ∧ RVs K fa w (FZ hid w st H) vs l := by
  unfold seqOf at h
  split at h
  · rename_i l' e
    cases h
    obtain ⟨a, vs, e1, e2, e3⟩ := listOf_ok g r e
    exact ⟨a, vs, e1, .inl e2, e3⟩
  · obtain ⟨a, vs, e1, e2, e3⟩ := tupOf_ok r h
    exact ⟨a, vs, e1, .inr e2, e3⟩
theorem isEmpty_rvs {K : PySem.W.Frag} {w : List Addr} {F : Hp} {vs : List V} {l : List D} (r : RVs K fa w F vs l) : vs.isEmpty = l.isEmpty := by
  cases r <;> rfl
theorem truth_ok {K : PySem.W.Frag} {hid w : List Addr} {st : Store} {H : Hp} {v : V} {d : D} {k : Bool} (g : Good K fa ca hid w st H) (r : RV K fa w (FZ hid w st H) v d) (h : truth st d = some k) : TruV K v H k := by
  have go : ∀ {d : D}, RV K fa w (FZ hid w st H) v d → (seqOf st d).map (!·.isEmpty) = some k → TruV K v H k := fun {d} r h => by
    obtain ⟨l, e, e2⟩ := Option.map_eq_some_iff.mp h
    obtain ⟨a, vs, e1, e2', e3⟩ := seqOf_ok g r e
    subst e1
    rw [← e2, ← isEmpty_rvs e3]
    rcases e2' with q | q
    · exact .inl ⟨vs, SqL.of q, rfl⟩
    · exact .inr (.inl ⟨vs, SqT.of q, rfl⟩)
  cases r with
  | py hd =>
    cases hd with
    | non => simp only [truth, Option.some.injEq] at h; exact h.symm
    | bl b => simp only [truth, Option.some.injEq] at h; exact h.symm
    | int i => simp only [truth, Option.some.injEq] at h; exact h.symm
    | str x =>
      simp only [truth] at h
      split at h
      · rename_i hl
        refine ⟨by rw [sizeLine_eq]; exact hl, ?_⟩
        rw [← Option.some.inj h]
        by_cases q : x.length = 0
        · rw [q]; rfl
        · have q2 : ¬ ((x.length : Int) = 0) := by omega
          rw [show (x.length != 0) = true from bne_iff_ne.mpr q, show ((x.length : Int) != 0) = true from bne_iff_ne.mpr q2]
      · cases h
    | lst hs ha => exact go (RV.py (.lst hs ha)) h
    | tup hs ha => exact go (RV.py (.tup hs ha)) h
  | ref hw => exact go (RV.ref hw) h
  | fn => exact go RV.fn h
  | scr h1 => exact go (RV.scr h1) h
  | tp h1 h2 => exact go (RV.tp h1 h2) h
end
end Ev
set_option maxHeartbeats 1000000
namespace Ev
open PySem PySem.Spec PyProof.Rows L2
theorem tuple_mul1 (l : Addr) (items : Array Value) (n : Nat) (dd : Option Addr) (sl : Array (Option Value)) (x : Int) (u : Tok) (c0 : (decide (x < -(2 ^ 63)) || decide (x ≥ 2 ^ 63)) = false) (c1 : (items.isEmpty || x == 1) = true) :
    Meets (Builtin.«tuple.__mul__» ⟨[.ref l, .int x u], []⟩) (fun _ R s => s.heap.get? l = some { cls := .type "tuple", dict := dd, data := .seq items n, slots := sl } ∧ R (.ok (.ret (Value.ref l))) s) :=
  .of_wp fun prog w A R s h => by
    obtain ⟨hp, g, d, tk, os⟩ := s
    obtain ⟨hl, h⟩ := h
    have f1 := AutoSeq1.idx_int
    wp_walk using wpAny_loadPart' hl
    repeat (first
      | (refine wpAny_ite_false (decide_eq_false (by rw [c0]; exact Bool.false_ne_true)) ?_; wp_walk using wpAny_loadPart' hl)
      | (refine wpAny_ite_true (decide_eq_true c1) ?_; wp_walk using wpAny_loadPart' hl))
    all_goals exact ⟨_, rfl, h⟩
def rRep1 : R2 := fun x y H Q => ∃ l xs, x = .ref l ∧ y = .int 1 ∧ H l = some (.tup xs) ∧ Q (.ref l) H
section
variable {X : Cx}
theorem op_rep1 : OpR X (binaryOp .Mult) rRep1 := by
  intro pins s σ H x y v u Q I rx ry h
  obtain ⟨l, xs, rfl, rfl, hT, q⟩ := h
  cases rx
  obtain ⟨t, rfl⟩ := ry
  obtain ⟨its, r, ⟨⟨cls, dd, data, sl⟩, ho, hc, n, hd⟩, hs⟩ := I.tuple (SqT.of hT)
  simp only at hc hd
  subst hc hd
  have c1 : (its.toArray.isEmpty || (1 : Int) == 1) = true := by simp
  exact wpAny_binaryOp_repeat_ref (T := "tuple") (U := "int") (by decide) ⟨_, ho, rfl⟩ (fun s' => typeIs_int s' 1 t) noFill_tuple_mul F.fills_int_mul F.slot_int_rmul repeat_tuple F.slot_int_index.lookup
    (call_meets F.slot_int_rmul (typeIs_int s 1 t) F.entry_int_rmul (F.args_int_rmul_2 _ _) (int_rmul_tuple 1 t l its.toArray n dd sl)
      ⟨ho, rfl, ⟨_, ho, rfl⟩, call_meets F.slot_tuple_mul ⟨_, ho, rfl⟩ F.entry_tuple_mul (F.args_tuple_mul_2 _ _) (tuple_mul1 l its.toArray n dd sl 1 t (by decide) c1) ⟨ho, ⟨.ref l, H, I, rfl, q⟩⟩⟩)
end
def rAddX (K : PySem.W.Frag) : R2 := fun x y H Q => ((rI0 fun i j => .int (i + j)) x y H Q) ∨ ((∃ i j, x = .str i ∧ y = .str j ∧ i.length + j.length ≤ sizeLine ∧ Q (.str (i ++ j)) H) ∨ (rCatA K x y H Q ∨ rCat x y H Q))
def rMulX (K : PySem.W.Frag) : R2 := fun x y H Q => ((rI CMul fun i j => .int (i * j)) x y H Q) ∨ (rRep x y H Q ∨ (rRepT K x y H Q ∨ rRep1 x y H Q))
def rB (K : PySem.W.Frag) : BOp → R2
  | .add => rAddX K
  | .sub => rI0 fun i j => .int (i - j)
  | .mul => rMulX K
  | .fdiv => rI CDiv fun i j => .int (i / j)
  | .mod => rI (fun _ j => 0 < j) fun i j => .int (i % j)
  | .pow => rI CPow fun i j => .int (i ^ j.toNat)
def opB : BOp → Operator
  | .add => .Add | .sub => .Sub | .mul => .Mult | .fdiv => .FloorDiv | .mod => .Mod | .pow => .Pow
theorem op_B {X : Cx} : ∀ op : BOp, OpR X (binaryOp (opB op)) (rB X.K op)
  | .add => op_add.or (op_add_str.or (op_catA.or op_cat))
  | .sub => op_sub
  | .mul => op_mul.or (op_rep.or (op_repT.or op_rep1))
  | .fdiv => op_fdiv
  | .mod => op_mod
  | .pow => op_pow
section
variable {K : PySem.W.Frag} {fa ca : Nat → Addr} {hid w : List Addr} {st : Store} {H : Hp} {E : XK} {x y : V} {d d' z : D} {Q : VK}
abbrev PostV (K : PySem.W.Frag) (fa ca : Nat → Addr) := PostG K fa ca (relV K fa)
theorem pv_py {p : PD} (g : Good K fa ca hid w st H) (h : PostV K fa ca hid w st H E (.ok (.py p) st) Q) (r : Dq (FZ hid w st H) x p) : Q x H := h.here g (RV.py r)
theorem pv_new {p : PD} {a : Addr} {o : HO} (g : Good K fa ca hid w st H) (h : PostV K fa ca hid w st H E (.ok (.py p) st) Q) (hp : H a = none) (r : Dq (FZ hid w st (upd H a o)) (.ref a) p) : Q (.ref a) (upd H a o) := h.new g hp (RV.py r)
theorem small_ok {i : Int} (h : small i = true) : -(2 ^ 64) < i ∧ i < 2 ^ 64 := by
  unfold small at h
  rw [Bool.and_eq_true, decide_eq_true_eq, decide_eq_true_eq] at h
  exact h
theorem Dq.new {ps : List PD} {a : Addr} {vs : List V} (g : Good K fa ca hid w st H) (hp : H a = none) (r : DqAll (FZ hid w st H) vs ps) : Dq (FZ hid w st (upd H a (.lst vs))) (.ref a) (.list ps) :=
  .lst (FZ.new g hp) (DqAll.mono (Ext.new g hp).le r)
theorem Dq.newT {ps : List PD} {a : Addr} {vs : List V} (g : Good K fa ca hid w st H) (hp : H a = none) (r : DqAll (FZ hid w st H) vs ps) : Dq (FZ hid w st (upd H a (.tup vs))) (.ref a) (.tuple ps) :=
  .tup (FZ.new g hp) (DqAll.mono (Ext.new g hp).le r)
theorem bop_ok (g : Good K fa ca hid w st H) (rx : RV K fa w (FZ hid w st H) x d) (ry : RV K fa w (FZ hid w st H) y d') : ∀ op : BOp, bop st op d d' = some z → PostV K fa ca hid w st H E (.ok z st) Q → rB K op x y H Q := by
  intro op e h
  unfold bop at e
  split at e
  · cases e; cases rx with | py rx => cases rx; cases ry with | py ry => cases ry; exact .inl ⟨_, _, rfl, rfl, pv_py g h (.int _)⟩
  · cases e; cases rx with | py rx => cases rx; cases ry with | py ry => cases ry; exact ⟨_, _, rfl, rfl, pv_py g h (.int _)⟩
  · split at e
    · rename_i c
      cases e; cases rx with | py rx => cases rx; cases ry with | py ry => cases ry; exact .inl ⟨_, _, rfl, rfl, (Bool.or_eq_true_iff.mp c).imp small_ok small_ok, pv_py g h (.int _)⟩
    · cases e
  · split at e
    · rename_i c
      rw [Bool.and_eq_true, decide_eq_true_eq, decide_eq_true_eq] at c
      cases e; cases rx with | py rx => cases rx; cases ry with | py ry => cases ry; exact ⟨_, _, rfl, rfl, c, pv_py g h (.int _)⟩
    · cases e
  · split at e
    · rename_i c
      rw [decide_eq_true_eq] at c
      cases e; cases rx with | py rx => cases rx; cases ry with | py ry => cases ry; exact ⟨_, _, rfl, rfl, c, pv_py g h (.int _)⟩
    · cases e
  · split at e
    · rename_i c
      rw [Bool.and_eq_true, Bool.and_eq_true, decide_eq_true_eq, decide_eq_true_eq] at c
      have c3 := small_ok c.2
      cases e; cases rx with | py rx => cases rx; cases ry with | py ry => cases ry; exact ⟨_, _, rfl, rfl, ⟨c.1.1, c.1.2, by omega⟩, pv_py g h (.int _)⟩
    · cases e
  · split at e
    · rename_i c
      cases e; cases rx with | py rx => cases rx; cases ry with | py ry => cases ry; exact .inr (.inl ⟨_, _, rfl, rfl, by rw [sizeLine_eq]; exact c, pv_py g h (.str _)⟩)
    · cases e
  · split at e
    · rename_i c
      cases e
      cases rx with
      | py rx =>
        cases rx with
        | tup h1 t1 =>
          cases ry with
          | py ry =>
            cases ry with
            | tup h2 t2 =>
              refine .inr (.inr (.inl ⟨_, _, _, _, rfl, rfl, SqT.of (FZ.le _ _ h1), SqT.of (FZ.le _ _ h2), by rw [t1.length, t2.length, sizeLine_eq]; exact c, fun e => ?_, fun _ e => ?_, fun _ _ p hp => ?_⟩))
              · subst e; cases t1; exact pv_py g h (.tup h2 t2)
              · subst e; cases t2; rw [List.append_nil] at h; exact pv_py g h (.tup h1 t1)
              · exact pv_new g h hp (Dq.newT g hp (t1.append t2))
    · cases e
  · split at e
    · rename_i c
      cases e
      cases rx with
      | py rx =>
        cases rx with
        | lst h1 t1 =>
          cases ry with
          | py ry =>
            cases ry with
            | lst h2 t2 =>
              exact .inr (.inr (.inr ⟨_, _, _, _, rfl, rfl, FZ.le _ _ h1, FZ.le _ _ h2, by rw [t1.length, t2.length, sizeLine_eq]; exact c, fun p hp => pv_new g h hp (Dq.new g hp (t1.append t2))⟩))
    · cases e
  · split at e
    · rename_i c
      rw [Bool.and_eq_true, Bool.and_eq_true, decide_eq_true_eq, decide_eq_true_eq, decide_eq_true_eq] at c
      cases e
      cases rx with
      | py rx =>
        cases rx with
        | lst h1 t1 =>
          cases ry with
          | py ry =>
            cases ry
            exact .inr (.inl ⟨_, _, _, rfl, rfl, FZ.le _ _ h1, by omega, by omega, by rw [t1.length, sizeLine_eq]; exact c.2, fun p hp => pv_new g h hp (Dq.new g hp (t1.rep _))⟩)
    · cases e
  · split at e
    · rename_i c
      subst c
      cases e
      cases rx with
      | py rx =>
        cases rx with
        | tup h1 t1 =>
          cases ry with
          | py ry =>
            cases ry
            exact .inr (.inr (.inr ⟨_, _, rfl, rfl, FZ.le _ _ h1, pv_py g h (.tup h1 t1)⟩))
    · split at e
      · rename_i c
        rw [Bool.and_eq_true, Bool.and_eq_true, Bool.and_eq_true, decide_eq_true_eq, decide_eq_true_eq, decide_eq_true_eq] at c
        cases e
        cases rx with
        | py rx =>
          cases rx with
          | tup h1 t1 =>
            cases ry with
            | py ry =>
              cases ry
              refine .inr (.inr (.inl ⟨_, _, _, rfl, rfl, SqT.of (FZ.le _ _ h1), fun e => ?_, c.1.1.1, c.1.1.2, by rw [t1.length]; exact c.2, fun p hp => pv_new g h hp (Dq.newT g hp (t1.rep _))⟩))
              subst e
              cases t1
              simp at c
      · cases e
  · cases e
end
section
variable {X : Cx} {fa ca : Nat → Addr} {W : WX} {Δ : Dn} {a b : Expr} {ea eb : E} {pos : Pos}
theorem de_bin (op : BOp) (ha : DE X fa ca W Δ a ea) (hb : DE X fa ca W Δ b eb) : DE X fa ca W Δ (.BinOp a (opB op) b pos) (.bin op ea eb) := by
  refine PE.imp (pe_op (op_B op) ha hb) fun σ H Q h => ?_
  have h' : tG X.K fa ca W (relV X.K fa) (fun ρ st => (ev Δ ea ρ st).bind fun x st => (ev Δ eb ρ st).bind fun y st => .of (bop st op x y) st) σ H Q := by
    obtain ⟨hid, w, st, ρ, g, s, p⟩ := h
    exact ⟨hid, w, st, ρ, g, s, by simpa only [ev] using p⟩
  refine tG.two h' (fun _ _ _ z => z) (fun _ _ _ z => z) fun hid w st H E x y d d' g rx ry p => ?_
  obtain ⟨z, e, p⟩ := p.of
  exact bop_ok g rx ry op e p
theorem de_neg (ha : DE X fa ca W Δ a ea) : DE X fa ca W Δ (.UnaryOp .USub a pos) (.neg ea) := by
  refine PE.imp (pe_un un_neg ha) fun σ H Q h => ?_
  have h' : tG X.K fa ca W (relV X.K fa) (fun ρ st => (ev Δ ea ρ st).bind fun x st => .of ((intOf x).map fun i => .py (.int (-i))) st) σ H Q := by
    obtain ⟨hid, w, st, ρ, g, s, p⟩ := h
    exact ⟨hid, w, st, ρ, g, s, by simpa only [ev] using p⟩
  refine tG.one h' (fun _ _ _ z => z) fun hid w st H E x d g rx p => ?_
  obtain ⟨z, e, p⟩ := p.of
  obtain ⟨i, e1, rfl⟩ := Option.map_eq_some_iff.mp e
  unfold intOf at e1
  split at e1
  · cases e1
    cases rx with
    | py rx => cases rx; exact ⟨_, rfl, pv_py g p (.int _)⟩
  · cases e1
end
end Ev
set_option maxHeartbeats 1000000
namespace Ev
open PySem PySem.Spec PyProof.Rows L2
theorem lexAt_shift (e r : Nat → Bool) (z : Bool) : ∀ (k i : Nat), Ob.lexAt e r z (i + 1) k = Ob.lexAt (fun j => e (j + 1)) (fun j => r (j + 1)) z i k
  | 0, _ => rfl
  | k + 1, i => by
    rw [Ob.lexAt_succ, Ob.lexAt_succ, lexAt_shift e r z k (i + 1)]
theorem lexAt_congr {e e' r r' : Nat → Bool} {z : Bool} : ∀ (k i : Nat), (∀ j, i ≤ j → j < i + k → e j = e' j) → (∀ j, i ≤ j → j < i + k → r j = r' j) → Ob.lexAt e r z i k = Ob.lexAt e' r' z i k
  | 0, _, _, _ => rfl
  | k + 1, i, he, hr => by
    rw [Ob.lexAt_succ, Ob.lexAt_succ, he i (Nat.le_refl _) (by omega), hr i (Nat.le_refl _) (by omega), lexAt_congr k (i + 1) (fun j h1 h2 => he j (by omega) (by omega)) (fun j h1 h2 => hr j (by omega) (by omega))]
abbrev pairLt (xs ys : List PD) (j : Nat) : Bool := (ltPD (xs.getD j .none) (ys.getD j .none)).getD false
theorem ltAll_lex : ∀ (xs ys : List PD) (b : Bool), ltAll xs ys = some b → b = Ob.lexAt (SeqAt.pairEq xs ys) (pairLt xs ys) (decide (xs.length < ys.length)) 0 (min xs.length ys.length)
  | [], [], b, h => by cases h; rfl
  | [], _ :: _, b, h => by
    cases h
    simp [Ob.lexAt]
  | _ :: _, [], b, h => by
    cases h
    simp [Ob.lexAt]
  | x :: xs, y :: ys, b, h => by
    simp only [ltAll, Option.bind_eq_some_iff] at h
    obtain ⟨r, h1, h2⟩ := h
    have ih := ltAll_lex xs ys r h1
    have e1 : min (x :: xs).length (y :: ys).length = min xs.length ys.length + 1 := by simp only [List.length_cons]; omega
    rw [e1, Ob.lexAt_succ, lexAt_shift]
    have e2 : SeqAt.pairEq (x :: xs) (y :: ys) 0 = PyData.eqv x y := rfl
    have e3 : pairLt (x :: xs) (y :: ys) 0 = (ltPD x y).getD false := rfl
    have e4 : decide ((x :: xs).length < (y :: ys).length) = decide (xs.length < ys.length) := by simp
    rw [e2, e3, e4]
    by_cases q : PyData.eqv x y = true
    · rw [if_pos q] at h2 ⊢
      cases h2
      exact ih
    · rw [if_neg q] at h2 ⊢
      rw [h2]
      rfl
theorem ltAll_at : ∀ (xs ys : List PD) (b : Bool), ltAll xs ys = some b → ∀ j, j < xs.length → j < ys.length → SeqAt.pairEq xs ys j = false → ltPD (xs.getD j .none) (ys.getD j .none) = some (pairLt xs ys j)
  | [], _, _, _, j, h1, _, _ => absurd h1 (Nat.not_lt_zero _)
  | _ :: _, [], _, _, j, _, h2, _ => absurd h2 (Nat.not_lt_zero _)
  | x :: xs, y :: ys, b, h, j, h1, h2, hj => by
    simp only [ltAll, Option.bind_eq_some_iff] at h
    obtain ⟨r, h3, h4⟩ := h
    cases j with
    | zero =>
      have q : ¬ PyData.eqv x y = true := by
        have : PyData.eqv x y = false := hj
        rw [this]; exact Bool.false_ne_true
      rw [if_neg q] at h4
      show ltPD x y = some ((ltPD x y).getD false)
      rw [h4]; rfl
    | succ j => exact ltAll_at xs ys r h3 j (Nat.lt_of_succ_lt_succ h1) (Nat.lt_of_succ_lt_succ h2) hj
mutual
theorem rcLt_reads : ∀ (da db : PD) (A : Around) (s : Shared) (a b : Value) (as bs : List Addr) (r : Bool), Reads s.heap a da as → Reads s.heap b db bs → da.canLay0 = true → db.canLay0 = true → A.units + da.depth < cLine → ltPD da db = some r → Ob.RcOp .Lt A s a b r
  | .int i, .int j, A, s, _, _, _, _, r, ra, rb, _, _, _, h => by
    cases ra; cases rb
    simp only [ltPD, Option.some.injEq] at h
    subst h
    exact Ob.RcOp.lt_int _ _ _ _
  | .tuple xs, .tuple ys, A, s, _, _, _, _, r, ra, rb, ha, hb, hu, h => by
    simp only [ltPD] at h
    have ha' : PyData.canLayAll0 xs = true := ha
    have hb' : PyData.canLayAll0 ys = true := hb
    have hd : A.units + (PyData.depthAll xs + 1) < cLine := hu
    cases ra with
    | @tuple a1 o1 v1 n1 _ _ h1 h2 h3 h4 =>
      cases rb with
      | @tuple b1 o2 v2 n2 _ _ k1 k2 k3 k4 =>
        have l1 : v1.size = xs.length := by have := SeqAt.ReadsAll.length _ _ _ h4; simpa using this
        have l2 : v2.size = ys.length := by have := SeqAt.ReadsAll.length _ _ _ k4; simpa using this
        have z := Ob.RcOp.tuples_lt (A := A) (s := s) (l := a1) (b := b1) (items := v1) (items2 := v2) (e := SeqAt.pairEq xs ys) (r := pairLt xs ys) ⟨o1, h1, h2, n1, h3⟩ ⟨o2, k1, k2, n2, k3⟩ (by omega)
          (fun j j1 j2 => by
            have := SeqAt.eqAt_readsAll xs ys A.in1 s v1.toList v2.toList _ _ h4 k4 ha' hb' (by
              have q : min (PyData.depthAll xs) (PyData.depthAll ys) ≤ PyData.depthAll xs := Nat.min_le_left _ _
              show A.units + 1 + _ < cLine
              omega) j (by simpa using j1) (by simpa using j2)
            simpa using this)
          (fun j j1 j2 hj => by
            have := rcLt_readsAll xs ys A.in1 s v1.toList v2.toList _ _ h4 k4 ha' hb' (by show A.units + 1 + _ < cLine; omega) j (pairLt xs ys j) (by simpa using j1) (by simpa using j2) (ltAll_at xs ys r h j (by omega) (by omega) hj)
            simpa using this)
        rw [l1, l2, ← ltAll_lex xs ys r h] at z
        exact z
  | .none, _, _, _, _, _, _, _, _, _, _, _, _, _, h => by simp [ltPD] at h
  | .bool _, _, _, _, _, _, _, _, _, _, _, _, _, _, h => by simp [ltPD] at h
  | .str _, _, _, _, _, _, _, _, _, _, _, _, _, _, h => by simp [ltPD] at h
  | .list _, _, _, _, _, _, _, _, _, _, _, _, _, _, h => by simp [ltPD] at h
  | .dict _, _, _, _, _, _, _, _, _, _, _, _, _, _, h => by simp [ltPD] at h
  | .int _, .none, _, _, _, _, _, _, _, _, _, _, _, _, h => by simp [ltPD] at h
  | .int _, .bool _, _, _, _, _, _, _, _, _, _, _, _, _, h => by simp [ltPD] at h
  | .int _, .str _, _, _, _, _, _, _, _, _, _, _, _, _, h => by simp [ltPD] at h
  | .int _, .list _, _, _, _, _, _, _, _, _, _, _, _, _, h => by simp [ltPD] at h
  | .int _, .tuple _, _, _, _, _, _, _, _, _, _, _, _, _, h => by simp [ltPD] at h
  | .int _, .dict _, _, _, _, _, _, _, _, _, _, _, _, _, h => by simp [ltPD] at h
  | .tuple _, .none, _, _, _, _, _, _, _, _, _, _, _, _, h => by simp [ltPD] at h
  | .tuple _, .bool _, _, _, _, _, _, _, _, _, _, _, _, _, h => by simp [ltPD] at h
  | .tuple _, .int _, _, _, _, _, _, _, _, _, _, _, _, _, h => by simp [ltPD] at h
  | .tuple _, .str _, _, _, _, _, _, _, _, _, _, _, _, _, h => by simp [ltPD] at h
  | .tuple _, .list _, _, _, _, _, _, _, _, _, _, _, _, _, h => by simp [ltPD] at h
  | .tuple _, .dict _, _, _, _, _, _, _, _, _, _, _, _, _, h => by simp [ltPD] at h
theorem rcLt_readsAll : ∀ (xs ys : List PD) (A : Around) (s : Shared) (vs ws : List Value) (as bs : List Addr), ReadsAll s.heap vs xs as → ReadsAll s.heap ws ys bs → PyData.canLayAll0 xs = true → PyData.canLayAll0 ys = true →
    A.units + PyData.depthAll xs < cLine → ∀ j (r : Bool) (h1 : j < vs.length) (h2 : j < ws.length), ltPD (xs.getD j .none) (ys.getD j .none) = some r → Ob.RcOp .Lt A s vs[j] ws[j] r
  | [], _, _, _, _, _, _, _, ra, _, _, _, _, j, _, h1, _, _ => by cases ra; exact absurd h1 (Nat.not_lt_zero _)
  | _ :: _, [], _, _, _, _, _, _, _, rb, _, _, _, j, _, _, h2, _ => by cases rb; exact absurd h2 (Nat.not_lt_zero _)
  | x :: xs, y :: ys, A, s, _, _, _, _, ra, rb, ha, hb, hu, j, r, h1, h2, h => by
    have ha' : x.canLay0 = true ∧ PyData.canLayAll0 xs = true := by simpa [PyData.canLayAll0] using ha
    have hb' : y.canLay0 = true ∧ PyData.canLayAll0 ys = true := by simpa [PyData.canLayAll0] using hb
    have hd : A.units + max x.depth (PyData.depthAll xs) < cLine := hu
    cases ra with
    | cons r1 rs =>
      cases rb with
      | cons r' rs' =>
        cases j with
        | zero => exact rcLt_reads x y A s _ _ _ _ r r1 r' ha'.1 hb'.1 (by omega) h
        | succ j => exact rcLt_readsAll xs ys A s _ _ _ _ rs rs' ha'.2 hb'.2 (by omega) j r (Nat.lt_of_succ_lt_succ h1) (Nat.lt_of_succ_lt_succ h2) h
end
def rLtD (K : PySem.W.Frag) : R2 := fun x y H Q => ∃ d e r, Dp K H x d ∧ Dp K H y e ∧ SeqAt.shaped d = true ∧ SeqAt.shaped e = true ∧ ltPD d e = some r ∧ Q (.bl r) H
section
variable {X : Cx}
theorem op_ltD (hu : X.A.units + 64 < cLine) : OpR X (compareOp .Lt) (rLtD X.K) := by
  intro pins s σ H x y v u Q I rx ry h
  obtain ⟨d, e, r, hd, he, sd, se, hl, q⟩ := h
  obtain ⟨as, r1⟩ := Dp.reads I d x v hd rx
  obtain ⟨bs, r2⟩ := Dp.reads I e y u he ry
  have h1 := SeqAt.depth_of_shaped sd
  exact rcLt_reads d e X.A s v u as bs r r1 r2 (SeqAt.canLay_of_shaped sd) (SeqAt.canLay_of_shaped se) (by omega) hl _ _ _ _ ⟨.bl r, H, I, rfl, q⟩
end
def opC : COp → CmpOp
  | .lt => .Lt | .le => .LtE | .gt => .Gt | .ge => .GtE | .eq => .Eq | .ne => .NotEq | .isin => .In | .notin => .NotIn
end Ev
set_option maxHeartbeats 1000000
namespace Ev
open PySem PySem.Spec PyProof.Rows L2
section
variable {K : PySem.W.Frag} {fa ca : Nat → Addr} {hid w : List Addr} {st : Store} {H : Hp} {E : XK}
theorem mapM_some {α β : Type} {f : α → Option β} : ∀ {l : List α} {r : List β}, l.mapM f = some r → (l = [] ∧ r = []) ∨ ∃ a l' b r', l = a :: l' ∧ r = b :: r' ∧ f a = some b ∧ l'.mapM f = some r'
  | [], r, h => by
    simp at h
    exact .inl ⟨rfl, h⟩
  | a :: l', r, h => by
    rw [List.mapM_cons] at h
    simp only [bind, Option.bind_eq_some_iff, pure, Option.some.injEq] at h
    obtain ⟨b, h1, r', h2, h3⟩ := h
    exact .inr ⟨a, l', b, r', rfl, h3.symm, h1, h2⟩
mutual
theorem Dq.dpH {F : Hp} {v : V} {d : PD} (l : Le F H) (h : Dq F v d) : Dp K H v d := Dq.dp (Dq.mono l h)
end
theorem valF_ok (g : Good K fa ca hid w st H) : ∀ (n : Nat) {v : V} {d : D} {p : PD}, RV K fa w (FZ hid w st H) v d → valF n st d = some p → Dp K H v p := by
  intro n
  induction n with
  | zero =>
    intro v d p r h
    cases r with
    | py q => simp only [valF_py, Option.some.injEq] at h; subst h; exact Dq.dpH FZ.le q
    | ref _ => simp [valF] at h
    | fn => simp [valF] at h
    | tp _ _ => simp [valF] at h
    | scr _ => simp [valF] at h
  | succ n ih =>
    have all : ∀ {vs : List V} {ds : List D} {ps : List PD}, RVs K fa w (FZ hid w st H) vs ds → ds.mapM (valF n st) = some ps → DpAll K H vs ps := by
      intro vs ds
      induction ds generalizing vs with
      | nil =>
        intro ps r h
        cases r
        simp at h
        subst h
        exact .nil
      | cons d ds ihd =>
        intro ps r h
        cases r with
        | cons r1 r2 =>
          rcases mapM_some h with ⟨e, _⟩ | ⟨a, l', b, r', e, e2, h1, h2⟩
          · cases e
          · cases e
            subst e2
            exact .cons (ih r1 h1) (ihd r2 h2)
    intro v d p r h
    cases r with
    | py q => simp only [valF_py, Option.some.injEq] at h; subst h; exact Dq.dpH FZ.le q
    | ref hw =>
      simp only [valF] at h
      split at h
      · rename_i ds e
        obtain ⟨ps, h1, rfl⟩ := Option.map_eq_some_iff.mp h
        obtain ⟨a, ea, vs, h2, h3⟩ := g.cell e
        rw [ea] at hw; cases hw
        exact .lst (SqL.of h2) (all h3 h1)
      · rename_i d e
        cases h
        obtain ⟨a, ea, ok⟩ := g.cell e
        rw [ea] at hw; cases hw
        exact Dq.dpH FZ.le ok
      · cases h
    | fn => simp [valF] at h
    | tp h1 h2 =>
      simp only [valF] at h
      obtain ⟨ps, h3, rfl⟩ := Option.map_eq_some_iff.mp h
      exact .tup (SqT.of (FZ.le _ _ h1)) (all h2 h3)
    | scr _ => simp [valF] at h
theorem val_ok (g : Good K fa ca hid w st H) {v : V} {d : D} {p : PD} (r : RV K fa w (FZ hid w st H) v d) (h : val st d = some p) : Dp K H v p := valF_ok g 6 r h
theorem keyOf_ok {v : V} {d : D} {k : List Int} (r : RV K fa w (FZ hid w st H) v d) (h : keyOf d = some k) : ∃ b, v = .ref b ∧ H b = some (.tup ((k.map (Sum.inl : Int → Key)).map kV)) := by
  unfold keyOf at h
  split at h
  · rename_i ds
    cases r with
    | py q =>
      cases q with
      | tup h1 h2 =>
        refine ⟨_, rfl, ?_⟩
        have e := FZ.le _ _ h1
        rw [DqAll.ints h2 h] at e
        rw [List.map_map]
        exact e
  · cases h
abbrev KVD (K : PySem.W.Frag) (fa : Nat → Addr) (w : List Addr) (F : Hp) : List (List Key × V) → List (List Int × D) → Prop := Paired fun p q => p.1 = q.1.map Sum.inl ∧ RV K fa w F p.2 q.2
theorem inl_inj {a b : List Int} : a.map (Sum.inl : Int → Key) = b.map Sum.inl ↔ a = b := by
  constructor
  · intro h
    exact List.map_inj_right (fun _ _ e => Sum.inl.inj e) |>.mp h
  · rintro rfl; rfl
theorem KVD.val {F : Hp} {kv : List (List Key × V)} {kvs : List (List Int × D)} (r : KVD K fa w F kv kvs) (k : List Int) : (∀ d, valK kvs k = some d → ∃ v, valV kv (k.map Sum.inl) = some v ∧ RV K fa w F v d) ∧ (valK kvs k = none → valV kv (k.map Sum.inl) = none) := by
  induction r with
  | nil => exact ⟨fun d e => (by cases e), fun _ => rfl⟩
  | @cons p q ps qs hr ht ih =>
    obtain ⟨e1, e2⟩ := hr
    by_cases hk : q.1 = k
    · have h1 : valK (q :: qs) k = some q.2 := by simp [valK, List.find?_cons, hk]
      have h2 : valV (p :: ps) (k.map Sum.inl) = some p.2 := valV_pos (by rw [e1, hk])
      rw [h1, h2]
      exact ⟨fun d e => ⟨_, rfl, by cases e; exact e2⟩, fun e => by cases e⟩
    · have h1 : valK (q :: qs) k = valK qs k := by simp [valK, List.find?_cons, hk]
      have h2 : valV (p :: ps) (k.map Sum.inl) = valV ps (k.map Sum.inl) := valV_neg (by rw [e1]; exact fun z => hk (inl_inj.mp z))
      rw [h1, h2]
      exact ih
theorem KVD.any {F : Hp} {kv : List (List Key × V)} {kvs : List (List Int × D)} (r : KVD K fa w F kv kvs) (k : List Int) : (kv.any fun kv => decide (kv.1 = k.map Sum.inl)) = kvs.any fun kv => decide (kv.1 = k) := by
  induction r with
  | nil => rfl
  | @cons p q ps qs hr ht ih =>
    rw [List.any_cons, List.any_cons, ih, hr.1]
    congr 1
    exact decide_eq_decide.mpr inl_inj
theorem Paired.append {α β : Type} {F : α → β → Prop} : ∀ {l₁ : List α} {l₂ : List β} {m₁ : List α} {m₂ : List β}, Paired F l₁ l₂ → Paired F m₁ m₂ → Paired F (l₁ ++ m₁) (l₂ ++ m₂)
  | _, _, _, _, .nil, h => h
  | _, _, _, _, .cons r t, h => .cons r (Paired.append t h)
theorem KVD.repl {F : Hp} {kv : List (List Key × V)} {kvs : List (List Int × D)} (r : KVD K fa w F kv kvs) (k : List Int) {v : V} {d : D} (rv : RV K fa w F v d) :
    KVD K fa w F (kv.map fun kv => if kv.1 = k.map Sum.inl then (kv.1, v) else kv) (kvs.map fun kv => if kv.1 = k then (kv.1, d) else kv) := by
  induction r with
  | nil => exact .nil
  | @cons p q ps qs hr ht ih =>
    rw [List.map_cons, List.map_cons]
    refine .cons ?_ ih
    by_cases hk : q.1 = k
    · rw [if_pos hk, if_pos (by rw [hr.1, hk])]
      exact ⟨hr.1, rv⟩
    · rw [if_neg hk, if_neg (by rw [hr.1]; exact fun z => hk (inl_inj.mp z))]
      exact hr
theorem KVD.put {F : Hp} {kv : List (List Key × V)} {kvs : List (List Int × D)} (r : KVD K fa w F kv kvs) (k : List Int) {v : V} {d : D} (rv : RV K fa w F v d) : KVD K fa w F (L2.putK kv (k.map Sum.inl) v) (Ev.putK kvs k d) := by
  unfold L2.putK Ev.putK
  rw [r.any k]
  split
  · exact KVD.repl r k rv
  · exact Paired.append r (.cons ⟨rfl, rv⟩ .nil)
end
section
variable {X : Cx}
def rInDict : R2 := fun x y H Q => ∃ a o, y = .ref a ∧ DGet H a x o ∧ Q (.bl o.isSome) H
def rNotInDict : R2 := fun x y H Q => ∃ a o, y = .ref a ∧ DGet H a x o ∧ Q (.bl (!o.isSome)) H
theorem op_inDict (hu : X.A.units + 1 < cLine) : OpR X (compareOp .In) rInDict := by
  intro pins s σ H x y v u Q I rx ry h
  obtain ⟨a, o, rfl, g, q⟩ := h
  cases ry
  exact d_in hu I g rx fun s3 I3 => ⟨.bl o.isSome, H, I3, rfl, q⟩
theorem op_notInDict (hu : X.A.units + 1 < cLine) : OpR X (compareOp .NotIn) rNotInDict := by
  intro pins s σ H x y v u Q I rx ry h
  obtain ⟨a, o, rfl, g, q⟩ := h
  cases ry
  exact d_notIn hu I g rx fun s3 I3 => ⟨.bl (!o.isSome), H, I3, rfl, q⟩
def rIxD : R2 := fun x y H Q => ∃ a v, x = .ref a ∧ DGet H a y (some v) ∧ Q v H
theorem ix_dict (hu : X.A.units + 1 < cLine) : IxR X rIxD := by
  intro value slice pins s σ H x y v u Q I rx ry h hs
  obtain ⟨a, z, rfl, g, q⟩ := h
  cases rx
  exact tail_any (dict_typeIs I g) PySem.F.slot_dict_getitem.lookup (d_getItem hu I g ry fun w' s3 I3 rw' => ⟨z, H, I3, rw', q⟩) hs
def rSetD : V → V → V → Hp → (Hp → Prop) → Prop := fun o i v H Q => ∃ a H', o = .ref a ∧ DPut H a i v H' ∧ Q H'
theorem set_dict (hu : X.A.units + 1 < cLine) : PSet X rSetD := by
  intro pins s σ H o i v ov iv u Q I ro ri rv h
  obtain ⟨a, H', rfl, g, q⟩ := h
  cases ro
  exact d_setItem hu I g ri rv fun s4 I4 => ⟨H', I4, q⟩
def rC (K : PySem.W.Frag) : COp → R2
  | .lt => fun x y H Q => (rI0 fun i j => .bl (decide (i < j))) x y H Q ∨ rLtD K x y H Q
  | .le => rI0 fun i j => .bl (decide (i ≤ j))
  | .gt => rI0 fun i j => .bl (decide (j < i))
  | .ge => rI0 fun i j => .bl (decide (j ≤ i))
  | .eq => rEqD K
  | .ne => rNeD K
  | .isin => fun x y H Q => rInD K x y H Q ∨ rInDict x y H Q
  | .notin => fun x y H Q => rNotInD K x y H Q ∨ rNotInDict x y H Q
theorem op_C (hu : X.A.units + 65 < cLine) : ∀ op : COp, OpR X (compareOp (opC op)) (rC X.K op)
  | .lt => op_lt.or (op_ltD (by omega))
  | .le => op_le
  | .gt => op_gt
  | .ge => op_ge
  | .eq => op_eqD (by omega)
  | .ne => op_neD (by omega)
  | .isin => (op_inD hu).or (op_inDict (by omega))
  | .notin => (op_notInD hu).or (op_notInDict (by omega))
end
section
variable {K : PySem.W.Frag} {fa ca : Nat → Addr} {hid w : List Addr} {st : Store} {H : Hp} {x y : V} {d d' : D} {b : Bool} {Q : VK}
theorem shaped2 {p q : PD} (h : (SeqAt.shaped p && SeqAt.shaped q) = true) : SeqAt.shaped p = true ∧ SeqAt.shaped q = true := Bool.and_eq_true_iff.mp h
theorem isin_ok (g : Good K fa ca hid w st H) (rx : RV K fa w (FZ hid w st H) x d) (ry : RV K fa w (FZ hid w st H) y d') (h : isinD st d d' = some b) :
    (∃ p ds, Dp K H x p ∧ Dp K H y (.list ds) ∧ SeqAt.shaped p = true ∧ SeqAt.shaped (.list ds) = true ∧ b = ds.any fun z => PyData.eqv z p) ∨ ∃ a o, y = .ref a ∧ DGet H a x o ∧ b = o.isSome := by
  unfold isinD at h
  split at h
  · split at h
    · rename_i n kvs e
      obtain ⟨k, e1, rfl⟩ := Option.map_eq_some_iff.mp h
      obtain ⟨a, ea, kv, h1, h2⟩ := g.cell e
      cases ry with
      | ref hw =>
        rw [ea] at hw; cases hw
        obtain ⟨c, rfl, hc⟩ := keyOf_ok rx e1
        obtain ⟨z1, z2⟩ := KVD.val h2 k
        refine .inr ⟨a, _, rfl, DGet.t h1 hc, ?_⟩
        cases e3 : valK kvs k with
        | none => rw [z2 e3]; rfl
        | some d3 => obtain ⟨v3, e4, _⟩ := z1 d3 e3; rw [e4]; rfl
    · cases h
  · rename_i ds
    split at h
    · rename_i p e
      split at h
      · rename_i c
        cases h
        cases ry with
        | py q => exact .inl ⟨p, ds, val_ok g rx e, Dq.dpH FZ.le q, (shaped2 c).1, (shaped2 c).2, rfl⟩
      · cases h
    · cases h
  · cases h
theorem cop_ok (g : Good K fa ca hid w st H) (rx : RV K fa w (FZ hid w st H) x d) (ry : RV K fa w (FZ hid w st H) y d') (op : COp) (h : cop st op d d' = some b) (q : Q (.bl b) H) : rC K op x y H Q := by
  have intz : ∀ {i j : Int}, d = .py (.int i) → d' = .py (.int j) → x = .int i ∧ y = .int j := fun {i j} e1 e2 => by
    subst e1 e2
    cases rx with | py rx => cases rx; cases ry with | py ry => cases ry; exact ⟨rfl, rfl⟩
  cases op with
  | eq =>
    simp only [cop] at h
    split at h
    · rename_i p p' e1 e2
      split at h
      · rename_i c
        cases h
        exact ⟨p, p', val_ok g rx e1, val_ok g ry e2, (shaped2 c).1, (shaped2 c).2, q⟩
      · cases h
    · cases h
  | ne =>
    simp only [cop] at h
    split at h
    · rename_i p p' e1 e2
      split at h
      · rename_i c
        cases h
        exact ⟨p, p', val_ok g rx e1, val_ok g ry e2, (shaped2 c).1, (shaped2 c).2, q⟩
      · cases h
    · cases h
  | isin =>
    simp only [cop] at h
    rcases isin_ok g rx ry h with ⟨p, ds, h1, h2, h3, h4, rfl⟩ | ⟨a, o, rfl, h1, rfl⟩
    · exact .inl ⟨p, ds, h1, h2, h3, h4, q⟩
    · exact .inr ⟨a, o, rfl, h1, q⟩
  | notin =>
    simp only [cop] at h
    obtain ⟨c, h', rfl⟩ := Option.map_eq_some_iff.mp h
    rcases isin_ok g rx ry h' with ⟨p, ds, h1, h2, h3, h4, rfl⟩ | ⟨a, o, rfl, h1, rfl⟩
    · exact .inl ⟨p, ds, h1, h2, h3, h4, q⟩
    · exact .inr ⟨a, o, rfl, h1, q⟩
  | lt =>
    simp only [cop] at h
    split at h
    · rename_i i j
      obtain ⟨rfl, rfl⟩ := intz rfl rfl
      cases h
      exact .inl ⟨_, _, rfl, rfl, q⟩
    · rename_i p p' _
      split at h
      · rename_i c
        cases rx with
        | py r1 => cases ry with | py r2 => exact .inr ⟨p, p', b, Dq.dpH FZ.le r1, Dq.dpH FZ.le r2, (shaped2 c).1, (shaped2 c).2, h, q⟩
      · cases h
    · cases h
  | le =>
    simp only [cop] at h
    split at h
    · obtain ⟨rfl, rfl⟩ := intz rfl rfl
      cases h
      exact ⟨_, _, rfl, rfl, q⟩
    · cases h
    · cases h
  | gt =>
    simp only [cop] at h
    split at h
    · obtain ⟨rfl, rfl⟩ := intz rfl rfl
      cases h
      exact ⟨_, _, rfl, rfl, q⟩
    · cases h
    · cases h
  | ge =>
    simp only [cop] at h
    split at h
    · obtain ⟨rfl, rfl⟩ := intz rfl rfl
      cases h
      exact ⟨_, _, rfl, rfl, q⟩
    · cases h
    · cases h
end
end Ev
set_option maxHeartbeats 1000000
namespace Ev
open PySem PySem.Spec PyProof.Rows L2
theorem tG.cast {α β : Type} {K : PySem.W.Frag} {fa ca : Nat → Addr} {W : WX} {rel : List Addr → Hp → β → α → Prop} {f g : EnvD → Store → Rs α} {σ : L2.St} {H : Hp} {Q : β → Hp → Prop} (e : ∀ ρ st, f ρ st = g ρ st) (h : tG K fa ca W rel f σ H Q) : tG K fa ca W rel g σ H Q := by
  obtain ⟨hid, w, st, ρ, g0, s, p⟩ := h
  exact ⟨hid, w, st, ρ, g0, s, by rw [← e]; exact p⟩
section
variable {X : Cx} {fa ca : Nat → Addr} {W : WX} {Δ : Dn} {a b c : Expr} {ea eb ec : E} {pos : Pos}
theorem tCmp_of {op : COp} {σ : L2.St} {H : Hp} {Q QQ : VK} (hQ : ∀ (b : Bool) H, Q (.bl b) H → QQ (.bl b) H) (h : tG X.K fa ca W (relV X.K fa) (ev Δ (.cmp op ea eb)) σ H Q) :
    tOp (rC X.K op) (tG X.K fa ca W (relV X.K fa) (ev Δ ea)) (tG X.K fa ca W (relV X.K fa) (ev Δ eb)) σ H QQ := by
  obtain ⟨hid, w, st, ρ, g0, s0, p⟩ := h
  simp only [ev] at p
  refine ⟨hid, w, st, ρ, g0, s0, (PostG.bind (rel := relV X.K fa) p).mono fun x H1 ⟨d1, w1, st1, e1, g1, r1, _, p1⟩ => ?_⟩
  refine ⟨hid, w1, st1, ρ, g1, e1.slots s0, (PostG.bind (rel := relV X.K fa) p1).mono fun y H2 ⟨d2, w2, st2, e2, g2, r2, _, p2⟩ => ?_⟩
  obtain ⟨z, e, p2⟩ := p2.of
  obtain ⟨k, e4, rfl⟩ := Option.map_eq_some_iff.mp e
  exact cop_ok g2 (e2.rv r1) r2 op e4 (hQ k _ (pv_py g2 p2 (.bl k)))
theorem de_cmp (hu : X.A.units + 65 < cLine) (op : COp) (ha : DE X fa ca W Δ a ea) (hb : DE X fa ca W Δ b eb) (hm : behindInMarks (opC op) b = false) : DE X fa ca W Δ (.Compare a [opC op] [b] pos) (.cmp op ea eb) :=
  PE.imp (pe_cmpR (op_C hu op) ha hb hm) fun σ H Q h => tCmp_of (fun _ _ z => z) h
theorem tChain_of {op op' : COp} {σ : L2.St} {H : Hp} {Q : VK} {QQ : VK} (hQ : ∀ (b : Bool) H, Q (.bl b) H → QQ (.bl b) H)
    (h : tG X.K fa ca W (relV X.K fa) (ev Δ (.cmp2 op op' ea eb ec)) σ H Q) :
    tChain (rC X.K op) (rC X.K op') (tG X.K fa ca W (relV X.K fa) (ev Δ ea)) (tG X.K fa ca W (relV X.K fa) (ev Δ eb)) (tG X.K fa ca W (relV X.K fa) (ev Δ ec)) σ H QQ := by
  obtain ⟨hid, w, st, ρ, g0, s0, p⟩ := h
  simp only [ev] at p
  refine ⟨hid, w, st, ρ, g0, s0, (PostG.bind (rel := relV X.K fa) p).mono fun x H1 ⟨d1, w1, st1, e1, g1, r1, _, p1⟩ => ?_⟩
  refine ⟨hid, w1, st1, ρ, g1, e1.slots s0, (PostG.bind (rel := relV X.K fa) p1).mono fun y H2 ⟨d2, w2, st2, e2, g2, r2, _, p2⟩ => ?_⟩
  cases q : cop st2 op d1 d2 with
  | none => rw [q] at p2; exact p2.elim
  | some k =>
    rw [q] at p2
    simp only [Rs.of_some, Rs.bind_ok] at p2
    refine cop_ok g2 (e2.rv r1) r2 op q ⟨k, rfl, ?_⟩
    cases k with
    | false =>
      rw [if_neg (by decide)] at p2 ⊢
      exact hQ false _ (pv_py g2 p2 (.bl false))
    | true =>
      rw [if_pos rfl] at p2 ⊢
      refine ⟨hid, w2, st2, ρ, g2, (e1.trans e2).slots s0, (PostG.bind (rel := relV X.K fa) p2).mono fun z H3 ⟨d3, w3, st3, e3, g3, r3, _, p3⟩ => ?_⟩
      obtain ⟨z', e, p3⟩ := p3.of
      obtain ⟨k2, e4, rfl⟩ := Option.map_eq_some_iff.mp e
      exact cop_ok g3 (e3.rv r2) r3 op' e4 (hQ k2 _ (pv_py g3 p3 (.bl k2)))
theorem de_cmp2 (hu : X.A.units + 65 < cLine) (op op' : COp) (ha : DE X fa ca W Δ a ea) (hb : DE X fa ca W Δ b eb) (hc : DE X fa ca W Δ c ec) (hm : lastMarks [opC op, opC op'] [b, c] = false) : DE X fa ca W Δ (.Compare a [opC op, opC op'] [b, c] pos) (.cmp2 op op' ea eb ec) :=
  PE.imp (pe_chain (op_C hu op) (op_C hu op') ha hb hc hm) fun σ H Q h => tChain_of (fun _ _ z => z) h
theorem evT_v {e : E} {ρ : EnvD} {st : Store} : evT Δ (.v e) ρ st = (ev Δ e ρ st).bind fun d st => .of (truth st d) st := by rw [evT]
/-- a test by a value that is a bool -/
theorem tG.tb {e : E} {σ : L2.St} {H : Hp} {Q : Bool → Hp → Prop} (h : tG X.K fa ca W relB (evT Δ (.v e)) σ H Q) : tG X.K fa ca W (relV X.K fa) (ev Δ e) σ H (fun x H1 => ∃ k, TruV X.K x H1 k ∧ Q k H1) := by
  obtain ⟨hid, w, st, ρ, g0, s0, p⟩ := h
  rw [evT_v] at p
  refine ⟨hid, w, st, ρ, g0, s0, (PostG.bind (rel := relV X.K fa) p).mono fun x H1 ⟨d1, w1, st1, e1, g1, r1, _, p1⟩ => ?_⟩
  obtain ⟨z, e, p1⟩ := p1.of
  exact ⟨z, truth_ok g1 r1 e, p1.here g1 rfl⟩
/-- a comparison as a test -/
theorem dt_cmp (hu : X.A.units + 65 < cLine) (op : COp) (ha : DE X fa ca W Δ a ea) (hb : DE X fa ca W Δ b eb) (hm : behindInMarks (opC op) b = false) : DT X fa ca W Δ (.Compare a [opC op] [b] pos) (.v (.cmp op ea eb)) := by
  refine PT.imp (pt_cmpR (op_C hu op) ha hb hm) fun σ H Q h => ?_
  refine tCmp_of (QQ := fun x H' => ∃ k, x = .bl k ∧ Q k H') (fun b H' z => ?_) (tG.tb h)
  obtain ⟨k, t, q⟩ := z
  have e : k = b := t
  exact ⟨b, rfl, by rw [← e]; exact q⟩
theorem dt_cmp2 (hu : X.A.units + 65 < cLine) (op op' : COp) (ha : DE X fa ca W Δ a ea) (hb : DE X fa ca W Δ b eb) (hc : DE X fa ca W Δ c ec) (hm : lastMarks [opC op, opC op'] [b, c] = false) : DT X fa ca W Δ (.Compare a [opC op, opC op'] [b, c] pos) (.v (.cmp2 op op' ea eb ec)) := by
  refine PT.imp (pt_chain (op_C hu op) (op_C hu op') ha hb hc hm) fun σ H Q h => ?_
  refine tChain_of (QQ := fun x H' => ∃ k, x = .bl k ∧ Q k H') (fun b H' z => ?_) (tG.tb h)
  obtain ⟨k, t, q⟩ := z
  have e : k = b := t
  exact ⟨b, rfl, by rw [← e]; exact q⟩
/-- another expression as a test -/
theorem dt_v (h : DE X fa ca W Δ a ea) (he : ∀ whole, isTrue a X.env whole = (do let v ← whole; standAt a.pos; holding [v] (truthy v))) : DT X fa ca W Δ a (.v ea) :=
  PT.imp (pt_truth h he) fun σ H Q q => tG.tb q
theorem isB_of {x : V} {d : D} {k b : Bool} {K : PySem.W.Frag} {w : List Addr} {F : Hp} (r : RV K fa w F x d) (e : isc (.bool b) d = some k) : ∃ c : Bool, x = .bl c ∧ k = decide (c = b) := by
  cases r with
  | py q => cases q <;> first | (simp [isc] at e; done) | (simp only [isc, Option.some.injEq] at e; exact ⟨_, rfl, e.symm⟩)
  | ref _ => simp [isc] at e
  | fn => simp [isc] at e
  | tp _ _ => simp [isc] at e
  | scr _ => simp [isc] at e
theorem isN_of {x : V} {d : D} {k : Bool} {K : PySem.W.Frag} {w : List Addr} {F : Hp} (r : RV K fa w F x d) (e : isc .none d = some k) : k = decide (x = V.non) := by
  cases r with
  | py q => cases q <;> (simp only [isc, Option.some.injEq] at e; subst e; simp)
  | ref _ => simp only [isc, Option.some.injEq] at e; subst e; simp
  | fn => simp [isc] at e
  | tp _ _ => simp only [isc, Option.some.injEq] at e; subst e; simp
  | scr _ => simp [isc] at e
def rIsX (ng : Bool) : R2 := fun x y H Q => (y = .non ∧ Q (.bl (decide (x = .non) != ng)) H) ∨ ∃ a b : Bool, x = .bl a ∧ y = .bl b ∧ Q (.bl (decide (a = b) != ng)) H
def opIs : Bool → CmpOp
  | false => .Is
  | true => .IsNot
theorem op_IsX {X : Cx} : ∀ ng : Bool, OpR X (compareOp (opIs ng)) (rIsX ng)
  | false => fun pins s σ H x y v u Q I rx ry h => by
    rcases h with ⟨e, q⟩ | ⟨a, b, e1, e2, q⟩
    · exact op_isN pins s σ H x y v u Q I rx ry ⟨e, by simpa using q⟩
    · exact op_isBl pins s σ H x y v u Q I rx ry ⟨a, b, e1, e2, by simpa using q⟩
  | true => fun pins s σ H x y v u Q I rx ry h => by
    rcases h with ⟨e, q⟩ | ⟨a, b, e1, e2, q⟩
    · exact op_notN pins s σ H x y v u Q I rx ry ⟨e, by simpa using q⟩
    · exact op_notBl pins s σ H x y v u Q I rx ry ⟨a, b, e1, e2, by simpa using q⟩
theorem tIs_of {c : PD} {v : V} {ng : Bool} {σ : L2.St} {H : Hp} {Q QQ : VK} (hc : (c = .none ∧ v = .non) ∨ ∃ b, c = .bool b ∧ v = .bl b) (hQ : ∀ (b : Bool) H, Q (.bl b) H → QQ (.bl b) H) (h : tG X.K fa ca W (relV X.K fa) (ev Δ (.isc c ng ea)) σ H Q) :
    tOp (rIsX ng) (tG X.K fa ca W (relV X.K fa) (ev Δ ea)) (tC v) σ H QQ := by
  obtain ⟨hid, w, st, ρ, g0, s0, p⟩ := h
  simp only [ev] at p
  refine ⟨hid, w, st, ρ, g0, s0, (PostG.bind (rel := relV X.K fa) p).mono fun x H1 ⟨d1, w1, st1, e1, g1, r1, _, p1⟩ => ?_⟩
  obtain ⟨z, e, p1⟩ := p1.of
  obtain ⟨k, e4, rfl⟩ := Option.map_eq_some_iff.mp e
  have q := hQ _ _ (pv_py g1 p1 (.bl (k != ng)))
  rcases hc with ⟨rfl, rfl⟩ | ⟨b, rfl, rfl⟩
  · exact .inl ⟨rfl, by rw [← isN_of r1 e4]; exact q⟩
  · obtain ⟨c, rfl, hk⟩ := isB_of r1 e4
    exact .inr ⟨c, b, rfl, rfl, by rw [← hk]; exact q⟩
theorem de_isc {c : PD} {v : V} {ng : Bool} {b : Expr} (hc : (c = .none ∧ v = .non) ∨ ∃ b, c = .bool b ∧ v = .bl b) (hb : PE X b (tC v)) (ha : DE X fa ca W Δ a ea) : DE X fa ca W Δ (.Compare a [opIs ng] [b] pos) (.isc c ng ea) :=
  PE.imp (pe_cmpR (op_IsX ng) ha hb (nomark _ (by cases ng <;> decide) (by cases ng <;> decide))) fun σ H Q h => tIs_of hc (fun _ _ z => z) h
theorem dt_isc {c : PD} {v : V} {ng : Bool} {b : Expr} (hc : (c = .none ∧ v = .non) ∨ ∃ b, c = .bool b ∧ v = .bl b) (hb : PE X b (tC v)) (ha : DE X fa ca W Δ a ea) : DT X fa ca W Δ (.Compare a [opIs ng] [b] pos) (.v (.isc c ng ea)) := by
  refine PT.imp (pt_cmpR (op_IsX ng) ha hb (nomark _ (by cases ng <;> decide) (by cases ng <;> decide))) fun σ H Q h => ?_
  refine tIs_of (QQ := fun x H' => ∃ k, x = .bl k ∧ Q k H') hc (fun b H' z => ?_) (tG.tb h)
  obtain ⟨k, t, q⟩ := z
  have e : k = b := t
  exact ⟨b, rfl, by rw [← e]; exact q⟩
theorem de_and {rest : List Expr} (ha : DE X fa ca W Δ a ea) (hb : DE X fa ca W Δ (.BoolOp .And (b :: rest) pos) eb) : DE X fa ca W Δ (.BoolOp .And (a :: b :: rest) pos) (.and ea eb) := by
  refine PE.imp (pe_and ha hb) fun σ H Q ⟨hid, w, st, ρ, g0, s0, p⟩ => ?_
  simp only [ev] at p
  refine ⟨hid, w, st, ρ, g0, s0, (PostG.bind (rel := relV X.K fa) p).mono fun x H1 ⟨d1, w1, st1, e1, g1, r1, _, p1⟩ => ?_⟩
  split at p1
  · cases r1 with | py q => cases q; exact ⟨true, rfl, by rw [if_pos rfl]; exact ⟨hid, w1, st1, ρ, g1, e1.slots s0, p1⟩⟩
  · cases r1 with | py q => cases q; exact ⟨false, rfl, by rw [if_neg (by decide)]; exact pv_py g1 p1 (.bl false)⟩
  · exact p1.elim
theorem de_or {rest : List Expr} (ha : DE X fa ca W Δ a ea) (hb : DE X fa ca W Δ (.BoolOp .Or (b :: rest) pos) eb) : DE X fa ca W Δ (.BoolOp .Or (a :: b :: rest) pos) (.or ea eb) := by
  refine PE.imp (pe_or ha hb) fun σ H Q ⟨hid, w, st, ρ, g0, s0, p⟩ => ?_
  simp only [ev] at p
  refine ⟨hid, w, st, ρ, g0, s0, (PostG.bind (rel := relV X.K fa) p).mono fun x H1 ⟨d1, w1, st1, e1, g1, r1, _, p1⟩ => ?_⟩
  split at p1
  · cases r1 with | py q => cases q; exact ⟨true, rfl, by rw [if_pos rfl]; exact pv_py g1 p1 (.bl true)⟩
  · cases r1 with | py q => cases q; exact ⟨false, rfl, by rw [if_neg (by decide)]; exact ⟨hid, w1, st1, ρ, g1, e1.slots s0, p1⟩⟩
  · exact p1.elim
theorem de_one {op : BoolOp} (h : DE X fa ca W Δ a ea) : DE X fa ca W Δ (.BoolOp op [a] pos) ea := pe_one h
theorem de_nt (ha : DE X fa ca W Δ a ea) : DE X fa ca W Δ (.UnaryOp .Not a pos) (.nt ea) := by
  refine PE.imp (pe_notT ha) fun σ H Q h => ?_
  refine tG.one (r := fun x H Q => ∃ k, TruV X.K x H k ∧ Q (.bl (!k)) H) (tG.cast (g := fun ρ st => (ev Δ ea ρ st).bind fun x st => .of ((truth st x).map fun b => .py (.bool (!b))) st) (fun ρ st => by rw [ev]) h) (fun _ _ _ z => z) fun hid w st H E x d g rx p => ?_
  obtain ⟨z, e, p⟩ := p.of
  obtain ⟨k, e1, rfl⟩ := Option.map_eq_some_iff.mp e
  exact ⟨k, truth_ok g rx e1, pv_py g p (.bl _)⟩
theorem de_ife {t : T} {tb : Expr} (ht : DT X fa ca W Δ tb t) (ha : DE X fa ca W Δ a ea) (hb : DE X fa ca W Δ b eb) : DE X fa ca W Δ (.IfExp tb a b pos) (.ife t ea eb) := by
  refine PE.imp (pe_ifExp ht ha hb) fun σ H Q ⟨hid, w, st, ρ, g0, s0, p⟩ => ?_
  simp only [ev] at p
  refine ⟨hid, w, st, ρ, g0, s0, (PostG.bind (rel := relB) p).mono fun x H1 ⟨d1, w1, st1, e1, g1, r1, _, p1⟩ => ?_⟩
  cases (show x = d1 from r1)
  cases x with
  | true => rw [if_pos rfl] at p1 ⊢; exact ⟨hid, w1, st1, ρ, g1, e1.slots s0, p1⟩
  | false => rw [if_neg (by decide)] at p1 ⊢; exact ⟨hid, w1, st1, ρ, g1, e1.slots s0, p1⟩
theorem dw_and {rest : List Expr} {ta tb : T} (ha : DT X fa ca W Δ a ta) (hb : PW X (.BoolOp .And (b :: rest) pos) (tG X.K fa ca W relB (evT Δ tb))) : PW X (.BoolOp .And (a :: b :: rest) pos) (tG X.K fa ca W relB (evT Δ (.and ta tb))) := by
  have h := pw_and ha hb
  refine ⟨fun wh pins s σ H Q I q => h.run wh pins s σ H Q I ?_⟩
  obtain ⟨hid, w, st, ρ, g0, s0, p⟩ := q
  simp only [evT] at p
  refine ⟨hid, w, st, ρ, g0, s0, (PostG.bind (rel := relB) p).mono fun x H1 ⟨d1, w1, st1, e1, g1, r1, _, p1⟩ => ?_⟩
  cases (show x = d1 from r1)
  cases x with
  | true => rw [if_pos rfl] at p1 ⊢; exact ⟨hid, w1, st1, ρ, g1, e1.slots s0, p1⟩
  | false => rw [if_neg (by decide)] at p1 ⊢; exact p1.here g1 rfl
theorem dw_or {rest : List Expr} {ta tb : T} (ha : DT X fa ca W Δ a ta) (hb : PW X (.BoolOp .Or (b :: rest) pos) (tG X.K fa ca W relB (evT Δ tb))) : PW X (.BoolOp .Or (a :: b :: rest) pos) (tG X.K fa ca W relB (evT Δ (.or ta tb))) := by
  have h := pw_or ha hb
  refine ⟨fun wh pins s σ H Q I q => h.run wh pins s σ H Q I ?_⟩
  obtain ⟨hid, w, st, ρ, g0, s0, p⟩ := q
  simp only [evT] at p
  refine ⟨hid, w, st, ρ, g0, s0, (PostG.bind (rel := relB) p).mono fun x H1 ⟨d1, w1, st1, e1, g1, r1, _, p1⟩ => ?_⟩
  cases (show x = d1 from r1)
  cases x with
  | true => rw [if_pos rfl] at p1 ⊢; exact p1.here g1 rfl
  | false => rw [if_neg (by decide)] at p1 ⊢; exact ⟨hid, w1, st1, ρ, g1, e1.slots s0, p1⟩
theorem dw_and1 {ta : T} (ha : DT X fa ca W Δ a ta) : PW X (.BoolOp .And [a] pos) (tG X.K fa ca W relB (evT Δ ta)) := pw_and1 ha
theorem dw_or1 {ta : T} (ha : DT X fa ca W Δ a ta) : PW X (.BoolOp .Or [a] pos) (tG X.K fa ca W relB (evT Δ ta)) := pw_or1 ha
theorem dt_nt {ta : T} (ha : DT X fa ca W Δ a ta) : DT X fa ca W Δ (.UnaryOp .Not a pos) (.nt ta) := by
  refine PT.imp (pt_not ha) fun σ H Q ⟨hid, w, st, ρ, g0, s0, p⟩ => ?_
  simp only [evT] at p
  exact ⟨hid, w, st, ρ, g0, s0, (PostG.bind (rel := relB) p).mono fun x H1 ⟨d1, w1, st1, e1, g1, r1, _, p1⟩ => by cases r1; exact p1.here g1 rfl⟩
theorem dts_nil : DTs X fa ca W Δ [] .yes := by
  refine ⟨fun pins s σ H Q I h => pts_nil.run pins s σ H Q I ?_⟩
  obtain ⟨hid, w, st, ρ, g0, s0, p⟩ := h
  simp only [evT] at p
  exact p.here g0 rfl
theorem dts_one {t : T} (h : DT X fa ca W Δ a t) : DTs X fa ca W Δ [a] t := pts_one h
theorem atI_map {α β : Type} {f : α → β} {xs : List α} {i : Int} {j : Nat} {a : α} (h : ixN xs.length i = some j) (e : xs[j]? = some a) (ys : List β) (hl : ys.length = xs.length) {b : β} (hb : ys[j]? = some b) : atI ys i = some b := by
  unfold atI
  rw [hl]
  rw [show L2.ixN xs.length i = some j from h]
  exact hb
def rIxX (K : PySem.W.Frag) : R2 := fun x y H Q => rIxL K x y H Q ∨ (rIxT K x y H Q ∨ rIxD x y H Q)
theorem ix_X (hu : X.A.units + 1 < cLine) : IxR X (rIxX X.K) := ix_list.or (ix_tup.or (ix_dict hu))
theorem intOf_ok {K : PySem.W.Frag} {w : List Addr} {F : Hp} {y : V} {d : D} {i : Int} (r : RV K fa w F y d) (h : intOf d = some i) : y = .int i := by
  unfold intOf at h
  split at h
  · cases h; cases r with | py q => cases q; rfl
  · cases h
theorem getix_ok {K : PySem.W.Frag} {hid w : List Addr} {st : Store} {H : Hp} {x y : V} {d d' z : D} {Q : VK} {E : XK} (g : Good K fa ca hid w st H) (rx : RV K fa w (FZ hid w st H) x d) (ry : RV K fa w (FZ hid w st H) y d') (h : getix st d d' = some z)
    (p : PostV K fa ca hid w st H E (.ok z st) Q) : rIxX K x y H Q := by
  have seqd : ∀ {vs : List V} {ds : List PD} {i : Int} {j : Nat}, DqAll (FZ hid w st H) vs ds → intOf d' = some i → ixN ds.length i = some j → (ds[j]?).map D.py = some z → ∃ v, y = .int i ∧ atI vs i = some v ∧ Q v H := by
    intro vs ds i j r h1 h2 h3
    obtain ⟨q, h4, rfl⟩ := Option.map_eq_some_iff.mp h3
    obtain ⟨v, h5, h6⟩ := r.get h4
    exact ⟨v, intOf_ok ry h1, atI_map (f := fun (_ : PD) => v) h2 h4 vs r.length h5, pv_py g p h6⟩
  unfold getix at h
  split at h
  · split at h
    · rename_i n kvs e
      obtain ⟨k, e1, e2⟩ := Option.bind_eq_some_iff.mp h
      obtain ⟨a, ea, kv, h1, h2⟩ := g.cell e
      cases rx with
      | ref hw =>
        rw [ea] at hw; cases hw
        obtain ⟨c, rfl, hc⟩ := keyOf_ok ry e1
        obtain ⟨v, e3, r3⟩ := (KVD.val h2 k).1 _ e2
        exact .inr (.inr ⟨a, v, rfl, by have := DGet.t h1 hc; rw [e3] at this; exact this, p.here g r3⟩)
    · rename_i n ds e
      obtain ⟨i, e1, e2⟩ := Option.bind_eq_some_iff.mp h
      obtain ⟨j, e3, e4⟩ := Option.bind_eq_some_iff.mp e2
      obtain ⟨a, ea, vs, h1, h2⟩ := g.cell e
      cases rx with
      | ref hw =>
        rw [ea] at hw; cases hw
        obtain ⟨v, h5, h6⟩ := h2.get e4
        exact .inl ⟨a, vs, i, v, rfl, intOf_ok ry e1, SqL.of h1, atI_map (f := fun (_ : D) => v) e3 e4 vs h2.length h5, p.here g h6⟩
    · rename_i n ds e
      obtain ⟨i, e1, e2⟩ := Option.bind_eq_some_iff.mp h
      obtain ⟨j, e3, e4⟩ := Option.bind_eq_some_iff.mp e2
      obtain ⟨a, ea, ok⟩ := g.cell e
      cases rx with
      | ref hw =>
        rw [ea] at hw; cases hw
        cases (show Dq (FZ hid w st H) (.ref _) (.list ds) from ok) with
        | lst hs ha =>
          obtain ⟨v, h5, h6, h7⟩ := seqd ha e1 e3 e4
          exact .inl ⟨_, _, i, v, rfl, h5, SqL.of (FZ.le _ _ hs), h6, h7⟩
    · cases h
  · rename_i ds
    obtain ⟨i, e1, e2⟩ := Option.bind_eq_some_iff.mp h
    obtain ⟨j, e3, e4⟩ := Option.bind_eq_some_iff.mp e2
    cases rx with
    | py q =>
      cases q with
      | lst hs ha =>
        obtain ⟨v, h5, h6, h7⟩ := seqd ha e1 e3 e4
        exact .inl ⟨_, _, i, v, rfl, h5, SqL.of (FZ.le _ _ hs), h6, h7⟩
  · rename_i ds
    obtain ⟨i, e1, e2⟩ := Option.bind_eq_some_iff.mp h
    obtain ⟨j, e3, e4⟩ := Option.bind_eq_some_iff.mp e2
    cases rx with
    | py q =>
      cases q with
      | tup hs ha =>
        obtain ⟨v, h5, h6, h7⟩ := seqd ha e1 e3 e4
        exact .inr (.inl ⟨_, _, i, v, rfl, h5, SqT.of (FZ.le _ _ hs), h6, h7⟩)
  · rename_i ds
    obtain ⟨i, e1, e2⟩ := Option.bind_eq_some_iff.mp h
    obtain ⟨j, e3, e4⟩ := Option.bind_eq_some_iff.mp e2
    cases rx with
    | tp hs ha =>
      obtain ⟨v, h5, h6⟩ := ha.get e4
      exact .inr (.inl ⟨_, _, i, v, rfl, intOf_ok ry e1, SqT.of (FZ.le _ _ hs), atI_map (f := fun (_ : D) => v) e3 e4 _ ha.length h5, p.here g h6⟩)
  · rename_i ns
    obtain ⟨i, e1, e2⟩ := Option.bind_eq_some_iff.mp h
    obtain ⟨j, e3, e4⟩ := Option.bind_eq_some_iff.mp e2
    obtain ⟨q, h4, rfl⟩ := Option.map_eq_some_iff.mp e4
    cases rx with
    | scr hs => exact .inl ⟨_, _, i, .int q, rfl, intOf_ok ry e1, FZ.le.sqL hs, atI_map (f := fun (_ : Int) => V.int q) e3 h4 _ (by rw [List.length_map]) (by rw [List.getElem?_map, h4]; rfl), pv_py g p (.int q)⟩
  · cases h
theorem de_ix (hu : X.A.units + 1 < cLine) (ha : DE X fa ca W Δ a ea) (hb : DE X fa ca W Δ b eb) (hs : PlainIx b) : DE X fa ca W Δ (.Subscript a b pos) (.ix ea eb) := by
  refine PE.imp (pe_ix (ix_X hu) ha hb hs) fun σ H Q h => ?_
  refine tG.two (tG.cast (g := fun ρ st => (ev Δ ea ρ st).bind fun x st => (ev Δ eb ρ st).bind fun y st => .of (getix st x y) st) (fun ρ st => by rw [ev]) h) (fun _ _ _ z => z) (fun _ _ _ z => z) fun hid w st H E x y d d' g rx ry p => ?_
  obtain ⟨z, e, p⟩ := p.of
  exact getix_ok g rx ry e p
theorem do_no : DO X fa ca W Δ none .no := by
  refine ⟨fun pins s σ H Q I h => po_none.run pins s σ H Q I ?_⟩
  obtain ⟨hid, w, st, ρ, g0, s0, p⟩ := h
  simp only [evO] at p
  exact p.here g0 rfl
theorem do_so (h : DE X fa ca W Δ a ea) : DO X fa ca W Δ (some a) (.so ea) := by
  refine ⟨fun pins s σ H Q I hw => (po_some h).run pins s σ H Q I ?_⟩
  obtain ⟨hid, w, st, ρ, g0, s0, p⟩ := hw
  simp only [evO] at p
  refine ⟨hid, w, st, ρ, g0, s0, (PostG.bind (rel := relV X.K fa) p).mono fun x H1 ⟨d1, w1, st1, e1, g1, r1, _, p1⟩ => ?_⟩
  obtain ⟨z, e, p1⟩ := p1.of
  obtain ⟨i, e2, rfl⟩ := Option.map_eq_some_iff.mp e
  exact ⟨i, intOf_ok r1 e2, p1.here g1 rfl⟩
theorem cutV_eq {F : Hp} {vs : List V} {ds : List PD} (r : DqAll F vs ds) (lo hi : Option Int) : DqAll F (cutV vs lo hi) (cut ds lo hi) := by
  unfold cutV cut
  rw [r.length]
  exact (r.drop _).take _
theorem cut_whole {lo hi : Option Int} {ds : List PD} (hw : HT.sIx ds.length 0 lo = 0 ∧ HT.sIx ds.length ds.length hi = ds.length) : cut ds lo hi = ds := by
  unfold cut
  rw [hw.1, hw.2]
  simp
theorem de_sl {lo hi : Option Expr} {ol oh : O} {p2 : Pos} (ha : DE X fa ca W Δ a ea) (hl : DO X fa ca W Δ lo ol) (hh : DO X fa ca W Δ hi oh) : DE X fa ca W Δ (.Subscript a (.Slice lo hi none p2) pos) (.sl ea ol oh) := by
  refine PE.imp (pe_slice (sl_tupA.or sl_list) ha hl hh) fun σ H Q ⟨hid, w, st, ρ, g0, s0, p⟩ => ?_
  simp only [ev] at p
  refine ⟨hid, w, st, ρ, g0, s0, (PostG.bind (rel := relV X.K fa) p).mono fun x H1 ⟨d1, w1, st1, e1, g1, r1, _, p1⟩ => ?_⟩
  refine ⟨hid, w1, st1, ρ, g1, e1.slots s0, (PostG.bind (rel := relO) p1).mono fun l H2 ⟨l', w2, st2, e2, g2, r2, _, p2⟩ => ?_⟩
  refine ⟨hid, w2, st2, ρ, g2, (e1.trans e2).slots s0, (PostG.bind (rel := relO) p2).mono fun h H3 ⟨h', w3, st3, e3, g3, r3, _, p3⟩ => ?_⟩
  cases (show l = l' from r2)
  cases (show h = h' from r3)
  obtain ⟨z, e, p3⟩ := p3.of
  have rx := (e2.trans e3).rv r1
  unfold slcD at e
  split at e
  · cases e
    cases rx with
    | py q =>
      cases q with
      | tup hs ht =>
        refine .inl ⟨_, _, rfl, SqT.of (FZ.le _ _ hs), fun hw => ?_, fun _ p hp => pv_new g3 p3 hp (Dq.newT g3 hp (cutV_eq ht _ _))⟩
        rw [cut_whole (by rw [← ht.length]; exact hw)] at p3
        exact pv_py g3 p3 (.tup hs ht)
  · cases e
    cases rx with
    | py q =>
      cases q with
      | lst hs ht => exact .inr ⟨_, _, rfl, SqL.of (FZ.le _ _ hs), fun p hp => pv_new g3 p3 hp (Dq.new g3 hp (cutV_eq ht _ _))⟩
  · cases e
end
end Ev
set_option maxHeartbeats 1000000
namespace Ev
open PySem PySem.Spec PyProof.Rows L2
def Es.len : Es → Nat
  | .nil => 0
  | .cons _ r => r.len + 1
theorem evs_len {Δ : Dn} : ∀ (es : Es) {ρ : EnvD} {st st' : Store} {ds : List D}, evs Δ es ρ st = .ok ds st' → ds.length = es.len
  | .nil, _, _, _, _, h => by simp only [evs, Rs.ok.injEq] at h; rw [← h.1]; rfl
  | .cons e r, ρ, st, st', ds, h => by
    simp only [evs] at h
    cases h1 : ev Δ e ρ st with
    | ex e s => rw [h1] at h; cases h
    | bad => rw [h1] at h; cases h
    | ok d s =>
      rw [h1] at h
      simp only [Rs.bind_ok] at h
      cases h2 : evs Δ r ρ s with
      | ex e s => rw [h2] at h; cases h
      | bad => rw [h2] at h; cases h
      | ok ds' s' =>
        rw [h2] at h
        simp only [Rs.bind_ok, Rs.ok.injEq] at h
        rw [← h.1, List.length_cons, evs_len r h2]
        rfl
/-- a new list, kept aside -/
def PostL (K : PySem.W.Frag) (fa ca : Nat → Addr) (hid w : List Addr) (st : Store) (H : Hp) (E : XK) (r : Rs (List D)) (Q : VK) : Prop := match r with
  | .ok ds st' => ∀ p vs w' H', p ∉ hid → Good K fa ca (p :: hid) w' st' H' → H' p = some (.lst vs) → RVs K fa w' (FZ (p :: hid) w' st' H') vs ds → w <+: w' → Le (FZ hid w st H) (FZ (p :: hid) w' st' H') → (∀ a ∈ hid, H' a = H a) → Q (.ref p) H'
  | .ex e st' => ∀ cls dd w' H', Ext hid w st H w' st' H' → Good K fa ca hid w' st' H' → RX ca cls dd H' e → E cls dd H'
  | .bad => False
def tL (K : PySem.W.Frag) (fa ca : Nat → Addr) (W : WX) (f : EnvD → Store → Rs (List D)) : TE := fun σ H Q =>
  ∃ (hid w : List Addr) (st : Store) (ρ : EnvD), Good K fa ca hid w st H ∧ Slots K fa w (FZ hid w st H) ρ σ ∧ PostL K fa ca hid w st H (fun c d H' => W c d σ H') (f ρ st) Q
section
variable {K : PySem.W.Frag} {fa ca : Nat → Addr} {hid w w' : List Addr} {st st' : Store} {H H' : Hp} {E : XK}
theorem PostL.base {r : Rs (List D)} {Q : VK} (x : Ext hid w st H w' st' H') (h : PostL K fa ca hid w st H E r Q) : PostL K fa ca hid w' st' H' E r Q := by
  cases r with
  | ok d s => exact fun p vs w2 H2 np g h1 h2 h3 h4 h5 => h p vs w2 H2 np g h1 h2 (x.pre.trans h3) (x.le.trans h4) fun a ha => (h5 a ha).trans (x.asd a ha)
  | ex e s => exact fun c d w2 H2 y g r => h c d w2 H2 (x.trans y) g r
  | bad => exact h
theorem PostL.bind {α β : Type} {rel : List Addr → Hp → β → α → Prop} {r : Rs α} {k : α → Store → Rs (List D)} {Q : VK} (h : PostL K fa ca hid w st H E (r.bind k) Q) :
    PostG K fa ca rel hid w st H E r fun x H1 => ∃ a w1 st1, Ext hid w st H w1 st1 H1 ∧ Good K fa ca hid w1 st1 H1 ∧ rel w1 (FZ hid w1 st1 H1) x a ∧ r = .ok a st1 ∧ PostL K fa ca hid w1 st1 H1 E (k a st1) Q := by
  cases r with
  | ok d s => exact fun v w2 H2 y g r => ⟨d, w2, s, y, g, r, rfl, PostL.base y h⟩
  | ex e s => exact h
  | bad => exact h
theorem PostL.new {ds : List D} {Q : VK} (h : PostL K fa ca hid w st H E (.ok ds st) Q) (g : Good K fa ca hid w st H) {p : Addr} {vs : List V} (hp : H p = none) (r : RVs K fa w (FZ hid w st H) vs ds) : Q (.ref p) (upd H p (.lst vs)) :=
  h p vs w _ (g.noth hp) (g.aside hp) upd_same (r.mono (fun _ _ z => z) (FZ.aside g hp)) (List.prefix_refl _) (FZ.aside g hp) fun a ha => upd_ne fun z => g.noth hp (z ▸ ha)
end
section
variable {X : Cx} {fa ca : Nat → Addr} {W : WX} {Δ : Dn} {a b c : Expr} {es : List Expr} {ea eb ec : E} {pos : Pos}
abbrev DL (X : Cx) (fa ca : Nat → Addr) (W : WX) (Δ : Dn) (e : Expr) (l : L) : Prop := PE X e (tL X.K fa ca W (evL Δ l))
theorem mkTup_ok {K : PySem.W.Frag} {w : List Addr} {F : Hp} {p : Addr} {vs : List V} {ds : List D} (hp : F p = some (.tup vs)) (r : RVs K fa w F vs ds) : RV K fa w F (.ref p) (mkTup ds) := by
  unfold mkTup
  cases e : Ev.pys ds with
  | some ps => exact .py (.tup hp (r.pys e))
  | none => exact .tp hp r
theorem de_tup {x1 : Nat} {ee : Es} (hl : ee.len ≤ 1000) (h : DA X fa ca W Δ es ee) : DE X fa ca W Δ (.Tuple es x1 pos) (.tup ee) := by
  refine PE.imp (pe_tup h) fun σ H Q ⟨hid, w, st, ρ, g0, s0, p⟩ => ?_
  simp only [ev] at p
  refine ⟨hid, w, st, ρ, g0, s0, (PostG.bind (rel := relA X.K fa) p).mono fun xs H1 ⟨ds, w1, st1, e1, g1, r1, e2, p1⟩ => ⟨?_, fun p hp => ?_⟩⟩
  · rw [r1.length, evs_len ee e2, sizeLine_eq]; omega
  · exact p1.new g1 hp (mkTup_ok (FZ.new g1 hp) (r1.mono (fun _ _ z => z) (Ext.new g1 hp).le))
theorem dl_lst {ee : Es} (h : DA X fa ca W Δ es ee) : DL X fa ca W Δ (.List es pos) (.lst ee) := by
  refine PE.imp (pe_lst h) fun σ H Q ⟨hid, w, st, ρ, g0, s0, p⟩ => ?_
  simp only [evL] at p
  refine ⟨hid, w, st, ρ, g0, s0, (PostL.bind (rel := relA X.K fa) p).mono fun xs H1 ⟨ds, w1, st1, e1, g1, r1, e2, p1⟩ => ?_⟩
  split at p1
  · rename_i hl
    exact ⟨by rw [r1.length, sizeLine_eq]; exact hl, fun p hp => p1.new g1 hp r1⟩
  · exact p1.elim
theorem rd_li {l : L} {σ : L2.St} {H : Hp} {Q : VK} (h : tG X.K fa ca W (relV X.K fa) (ev Δ (.li l)) σ H Q) : tL X.K fa ca W (evL Δ l) σ H Q := by
  obtain ⟨hid, w, st, ρ, g0, s0, p⟩ := h
  refine ⟨hid, w, st, ρ, g0, s0, ?_⟩
  simp only [ev] at p
  cases e : evL Δ l ρ st with
  | ex _ _ => rw [e] at p; exact p
  | bad => rw [e] at p; exact p
  | ok ds s =>
    rw [e] at p
    simp only [Rs.bind_ok] at p
    intro q vs w' H' np g h1 h2 h3 h4 h5
    split at p
    · rename_i ps e2
      have fz : FZ hid w' s H' q = some (.lst vs) := FZ.at.mpr ⟨not_live (g.asd q List.mem_cons_self).1, np, h1⟩
      exact p _ w' H' ⟨h3, h4.trans FZ.show, h5⟩ g.show (.py (.lst fz (DqAll.mono FZ.show (h2.pys e2))))
    · exact p.elim
theorem rd_cell {l : L} {σ : L2.St} {H : Hp} {Q : VK} (h : tG X.K fa ca W (relV X.K fa) (ev Δ (.cell l)) σ H Q) : tL X.K fa ca W (evL Δ l) σ H Q := by
  obtain ⟨hid, w, st, ρ, g0, s0, p⟩ := h
  refine ⟨hid, w, st, ρ, g0, s0, ?_⟩
  simp only [ev] at p
  cases e : evL Δ l ρ st with
  | ex _ _ => rw [e] at p; exact p
  | bad => rw [e] at p; exact p
  | ok ds s =>
    rw [e] at p
    simp only [Rs.bind_ok] at p
    intro q vs w' H' np g h1 h2 h3 h4 h5
    have ok : CellOk X.K fa ca (w' ++ [q]) (FZ (q :: hid) w' s H') H' q (.lst ds) := ⟨vs, h1, h2.mono (fun _ _ z => pre_get (List.prefix_append _ _) z) Le.refl⟩
    refine p _ (w' ++ [q]) H' ⟨h3.trans (List.prefix_append _ _), h4.trans (Ext.toCell g.len trivial), h5⟩ (g.toCell trivial np ok) (.ref ?_)
    rw [← g.len]
    simp
theorem de_li {l : L} (h : DL X fa ca W Δ a l) : DE X fa ca W Δ a (.li l) := PE.imp h fun _ _ _ => rd_li
theorem de_cell {l : L} (h : DL X fa ca W Δ a l) : DE X fa ca W Δ a (.cell l) := PE.imp h fun _ _ _ => rd_cell
theorem de_dnew : DE X fa ca W Δ (.Dict [] [] pos) .dnew := by
  refine PE.imp pe_dnewT fun σ H Q ⟨hid, w, st, ρ, g0, s0, p⟩ q hq => ?_
  simp only [ev] at p
  have g := g0.aside (o := .dT []) hq
  refine p _ (w ++ [q]) _ ⟨List.prefix_append _ _, (FZ.aside g0 hq).trans (Ext.toCell g.len trivial), fun a ha => upd_ne fun z => g0.noth hq (z ▸ ha)⟩ (g.toCell trivial (g0.noth hq) ⟨[], upd_same, .nil⟩) (.ref ?_)
  rw [← g0.len]
  simp
theorem dl_seq {p : Pos} (hg : Gl X "list") (hm : X.mg "list" = none) (ha : DE X fa ca W Δ a ea) (hs : starEach [a] X.env = (false, eval a X.env) :: starEach [] X.env) : DL X fa ca W Δ (.Call (.Name "list" p) [a] [] pos) (.seq ea) := by
  refine PE.imp (pe_callTy call_list_of hg hm boot_list (pa_cons ha pa_nil hs) (by decide) (by decide) hs (by rfl)) fun σ H Q ⟨hid, w, st, ρ, g0, s0, p⟩ => ?_
  simp only [evL] at p
  refine ⟨hid, w, st, ρ, g0, s0, (PostL.bind (rel := relV X.K fa) p).mono fun x H1 ⟨d1, w1, st1, e1, g1, r1, e2, p1⟩ => ?_⟩
  cases q : seqOf st1 d1 with
  | none => rw [q] at p1; exact p1.elim
  | some l =>
    rw [q] at p1
    obtain ⟨b, vs, rfl, h1, h2⟩ := seqOf_ok g1 r1 q
    exact ⟨b, vs, rfl, h1.imp SqL.of SqT.of, fun l hl => p1.new g1 hl h2⟩
theorem dq_app {F : Hp} {vs : List V} {ps : List PD} {v : V} {p : PD} (h : DqAll F vs ps) (h' : Dq F v p) : DqAll F (vs ++ [v]) (ps ++ [p]) := h.append (.cons h' .nil)
theorem frzD_ok {K : PySem.W.Frag} {fa ca : Nat → Addr} {hid w : List Addr} {H : Hp} : ∀ (k : Nat) {st st' : Store} {v : V} {d : D} {p : PD}, Good K fa ca hid w st H → RV K fa w (FZ hid w st H) v d → frzD k st d = some (p, st') →
    Good K fa ca hid w st' H ∧ Le (FZ hid w st H) (FZ hid w st' H) ∧ Dq (FZ hid w st' H) v p ∧ (∀ (n : Nat) (c : Cell), st[n]? = some c → ¬ c.live → st'[n]? = some c) := by
  intro k
  induction k with
  | zero =>
    intro st st' v d p g r h
    cases r with
    | py q => simp only [frzD, Option.some.injEq, Prod.mk.injEq] at h; obtain ⟨rfl, rfl⟩ := h; exact ⟨g, Le.refl, q, fun _ _ e _ => e⟩
    | ref _ => simp [frzD] at h
    | fn => simp [frzD] at h
    | tp _ _ => simp [frzD] at h
    | scr _ => simp [frzD] at h
  | succ k ih =>
    have all : ∀ {ds : List D} {vs : List V} {st st' : Store} {us : List V} {ps qs : List PD}, Good K fa ca hid w st H → RVs K fa w (FZ hid w st H) vs ds → DqAll (FZ hid w st H) us ps →
        ds.foldlM (fun (p : List PD × Store) d => (frzD k p.2 d).map fun q => (p.1 ++ [q.1], q.2)) ((ps, st) : List PD × Store) = some (qs, st') →
        Good K fa ca hid w st' H ∧ Le (FZ hid w st H) (FZ hid w st' H) ∧ DqAll (FZ hid w st' H) (us ++ vs) qs ∧ (∀ (n : Nat) (c : Cell), st[n]? = some c → ¬ c.live → st'[n]? = some c) := by
      intro ds
      induction ds with
      | nil =>
        intro vs st st' us ps qs g r hu h
        cases r
        simp only [List.foldlM_nil, pure, Option.some.injEq, Prod.mk.injEq] at h
        obtain ⟨rfl, rfl⟩ := h
        rw [List.append_nil]
        exact ⟨g, Le.refl, hu, fun _ _ e _ => e⟩
      | cons d ds ihd =>
        intro vs st st' us ps qs g r hu h
        cases r with
        | @cons v1 vs1 _ _ r1 r2 =>
          rw [List.foldlM_cons] at h
          simp only [bind, Option.bind_eq_some_iff, Option.map_eq_some_iff] at h
          obtain ⟨⟨ps2, st2⟩, ⟨⟨p1, st1⟩, h1, h2⟩, h3⟩ := h
          simp only [Prod.mk.injEq] at h2
          obtain ⟨rfl, rfl⟩ := h2
          obtain ⟨g1, l1, q1, k1⟩ := ih g r1 h1
          obtain ⟨g2, l2, q2, k2⟩ := ihd g1 (r2.mono (fun _ _ z => z) l1) (dq_app (DqAll.mono l1 hu) q1) h3
          rw [List.append_assoc] at q2
          exact ⟨g2, l1.trans l2, q2, fun n c e hc => k2 n c (k1 n c e hc) hc⟩
    intro st st' v d p g r h
    cases r with
    | py q => simp only [frzD, Option.some.injEq, Prod.mk.injEq] at h; obtain ⟨rfl, rfl⟩ := h; exact ⟨g, Le.refl, q, fun _ _ e _ => e⟩
    | @ref n a hw =>
      simp only [frzD] at h
      split at h
      · rename_i d e
        cases h
        obtain ⟨a', ea, ok⟩ := g.cell e
        rw [ea] at hw; cases hw
        exact ⟨g, Le.refl, ok, fun _ _ e _ => e⟩
      · rename_i ds e
        obtain ⟨⟨qs, s2⟩, h1, h2⟩ := Option.map_eq_some_iff.mp h
        simp only [Prod.mk.injEq] at h2
        obtain ⟨rfl, rfl⟩ := h2
        obtain ⟨a', ea, vs, hv, rv⟩ := g.cell e
        rw [ea] at hw; cases hw
        obtain ⟨g1, l1, q1, k1⟩ := all g rv .nil h1
        rw [List.nil_append] at q1
        have fz : FZ hid w (s2.set n (.frz (.list qs))) H a = some (.lst vs) := by
          refine FZ.at.mpr ⟨?_, ?_, hv⟩
          · rintro ⟨m, c, e1, e2, e3⟩
            have : n = m := w_inj g.nd ea e1
            subst this
            have hn : n < s2.length := by rw [← g1.len]; exact (List.getElem?_eq_some_iff.mp ea).1
            rw [List.getElem?_set_self hn] at e2
            cases e2
            exact e3
          · exact fun z => (g.asd a z).1 (List.mem_of_getElem? ea)
        have dq : Dq (FZ hid w (s2.set n (.frz (.list qs))) H) (.ref a) (.list qs) := .lst fz (DqAll.mono Le.freeze q1)
        refine ⟨g1.freeze ea dq, l1.trans Le.freeze, dq, fun m c e1 e2 => ?_⟩
        have nm : n ≠ m := fun z => by
          subst z
          rw [e] at e1; cases e1
          exact e2 trivial
        rw [List.getElem?_set_ne nm]
        exact k1 m c e1 e2
      · cases h
    | fn => simp [frzD] at h
    | tp h1 h2 =>
      simp only [frzD] at h
      obtain ⟨⟨qs, s2⟩, h3, h4⟩ := Option.map_eq_some_iff.mp h
      simp only [Prod.mk.injEq] at h4
      obtain ⟨rfl, rfl⟩ := h4
      obtain ⟨g1, l1, q1, k1⟩ := all g h2 .nil h3
      rw [List.nil_append] at q1
      exact ⟨g1, l1, .tup (l1 _ _ h1) q1, k1⟩
    | scr _ => simp [frzD] at h
theorem de_frz (h : DE X fa ca W Δ a ea) : DE X fa ca W Δ a (.frz ea) := by
  refine PE.imp h fun σ H Q ⟨hid, w, st, ρ, g0, s0, p⟩ => ?_
  simp only [ev] at p
  refine ⟨hid, w, st, ρ, g0, s0, (PostG.bind (rel := relV X.K fa) p).mono fun x H1 ⟨d1, w1, st1, e1, g1, r1, e2, p1⟩ => ?_⟩
  split at p1
  · rename_i q s2 e
    obtain ⟨g2, l2, dq, _⟩ := frzD_ok 6 g1 r1 e
    exact p1 x w1 H1 ⟨List.prefix_refl _, l2, fun _ _ => rfl⟩ g2 (.py dq)
  · exact p1.elim
end
end Ev
set_option maxHeartbeats 1000000
namespace Ev
open PySem PySem.Spec PyProof.Rows L2
/-- an iterator yields these, wherever the heap has grown -/
def IterOk (K : PySem.W.Frag) (fa ca : Nat → Addr) (w0 : List Addr) (F : Hp) (J : L2.It) (ds : List D) : Prop :=
  ∀ (i : Nat) (hid w : List Addr) (st : Store) (H : Hp), Good K fa ca hid w st H → (∀ (n : Nat) (a : Addr), w0[n]? = some a → w[n]? = some a) → Le F (FZ hid w st H) →
    (∀ d, ds[i]? = some d → J.go i H ∧ ∀ x H', J.yld i H x H' → Good K fa ca hid w st H' ∧ Ext hid w st H w st H' ∧ RV K fa w (FZ hid w st H') x d) ∧ (ds.length ≤ i → J.stop i H)
abbrev relI (K : PySem.W.Frag) (fa ca : Nat → Addr) : List Addr → Hp → L2.It → List D → Prop := IterOk K fa ca
section
variable {X : Cx} {fa ca : Nat → Addr} {W : WX} {Δ : Dn} {a b c tg : Expr} {ea eb ec : E} {pos : Pos}
abbrev DI (X : Cx) (fa ca : Nat → Addr) (W : WX) (Δ : Dn) (tg e : Expr) (it : It) : Prop := PI X tg e (tG X.K fa ca W (relI X.K fa ca) (evI Δ it))
theorem iter_list {K : PySem.W.Frag} {w0 : List Addr} {F : Hp} {p : Addr} {vs : List V} {l : List D} (h1 : F p = some (.lst vs)) (h2 : RVs K fa w0 F vs l) : IterOk K fa ca w0 F (Itl K p) l := by
  intro i hid w st H g hw le
  have hp : H p = some (.lst vs) := FZ.le _ _ (le _ _ h1)
  refine ⟨fun d e => ?_, fun hl => ⟨vs, SqL.of hp, by rw [h2.length]; exact hl⟩⟩
  obtain ⟨v, e1, r⟩ := h2.get e
  refine ⟨⟨vs, v, SqL.of hp, e1⟩, fun x H' y => ?_⟩
  obtain ⟨rfl, y⟩ := y
  have := y vs (SqL.of hp)
  rw [e1] at this; cases this
  exact ⟨g, Ext.refl, r.mono hw le⟩
theorem iter_tup {K : PySem.W.Frag} {w0 : List Addr} {F : Hp} {p : Addr} {vs : List V} {l : List D} (h1 : F p = some (.tup vs)) (h2 : RVs K fa w0 F vs l) : IterOk K fa ca w0 F (Itt K p) l := by
  intro i hid w st H g hw le
  have hp : H p = some (.tup vs) := FZ.le _ _ (le _ _ h1)
  refine ⟨fun d e => ?_, fun hl => ⟨vs, SqT.of hp, by rw [h2.length]; exact hl⟩⟩
  obtain ⟨v, e1, r⟩ := h2.get e
  refine ⟨⟨vs, v, SqT.of hp, e1⟩, fun x H' y => ?_⟩
  obtain ⟨rfl, y⟩ := y
  have := y vs (SqT.of hp)
  rw [e1] at this; cases this
  exact ⟨g, Ext.refl, r.mono hw le⟩
/-- a list or a tuple that does not change, with its items -/
theorem froz_of {K : PySem.W.Frag} {w : List Addr} {st : Store} {F : Hp} {x : V} {d : D} {l : List D} (nr : ∀ n, d ≠ .ref n) (r : RV K fa w F x d) (h : seqOf st d = some l) :
    ∃ p vs, x = .ref p ∧ RVs K fa w F vs l ∧ (F p = some (.lst vs) ∨ F p = some (.tup vs)) := by
  unfold seqOf at h
  cases r with
  | py q =>
    cases q with
    | lst h1 h2 =>
      simp only [listOf] at h
      cases h
      exact ⟨_, _, rfl, RVs.of_dq h2, .inl h1⟩
    | tup h1 h2 =>
      simp only [listOf, tupOf] at h
      cases h
      exact ⟨_, _, rfl, RVs.of_dq h2, .inr h1⟩
    | _ => simp [listOf, tupOf] at h
  | ref _ => exact absurd rfl (nr _)
  | fn => simp [listOf, tupOf] at h
  | tp h1 h2 =>
    simp only [listOf, tupOf] at h
    cases h
    exact ⟨_, _, rfl, h2, .inr h1⟩
  | scr _ => simp [listOf, tupOf] at h
/-- a list or a tuple is walked -/
def iSeq (K : PySem.W.Frag) (tl : TE) : TI := fun σ H R => tl σ H fun x H1 => ∃ a, x = .ref a ∧ ((∃ xs, SqL K H1 a xs ∧ R (Itl K a) H1) ∨ ∃ xs, SqT K H1 a xs ∧ R (Itt K a) H1)
theorem pi_seq {l : Expr} {tl : TE} (hl : PE X l tl) : PI X tg l (iSeq X.K tl) := by
  refine ⟨fun pins s σ H R I h => ?_⟩
  refine thn (hl.run pins s σ H _ I h) fun v s1 ⟨x, H1, I1, r1, q1⟩ => ?_
  obtain ⟨a, e, q⟩ := q1
  subst e
  cases r1
  rcases q with ⟨xs, hq, q⟩ | ⟨xs, hq, q⟩
  · obtain ⟨its, rv, p, hz⟩ := I1.list hq
    refine wpAny_pyIter_list p.isList ?_
    refine ⟨s1.heap.objs.size, [s1.heap.objs.size], _, _, H1, rfl, I1.kept (t' := s1.toks) fun b o e => Heap.get?_push_of_some _ e, turn_list a _, ⟨_, Heap.get?_push_size _ rfl, rfl, rfl⟩, fun b hb => ?_, q⟩
    have e : b = s1.heap.objs.size := by simpa using hb
    subst e
    exact I1.fpOk (Nat.le_refl _) (I1.hok.fresh (Nat.le_refl _))
  · obtain ⟨its, rv, p, hz⟩ := I1.tuple hq
    refine wpAny_pyIter_tuple (show s1.heap.IsTuple a its.toArray from p) ?_
    refine ⟨s1.heap.objs.size, [s1.heap.objs.size], _, _, H1, rfl, I1.kept (t' := s1.toks) fun b o e => Heap.get?_push_of_some _ e, turn_tuple a _, ⟨_, Heap.get?_push_size _ rfl, rfl, rfl⟩, fun b hb => ?_, q⟩
    have e : b = s1.heap.objs.size := by simpa using hb
    subst e
    exact I1.fpOk (Nat.le_refl _) (I1.hok.fresh (Nat.le_refl _))
theorem di_e (h : DE X fa ca W Δ a ea) : DI X fa ca W Δ tg a (.e ea) := by
  refine PI.imp (pi_seq h) fun σ H R ⟨hid, w, st, ρ, g0, s0, p⟩ => ?_
  simp only [evI] at p
  refine ⟨hid, w, st, ρ, g0, s0, (PostG.bind (rel := relV X.K fa) p).mono fun x H1 ⟨d1, w1, st1, e1, g1, r1, _, p1⟩ => ?_⟩
  have go : (∀ n, d1 ≠ .ref n) → PostG X.K fa ca (relI X.K fa ca) hid w1 st1 H1 (fun c d H' => W c d σ H') (.of (seqOf st1 d1) st1) R → ∃ a, x = .ref a ∧ ((∃ xs, SqL X.K H1 a xs ∧ R (Itl X.K a) H1) ∨ ∃ xs, SqT X.K H1 a xs ∧ R (Itt X.K a) H1) := fun nr p1 => by
    obtain ⟨l, e, p1⟩ := p1.of
    obtain ⟨q, vs, rfl, rv, hq⟩ := froz_of nr r1 e
    refine ⟨q, rfl, ?_⟩
    rcases hq with hq | hq
    · exact .inl ⟨vs, SqL.of (FZ.le _ _ hq), p1.here g1 (iter_list hq rv)⟩
    · exact .inr ⟨vs, SqT.of (FZ.le _ _ hq), p1.here g1 (iter_tup hq rv)⟩
  cases d1 with
  | ref n => exact p1.elim
  | py d => exact go (fun n z => by cases z) p1
  | fn f => exact go (fun n z => by cases z) p1
  | tp l => exact go (fun n z => by cases z) p1
  | scr l => exact go (fun n z => by cases z) p1
theorem rangeD_get (lo hi : Int) (i : Nat) (d : D) (h : (rangeD lo hi)[i]? = some d) : i < (hi - lo).toNat ∧ d = .py (.int (lo + i)) := by
  unfold rangeD at h
  rw [List.getElem?_map] at h
  obtain ⟨j, h1, h2⟩ := Option.map_eq_some_iff.mp h
  obtain ⟨h3, h4⟩ := List.getElem?_eq_some_iff.mp h1
  rw [List.getElem_range] at h4
  subst h4
  rw [List.length_range] at h3
  exact ⟨h3, h2.symm⟩
theorem iter_range {K : PySem.W.Frag} {w0 : List Addr} {F : Hp} {lo hi : Int} {n : Nat} (hn : n = (hi - lo).toNat) : IterOk K fa ca w0 F (Itr lo n) (rangeD lo hi) := by
  subst hn
  intro i hid w st H g hw le
  refine ⟨fun d e => ?_, fun hl => ?_⟩
  · obtain ⟨h1, rfl⟩ := rangeD_get lo hi i d e
    refine ⟨h1, fun x H' y => ?_⟩
    obtain ⟨rfl, rfl⟩ := y
    exact ⟨g, Ext.refl, .py (.int _)⟩
  · unfold rangeD at hl
    rw [List.length_map, List.length_range] at hl
    exact hl
theorem fit_ok {i : Int} (h : fit i = true) : -(2 ^ 62) ≤ i ∧ i < 2 ^ 62 := by
  unfold fit at h
  rw [Bool.and_eq_true, decide_eq_true_eq, decide_eq_true_eq] at h
  exact h
theorem di_rng {p : Pos} (hg : Gl X "range") (hm : X.mg "range" = none) (ha : DE X fa ca W Δ a ea) (hs : starEach [a] X.env = [(false, eval a X.env)]) : DI X fa ca W Δ tg (.Call (.Name "range" p) [a] [] pos) (.rng ea) := by
  refine PI.imp (pi_range1 hg hm (pa_cons ha pa_nil hs) hs) fun σ H R ⟨hid, w, st, ρ, g0, s0, p⟩ => ?_
  simp only [evI] at p
  refine ⟨hid, w, st, ρ, g0, s0, (PostG.bind (rel := relV X.K fa) p).mono fun x H1 ⟨d1, w1, st1, e1, g1, r1, _, p1⟩ => ?_⟩
  split at p1
  · split at p1
    · rename_i hf
      cases r1 with
      | py q =>
        cases q
        exact ⟨_, rfl, (fit_ok hf).1, (fit_ok hf).2, p1.here g1 (iter_range (by rw [Int.sub_zero]))⟩
    · exact p1.elim
  · exact p1.elim
theorem di_rng2 {p : Pos} (hg : Gl X "range") (hm : X.mg "range" = none) (ha : DE X fa ca W Δ a ea) (hb : DE X fa ca W Δ b eb) (hs : starEach [a, b] X.env = [(false, eval a X.env), (false, eval b X.env)]) (hs2 : starEach [b] X.env = [(false, eval b X.env)]) :
    DI X fa ca W Δ tg (.Call (.Name "range" p) [a, b] [] pos) (.rng2 ea eb) := by
  refine PI.imp (pi_range2 hg hm (pa_cons ha (pa_cons hb pa_nil hs2) (by rw [hs, hs2])) hs hs2) fun σ H R ⟨hid, w, st, ρ, g0, s0, p⟩ => ?_
  simp only [evI] at p
  refine ⟨hid, w, st, ρ, g0, s0, (PostG.bind (rel := relV X.K fa) p).mono fun x H1 ⟨d1, w1, st1, e1, g1, r1, _, p1⟩ => ?_⟩
  refine ⟨hid, w1, st1, ρ, g1, e1.slots s0, (PostG.bind (rel := relV X.K fa) p1).mono fun y H2 ⟨d2, w2, st2, e2, g2, r2, _, p2⟩ => ?_⟩
  split at p2
  · split at p2
    · rename_i hf
      obtain ⟨f1, f2⟩ := Bool.and_eq_true_iff.mp hf
      cases r1 with
      | py q =>
        cases q
        cases r2 with
        | py q =>
          cases q
          exact ⟨_, _, rfl, ⟨(fit_ok f1).1, (fit_ok f1).2, (fit_ok f2).1, (fit_ok f2).2⟩, p2.here g2 (iter_range rfl)⟩
    · exact p2.elim
  · exact p2.elim
def Tg.slots : Tg → List Nat
  | .nm i => [i]
  | .two a b => a.slots ++ b.slots
  | .thr a b c => a.slots ++ (b.slots ++ c.slots)
def tTg (K : PySem.W.Frag) (fa ca : Nat → Addr) (tg : Tg) : TG := fun v σ H Q =>
  ∃ (hid w : List Addr) (st : Store) (ρ : EnvD) (d : D), Good K fa ca hid w st H ∧ Slots K fa w (FZ hid w st H) ρ σ ∧ RV K fa w (FZ hid w st H) v d ∧
    ∃ ρ', asg tg st d ρ = some ρ' ∧ ∀ σ', Slots K fa w (FZ hid w st H) ρ' σ' → σ'.length = σ.length → (∀ j, j ∉ tg.slots → σ'[j]? = σ[j]?) → Q σ' H
abbrev DG (X : Cx) (fa ca : Nat → Addr) (e : Expr) (tg : Tg) : Prop := PG X e (tTg X.K fa ca tg)
theorem Slots.set {K : PySem.W.Frag} {w : List Addr} {F : Hp} {ρ : EnvD} {σ : L2.St} (s : Slots K fa w F ρ σ) (i : Nat) {v : V} {d : D} (r : RV K fa w F v d) : Slots K fa w F (ρ.set i (some d)) (σ.set i (some v)) := by
  refine ⟨by rw [List.length_set, List.length_set]; exact s.1, fun j d' e => ?_⟩
  by_cases h : i = j
  · subst h
    have hi : i < ρ.length := by
      have := (List.getElem?_eq_some_iff.mp e).1
      rwa [List.length_set] at this
    rw [List.getElem?_set_self hi] at e
    cases e
    exact ⟨v, List.getElem?_set_self (by rw [← s.1]; exact hi), r⟩
  · rw [List.getElem?_set_ne h] at e
    obtain ⟨v', e', r'⟩ := s.2 j d' e
    exact ⟨v', by rw [List.getElem?_set_ne h]; exact e', r'⟩
theorem dg_nm {i : Nat} {x : Str} (hN : X.N.Nodup) (hi : X.N[i]? = some x) (hx : Loc X.env.scope x) (hf : X.fn x = true ∨ X.env.scope.names.lookup x = some .local) : DG X fa ca (.Name x pos) (.nm i) := by
  have h := pg_name (pos := pos) hN hi hx hf
  refine ⟨fun pins s σ H v u Q I r q => h.run pins s σ H v u Q I r ?_⟩
  obtain ⟨hid, w, st, ρ, d, g, s0, rv, ρ', e, q⟩ := q
  simp only [asg, Option.some.injEq] at e
  subst e
  exact q _ (s0.set i rv) (by rw [List.length_set]) fun j hj => List.getElem?_set_ne (fun z => hj (by rw [z]; exact List.mem_cons_self))
theorem PG.or {e : Expr} {t t' : TG} (h : PG X e t) (h' : PG X e t') : PG X e (fun v σ H Q => t v σ H Q ∨ t' v σ H Q) := ⟨fun pins s σ H v u Q I r q => q.elim (h.run pins s σ H v u Q I r) (h'.run pins s σ H v u Q I r)⟩
theorem PG.imp {e : Expr} {t t' : TG} (h : PG X e t) (i : ∀ v σ H Q, t' v σ H Q → t v σ H Q) : PG X e t' := ⟨fun pins s σ H v u Q I r q => h.run pins s σ H v u Q I r (i v σ H Q q)⟩
theorem dg_two {e1 e2 : Expr} {k : Nat} {t1 t2 : Tg} (hc : X.calm = true) (h1 : DG X fa ca e1 t1) (h2 : DG X fa ca e2 t2)
    (hs : (assignEach [e1, e2] X.env) = [(false, assign e1 X.env), (false, assign e2 X.env)]) (hs2 : (assignEach [e2] X.env) = [(false, assign e2 X.env)]) : DG X fa ca (.Tuple [e1, e2] k pos) (.two t1 t2) := by
  have hg := pgs_cons h1 (pgs_cons h2 (pgs_nil (X := X)) (by rw [hs2]; rfl)) (by rw [hs, hs2]; rfl)
  refine PG.imp (PG.or (pg_tup (n := 2) hc hg (by rw [hs]; rfl) (by rw [hs]; rfl)) (pg_lst (n := 2) hc hg (by rw [hs]; rfl) (by rw [hs]; rfl))) fun v σ H Q ⟨hid, w, st, ρ, d, g, s0, rv, ρ', e, q⟩ => ?_
  simp only [asg] at e
  split at e
  · rename_i x y ex
    obtain ⟨ρ1, e1', e2'⟩ := Option.bind_eq_some_iff.mp e
    obtain ⟨a, vs, rfl, hl, rvs⟩ := seqOf_ok g rv ex
    cases rvs with
    | @cons v1 vs1 _ _ r1 rr =>
      cases rr with
      | @cons v2 vs2 _ _ r2 rr =>
        cases rr
        have body : gCons (tTg X.K fa ca t1) (gCons (tTg X.K fa ca t2) gNil) [v1, v2] σ H Q := by
          refine ⟨v1, [v2], rfl, hid, w, st, ρ, x, g, s0, r1, ρ1, e1', fun σ1 s1 l1 k1 => ?_⟩
          refine ⟨v2, [], rfl, hid, w, st, ρ1, y, g, s1, r2, ρ', e2', fun σ2 s2 l2 k2 => ⟨rfl, ?_⟩⟩
          refine q σ2 s2 (l2.trans l1) fun j hj => ?_
          unfold Tg.slots at hj
          rw [List.mem_append] at hj
          rw [k2 j fun z => hj (.inr z), k1 j fun z => hj (.inl z)]
        rcases hl with hl | hl
        · exact .inr ⟨a, _, rfl, SqL.of hl, rfl, body⟩
        · exact .inl ⟨a, _, rfl, SqT.of hl, rfl, body⟩
  · cases e
theorem dg_thr {e1 e2 e3 : Expr} {k : Nat} {t1 t2 t3 : Tg} (hc : X.calm = true) (h1 : DG X fa ca e1 t1) (h2 : DG X fa ca e2 t2) (h3 : DG X fa ca e3 t3)
    (hs : (assignEach [e1, e2, e3] X.env) = [(false, assign e1 X.env), (false, assign e2 X.env), (false, assign e3 X.env)]) (hs2 : (assignEach [e2, e3] X.env) = [(false, assign e2 X.env), (false, assign e3 X.env)]) (hs3 : (assignEach [e3] X.env) = [(false, assign e3 X.env)]) :
    DG X fa ca (.Tuple [e1, e2, e3] k pos) (.thr t1 t2 t3) := by
  have hg := pgs_cons h1 (pgs_cons h2 (pgs_cons h3 (pgs_nil (X := X)) (by rw [hs3]; rfl)) (by rw [hs2, hs3]; rfl)) (by rw [hs, hs2]; rfl)
  refine PG.imp (PG.or (pg_tup (n := 3) hc hg (by rw [hs]; rfl) (by rw [hs]; rfl)) (pg_lst (n := 3) hc hg (by rw [hs]; rfl) (by rw [hs]; rfl))) fun v σ H Q ⟨hid, w, st, ρ, d, g, s0, rv, ρ', e, q⟩ => ?_
  simp only [asg] at e
  split at e
  · rename_i x y z ex
    obtain ⟨ρ1, e1', e'⟩ := Option.bind_eq_some_iff.mp e
    obtain ⟨ρ2, e2', e3'⟩ := Option.bind_eq_some_iff.mp e'
    obtain ⟨a, vs, rfl, hl, rvs⟩ := seqOf_ok g rv ex
    cases rvs with
    | @cons v1 vs1 _ _ r1 rr =>
      cases rr with
      | @cons v2 vs2 _ _ r2 rr =>
        cases rr with
        | @cons v3 vs3 _ _ r3 rr =>
          cases rr
          have body : gCons (tTg X.K fa ca t1) (gCons (tTg X.K fa ca t2) (gCons (tTg X.K fa ca t3) gNil)) [v1, v2, v3] σ H Q := by
            refine ⟨v1, [v2, v3], rfl, hid, w, st, ρ, x, g, s0, r1, ρ1, e1', fun σ1 s1 l1 k1 => ?_⟩
            refine ⟨v2, [v3], rfl, hid, w, st, ρ1, y, g, s1, r2, ρ2, e2', fun σ2 s2 l2 k2 => ?_⟩
            refine ⟨v3, [], rfl, hid, w, st, ρ2, z, g, s2, r3, ρ', e3', fun σ3 s3 l3 k3 => ⟨rfl, ?_⟩⟩
            refine q σ3 s3 ((l3.trans l2).trans l1) fun j hj => ?_
            unfold Tg.slots at hj
            rw [List.mem_append, List.mem_append] at hj
            rw [k3 j fun z => hj (.inr (.inr z)), k2 j fun z => hj (.inr (.inl z)), k1 j fun z => hj (.inl z)]
          rcases hl with hl | hl
          · exact .inr ⟨a, _, rfl, SqL.of hl, rfl, body⟩
          · exact .inl ⟨a, _, rfl, SqT.of hl, rfl, body⟩
  · cases e
end
end Ev
set_option maxHeartbeats 1000000
namespace Ev
open PySem PySem.Spec PyProof.Rows L2
theorem wipeV_get {σ : L2.St} : ∀ {vs : List Nat} {j : Nat}, (L2.wipe σ vs)[j]? = if j ∈ vs ∧ j < σ.length then some none else σ[j]?
  | [], j => by simp [L2.wipe]
  | v :: vs, j => by
    unfold L2.wipe
    rw [List.getElem?_set, L2.wipe_length, wipeV_get]
    by_cases e : v = j
    · subst e
      rw [if_pos rfl]
      by_cases h : v < σ.length
      · rw [if_pos h, if_pos ⟨List.mem_cons_self, h⟩]
      · rw [if_neg h, if_neg (fun z => h z.2)]
        exact (List.getElem?_eq_none (by omega)).symm
    · rw [if_neg e]
      have : (j ∈ v :: vs ∧ j < σ.length) ↔ (j ∈ vs ∧ j < σ.length) := by
        rw [List.mem_cons]
        constructor
        · rintro ⟨h | h, h2⟩
          · exact absurd h.symm e
          · exact ⟨h, h2⟩
        · rintro ⟨h, h2⟩; exact ⟨.inr h, h2⟩
      by_cases h : j ∈ vs ∧ j < σ.length
      · rw [if_pos h, if_pos (this.mpr h)]
      · rw [if_neg h, if_neg (fun z => h (this.mp z))]
theorem wipeD_get {ρ : EnvD} : ∀ {vs : List Nat} {j : Nat} {d : D}, (Ev.wipe ρ vs)[j]? = some (some d) → ρ[j]? = some (some d) ∧ j ∉ vs
  | [], j, d, h => ⟨h, by simp⟩
  | v :: vs, j, d, h => by
    unfold Ev.wipe at h
    by_cases e : v = j
    · subst e
      rw [List.getElem?_set] at h
      rw [if_pos rfl] at h
      split at h <;> cases h
    · rw [List.getElem?_set_ne e] at h
      obtain ⟨h1, h2⟩ := wipeD_get h
      exact ⟨h1, by rw [List.mem_cons]; rintro (z | z); exact e z.symm; exact h2 z⟩
theorem wipeD_len {ρ : EnvD} : ∀ vs : List Nat, (Ev.wipe ρ vs).length = ρ.length
  | [] => rfl
  | v :: vs => by unfold Ev.wipe; rw [List.length_set, wipeD_len vs]
theorem Slots.wipe {K : PySem.W.Frag} {fa : Nat → Addr} {w : List Addr} {F : Hp} {ρ : EnvD} {σ : L2.St} (s : Slots K fa w F ρ σ) (vs : List Nat) : Slots K fa w F (Ev.wipe ρ vs) (L2.wipe σ vs) := by
  refine ⟨by rw [wipeD_len, L2.wipe_length]; exact s.1, fun j d e => ?_⟩
  obtain ⟨e1, nj⟩ := wipeD_get e
  obtain ⟨v, e2, r⟩ := s.2 j d e1
  exact ⟨v, by rw [wipeV_get, if_neg fun z => nj z.1]; exact e2, r⟩
theorem wipe_back {σ σ2 : L2.St} {vs sl : List Nat} (hsl : ∀ j ∈ sl, j ∈ vs) (hl : σ2.length = (L2.wipe σ vs).length) (hk : ∀ j, j ∉ sl → σ2[j]? = (L2.wipe σ vs)[j]?) : L2.wipe σ2 vs = L2.wipe σ vs := by
  rw [L2.wipe_length] at hl
  apply List.ext_getElem?
  intro j
  rw [wipeV_get]
  by_cases h : j ∈ vs
  · rw [wipeV_get, hl]
    by_cases h2 : j < σ.length
    · rw [if_pos ⟨h, h2⟩, if_pos ⟨h, h2⟩]
    · rw [if_neg fun z => h2 z.2, if_neg fun z => h2 z.2]
      rw [List.getElem?_eq_none (by omega), List.getElem?_eq_none (by omega)]
  · rw [if_neg fun z => h z.1]
    exact hk j fun z => h (hsl j z)
abbrev noW : WX := fun _ _ _ _ => False
section
variable {X : Cx} {fa ca : Nat → Addr} {W : WX} {Δ : Dn}
/-- the reading of a comprehension -/
theorem tLc_of {J0 : It} {eltc : E} {tgc : Tg} {own : List Nat} {tc : T} (hown : ∀ j ∈ tgc.slots, j ∈ own) {σ : L2.St} {H : Hp} {Q : VK} (h : tL X.K fa ca W (evL Δ (.lc eltc tgc own J0 tc)) σ H Q) :
    tLc (tG X.K fa ca W (relI X.K fa ca) (evI Δ J0)) (tTg X.K fa ca tgc) (tG X.K fa ca noW relB (evT Δ tc)) (tG X.K fa ca noW (relV X.K fa) (ev Δ eltc)) own σ H Q := by
  obtain ⟨hid, w, st, ρ, g0, s0, p⟩ := h
  simp only [evL] at p
  refine ⟨hid, w, st, ρ, g0, s0, (PostL.bind (rel := relI X.K fa ca) p).mono fun J H1 ⟨ds, w1, st1, e1, g1, it, _, p1⟩ Dd hD => ?_⟩
  have nD := g1.noth hD
  generalize hf : lcTurn (ev Δ eltc) (evT Δ tc) tgc (Ev.wipe ρ own) = f at p1
  generalize hR : lcLoop f [] ds st1 = R at p1
  let Wf : Nat → Nat → Hp → Prop := fun i m H2 => m + i = ds.length ∧ ∃ w' st' acc vs, Good X.K fa ca (Dd :: hid) w' st' H2 ∧ w1 <+: w' ∧ Le (FZ hid w1 st1 H1) (FZ (Dd :: hid) w' st' H2) ∧ (∀ a ∈ hid, H2 a = H1 a) ∧
    H2 Dd = some (.lst vs) ∧ RVs X.K fa w' (FZ (Dd :: hid) w' st' H2) vs acc ∧ lcLoop f acc (ds.drop i) st' = R
  have sl : ∀ {w' st' H2}, w1 <+: w' → Le (FZ hid w1 st1 H1) (FZ (Dd :: hid) w' st' H2) → Slots X.K fa w' (FZ (Dd :: hid) w' st' H2) (Ev.wipe ρ own) (L2.wipe σ own) := fun {w' st' H2} pre le => by
    have s1 := (e1.slots s0).wipe own
    exact ⟨s1.1, fun i d e => let ⟨v, h1, h2⟩ := s1.2 i d e; ⟨v, h1, h2.mono (fun _ _ z => pre_get pre z) le⟩⟩
  refine ⟨Wf, ⟨ds.length, by simp, w1, st1, [], [], g1.aside hD, List.prefix_refl _, FZ.aside g1 hD, fun a ha => upd_ne fun z => nD (z ▸ ha), upd_same, .nil, by rw [List.drop_zero]; exact hR⟩, ?_⟩
  rintro i m H2 ⟨hm, w', st', acc, vs, g2, pre, le, hh, hvs, rvs, hrun⟩
  obtain ⟨itm, its⟩ := it i (Dd :: hid) w' st' H2 g2 (fun _ _ z => pre_get pre z) le
  by_cases hlt : i < ds.length
  · refine .inr ?_
    have hd : ds[i]? = some ds[i] := List.getElem?_eq_getElem hlt
    obtain ⟨hgo, hy⟩ := itm _ hd
    refine ⟨hgo, Wf (i + 1) (m - 1), fun H' z => ⟨m - 1, by omega, z⟩, fun x H3 y => ?_⟩
    obtain ⟨g3, e3, rx⟩ := hy x H3 y
    have le3 := le.trans e3.le
    rw [List.drop_eq_getElem_cons hlt] at hrun
    simp only [lcLoop] at hrun
    have nb : R ≠ .bad := fun z => by rw [z] at p1; exact p1
    rw [← hf] at hrun
    unfold lcTurn at hrun
    cases ha : asg tgc st' ds[i] (Ev.wipe ρ own) with
    | none => rw [ha] at hrun; exact absurd hrun.symm nb
    | some ρ' =>
      rw [ha] at hrun
      simp only at hrun
      refine ⟨Dd :: hid, w', st', Ev.wipe ρ own, ds[i], g3, sl pre le3, rx, ρ', ha, fun σ2 s2 l2 k2 => ⟨wipe_back hown l2 k2, ?_⟩⟩
      refine ⟨Dd :: hid, w', st', ρ', g3, s2, ?_⟩
      cases hT : evT Δ tc ρ' st' with
      | ex e s => rw [hT] at hrun; exact absurd hrun.symm nb
      | bad => rw [hT] at hrun; exact absurd hrun.symm nb
      | ok b st4 =>
        rw [hT] at hrun
        simp only [Rs.noex_ok, Rs.bind_ok] at hrun
        intro b' w4 H4 e4 g4 rb
        cases (show b' = b from rb)
        have le4 := le3.trans e4.le
        have pre4 := pre.trans e4.pre
        have hh4 : ∀ a ∈ hid, H4 a = H1 a := fun a ha => ((e4.asd a (List.mem_cons_of_mem _ ha)).trans (e3.asd a (List.mem_cons_of_mem _ ha))).trans (hh a ha)
        have hv4 : H4 Dd = some (.lst vs) := ((e4.asd Dd List.mem_cons_self).trans (e3.asd Dd List.mem_cons_self)).trans hvs
        have rv4 := (e3.trans e4).rvs rvs
        cases b with
        | false =>
          rw [if_neg (by decide)] at hrun ⊢
          simp only [Rs.bind_ok] at hrun
          exact ⟨by omega, w4, st4, acc, vs, g4, pre4, le4, hh4, hv4, rv4, by rw [← hrun, ← hf]; rfl⟩
        | true =>
          rw [if_pos rfl] at hrun ⊢
          refine ⟨Dd :: hid, w4, st4, ρ', g4, e4.slots s2, ?_⟩
          cases hE : ev Δ eltc ρ' st4 with
          | ex e s => rw [hE] at hrun; exact absurd hrun.symm nb
          | bad => rw [hE] at hrun; exact absurd hrun.symm nb
          | ok d5 st5 =>
            rw [hE] at hrun
            simp only [Rs.noex_ok, Rs.bind_ok] at hrun
            intro yv w5 H5 e5 g5 ry
            have hv5 : H5 Dd = some (.lst vs) := (e5.asd Dd List.mem_cons_self).trans hv4
            split at hrun
            · rename_i hlen
              have rv5 := e5.rvs rv4
              refine ⟨vs, hv5, by rw [rv5.length, sizeLine_eq]; exact hlen, by omega, w5, st5, acc ++ [d5], vs ++ [yv], g5.turn List.mem_cons_self, pre4.trans e5.pre, ?_, ?_, upd_same, ?_, by rw [← hrun, ← hf]; rfl⟩
              · rw [FZ.turn List.mem_cons_self]; exact le4.trans e5.le
              · intro a ha
                have ne : a ≠ Dd := fun z => nD (z ▸ ha)
                rw [upd_ne ne]
                exact (e5.asd a (List.mem_cons_of_mem _ ha)).trans (hh4 a ha)
              · rw [FZ.turn List.mem_cons_self]
                exact rv5.append (.cons ry .nil)
            · exact absurd hrun.symm nb
  · refine .inl ⟨its (by omega), ?_⟩
    rw [List.drop_eq_nil_of_le (by omega)] at hrun
    simp only [lcLoop] at hrun
    rw [← hrun] at p1
    exact p1 Dd vs w' H2 nD g2 hvs rvs pre le hh
theorem dl_lc {elt tg iter : Expr} {ifs : List Expr} {scope : Scope} {own : List (Str × Nat)} {pos : Pos} {J0 : It} {eltc : E} {tgc : Tg} {tc : T} (hown : ∀ j ∈ tgc.slots, j ∈ own.map (·.2)) (hc : X.calm = true) (hN : X.N.Nodup) (hi : DI X fa ca W Δ tg iter J0) (ok : BlkOk X.N X.env.scope scope own)
    (hg : ∀ (s : Shared) (H : Hp) (C : Addr) (cl : List (Str × Addr)) (fp : List Addr), DG (X.blk s H scope (compEnvC scope cl C X.env) fp) fa ca tg tgc)
    (ht : ∀ (s : Shared) (H : Hp) (C : Addr) (cl : List (Str × Addr)) (fp : List Addr), DTs (X.blk s H scope (compEnvC scope cl C X.env) fp) fa ca noW Δ ifs tc)
    (he : ∀ (s : Shared) (H : Hp) (C : Addr) (cl : List (Str × Addr)) (fp : List Addr), DE (X.blk s H scope (compEnvC scope cl C X.env) fp) fa ca noW Δ elt eltc) (hs : ∀ x, foldedSetIterable iter X.env x = pure x) :
    DL X fa ca W Δ (.ListComp elt [⟨tg, iter, ifs, 0⟩] scope pos) (.lc eltc tgc (own.map (·.2)) J0 tc) :=
  PE.imp (pe_lc hc hN hi ok hg ht he hs) fun σ H Q h => tLc_of (X := X) hown h
/-- name = [..], stored within -/
theorem dl_setLc {i : Nat} {y : Str} {py spos : Pos} {elt tg iter : Expr} {ifs : List Expr} {scope : Scope} {own : List (Str × Nat)} {pos : Pos} {J0 : It} {eltc : E} {tgc : Tg} {tc : T} (hy : X.N[i]? = some y) (hyl : X.env.scope.names.lookup y = some .local)
    (hsw : swapsWith (.ListComp elt [⟨tg, iter, ifs, 0⟩] scope pos) (some (.Name y py)) spos.line X.env = pure true) (hown : ∀ j ∈ tgc.slots, j ∈ own.map (·.2)) (hc : X.calm = true) (hN : X.N.Nodup) (hi : DI X fa ca W Δ tg iter J0) (ok : BlkOk X.N X.env.scope scope own)
    (hg : ∀ (s : Shared) (H : Hp) (C : Addr) (cl : List (Str × Addr)) (fp : List Addr), DG (X.blk s H scope (compEnvC scope cl C X.env) fp) fa ca tg tgc)
    (ht : ∀ (s : Shared) (H : Hp) (C : Addr) (cl : List (Str × Addr)) (fp : List Addr), DTs (X.blk s H scope (compEnvC scope cl C X.env) fp) fa ca noW Δ ifs tc)
    (he : ∀ (s : Shared) (H : Hp) (C : Addr) (cl : List (Str × Addr)) (fp : List Addr), DE (X.blk s H scope (compEnvC scope cl C X.env) fp) fa ca noW Δ elt eltc) (hs : ∀ x, foldedSetIterable iter X.env x = pure x) :
    PS X (.Assign [.Name y py] (.ListComp elt [⟨tg, iter, ifs, 0⟩] scope pos) spos) (tAsg (tL X.K fa ca W (evL Δ (.lc eltc tgc (own.map (·.2)) J0 tc))) (gName i)) :=
  PS.imp (ps_setLc hc hN hy hyl hsw hi ok hg ht he hs) fun D σ H h => tLc_of (X := X) hown h
end
end Ev
set_option maxHeartbeats 1000000
namespace Ev
open PySem PySem.Spec PyProof.Rows L2
theorem readsAll_ints {h : Heap} : ∀ {us : List Value} {ns : List Int}, IntsAre us ns → PySem.ReadsAll h us (ns.map .int) []
  | _, [], e => by cases e; exact .nil
  | us, n :: ns, e => by
    cases e with
    | cons _ _ e1 => exact .cons (bs := []) (as := []) (.int _ _) (readsAll_ints e1)
section
variable {X : Cx} {fa ca : Nat → Addr} {W : WX} {Δ : Dn}
/-- sums of tuples -/
theorem cr_sumT (hc : X.calm = true) : CallR X (.builtin "sum") (fun vs H Q => ∃ (a : Addr) (ns : List Int), vs = [V.ref a] ∧ SqT X.K H a (ns.map V.int) ∧ Q (.int ns.sum) H) := by
  intro pins s σ H vs us Q I r h
  obtain ⟨a, ns, rfl, hs, q⟩ := h
  obtain ⟨its, rv, hl, _⟩ := I.tuple hs
  rw [Vals.ref1 r]
  obtain ⟨xs, e⟩ := rv.ints.allInts.items
  have hn : numsOf (intItems xs).toList = ns := by rw [← e]; exact rv.ints.numsOf
  rw [nums_intItems] at hn
  have hl2 : s.heap.IsTuple a (intItems xs) := by
    obtain ⟨o, h1, h2, n, h3⟩ := hl
    exact ⟨o, h1, h2, n, by rw [← e]; exact h3⟩
  refine PySem.W.ktm_sumG (I.ok.hd hc) hl2 fun h' tk t' hk => ⟨.int _, H, I.kept hk, ⟨_, rfl⟩, ?_⟩
  rw [preSum_eq, List.take_of_length_le (by simp), hn]
  exact q
theorem max_of {ns : List Int} {n m : Int} (h1 : m ∈ n :: ns) (h2 : ∀ y ∈ n :: ns, y ≤ m) : ns.foldl max n = m := by
  have a : ∀ (ns : List Int) (n : Int), n ≤ ns.foldl max n ∧ (∀ y ∈ ns, y ≤ ns.foldl max n) ∧ ns.foldl max n ∈ n :: ns := by
    intro ns
    induction ns with
    | nil => intro n; simp
    | cons a r ih =>
      intro n
      obtain ⟨i1, i2, i3⟩ := ih (max n a)
      refine ⟨by simp only [List.foldl_cons]; omega, ?_, ?_⟩
      · intro y hy
        simp only [List.foldl_cons]
        rcases List.mem_cons.mp hy with rfl | hy
        · omega
        · exact i2 y hy
      · simp only [List.foldl_cons]
        rcases List.mem_cons.mp i3 with e | e
        · rw [e]
          by_cases q : n ≤ a
          · rw [Int.max_eq_right q]; simp
          · rw [Int.max_eq_left (by omega)]; simp
        · simp [e]
  obtain ⟨i1, i2, i3⟩ := a ns n
  have q1 := h2 _ i3
  have q2 : m ≤ ns.foldl max n := by
    rcases List.mem_cons.mp h1 with rfl | h
    · exact i1
    · exact i2 _ h
  omega
theorem min_of {ns : List Int} {n m : Int} (h1 : m ∈ n :: ns) (h2 : ∀ y ∈ n :: ns, m ≤ y) : ns.foldl min n = m := by
  have a : ∀ (ns : List Int) (n : Int), ns.foldl min n ≤ n ∧ (∀ y ∈ ns, ns.foldl min n ≤ y) ∧ ns.foldl min n ∈ n :: ns := by
    intro ns
    induction ns with
    | nil => intro n; simp
    | cons a r ih =>
      intro n
      obtain ⟨i1, i2, i3⟩ := ih (min n a)
      refine ⟨by simp only [List.foldl_cons]; omega, ?_, ?_⟩
      · intro y hy
        simp only [List.foldl_cons]
        rcases List.mem_cons.mp hy with rfl | hy
        · omega
        · exact i2 y hy
      · simp only [List.foldl_cons]
        rcases List.mem_cons.mp i3 with e | e
        · rw [e]
          by_cases q : n ≤ a
          · rw [Int.min_eq_left q]; simp
          · rw [Int.min_eq_right (by omega)]; simp
        · simp [e]
  obtain ⟨i1, i2, i3⟩ := a ns n
  have q1 := h2 _ i3
  have q2 : ns.foldl min n ≤ m := by
    rcases List.mem_cons.mp h1 with rfl | h
    · exact i1
    · exact i2 _ h
  omega
theorem reads_int {h : Heap} {v : Value} {i : Int} {bs : List Addr} (r : PySem.Reads h v (.int i) bs) : ∃ t, v = .int i t := by
  cases r; exact ⟨_, rfl⟩
theorem depth_ints : ∀ ns : List Int, PyData.depthAll (ns.map .int) = 0
  | [] => rfl
  | n :: ns => by
    rw [List.map_cons]
    show max 0 (PyData.depthAll (ns.map .int)) = 0
    rw [depth_ints ns]; rfl
theorem alike_ints (ns : List Int) : PySem.W.AlikeAll (ns.map .int) := by
  refine ⟨fun x hx y hy => ?_, fun x hx => ?_⟩
  · obtain ⟨i, _, rfl⟩ := List.mem_map.mp hx
    obtain ⟨j, _, rfl⟩ := List.mem_map.mp hy
    simp [PySem.W.alike]
  · obtain ⟨i, _, rfl⟩ := List.mem_map.mp hx
    exact fun z => by cases z
theorem cr_maxT (hc : X.calm = true) (hu : X.A.units + 64 < cLine) : CallR X (.builtin "max") (fun vs H Q => ∃ (a : Addr) (n : Int) (ns : List Int), vs = [V.ref a] ∧ SqT X.K H a ((n :: ns).map V.int) ∧ Q (.int (ns.foldl max n)) H) := by
  intro pins s σ H vs us Q I r h
  obtain ⟨a, n, ns, rfl, hs, q⟩ := h
  obtain ⟨its, rv, hl, _⟩ := I.tuple hs
  rw [Vals.ref1 r]
  have hl2 : s.heap.IsTuple a its.toArray := hl
  refine PySem.W.max_tuple_data (x := .int n) (xs := ns.map .int) (as := []) (I.ok.hd hc) hl2 (by have := readsAll_ints (h := s.heap) rv.ints; simpa using this) (by have := alike_ints (n :: ns); simpa using this) (by have := depth_ints (n :: ns); rw [List.map_cons] at this; rw [this]; omega) fun i v h' tk bs _ hr hk => ?_
  rw [PySem.W.maxD_ints] at hr
  obtain ⟨t, rfl⟩ := reads_int hr
  exact ⟨.int _, H, I.kept hk, ⟨_, rfl⟩, q⟩
theorem cr_minT (hc : X.calm = true) (hu : X.A.units + 64 < cLine) : CallR X (.builtin "min") (fun vs H Q => ∃ (a : Addr) (n : Int) (ns : List Int), vs = [V.ref a] ∧ SqT X.K H a ((n :: ns).map V.int) ∧ Q (.int (ns.foldl min n)) H) := by
  intro pins s σ H vs us Q I r h
  obtain ⟨a, n, ns, rfl, hs, q⟩ := h
  obtain ⟨its, rv, hl, _⟩ := I.tuple hs
  rw [Vals.ref1 r]
  have hl2 : s.heap.IsTuple a its.toArray := hl
  refine PySem.W.min_tuple_data (x := .int n) (xs := ns.map .int) (as := []) (I.ok.hd hc) hl2 (by have := readsAll_ints (h := s.heap) rv.ints; simpa using this) (by have := alike_ints (n :: ns); simpa using this) (by have := depth_ints (n :: ns); rw [List.map_cons] at this; rw [this]; omega) fun i v h' tk bs _ hr hk => ?_
  rw [PySem.W.minD_ints] at hr
  obtain ⟨t, rfl⟩ := reads_int hr
  exact ⟨.int _, H, I.kept hk, ⟨_, rfl⟩, q⟩
/-- what a call of a built-in gives -/
def rBi (K : PySem.W.Frag) (fa ca : Nat → Addr) (b : Bi) : List V → Hp → VK → Prop := fun vs H Q => ∃ hid w st E ds d, Good K fa ca hid w st H ∧ RVs K fa w (FZ hid w st H) vs ds ∧ bi st b ds = some d ∧ PostG K fa ca (relV K fa) hid w st H E (.ok d st) Q
theorem CallR.imp {f : Value} {r r' : List V → Hp → VK → Prop} (h : CallR X f r) (i : ∀ vs H Q, r' vs H Q → r vs H Q) : CallR X f r' := fun pins s σ H xs us Q I rs q => h pins s σ H xs us Q I rs (i _ _ _ q)
theorem one_rvs {K : PySem.W.Frag} {w : List Addr} {F : Hp} {vs : List V} {d : D} (r : RVs K fa w F vs [d]) : ∃ v, vs = [v] ∧ RV K fa w F v d := by
  cases r with
  | cons r1 r2 => cases r2; exact ⟨_, rfl, r1⟩
theorem two_rvs {K : PySem.W.Frag} {w : List Addr} {F : Hp} {vs : List V} {d d' : D} (r : RVs K fa w F vs [d, d']) : ∃ v v', vs = [v, v'] ∧ RV K fa w F v d ∧ RV K fa w F v' d' := by
  cases r with
  | cons r1 r2 => cases r2 with
    | cons r2 r3 => cases r3; exact ⟨_, _, rfl, r1, r2⟩
theorem int_rv {K : PySem.W.Frag} {w : List Addr} {F : Hp} {v : V} {i : Int} (r : RV K fa w F v (.py (.int i))) : v = .int i := by
  cases r with
  | py r => cases r; rfl
theorem bl_rv {K : PySem.W.Frag} {w : List Addr} {F : Hp} {v : V} {i : Bool} (r : RV K fa w F v (.py (.bool i))) : v = .bl i := by
  cases r with
  | py r => cases r; rfl
theorem str_rv {K : PySem.W.Frag} {w : List Addr} {F : Hp} {v : V} {i : Str} (r : RV K fa w F v (.py (.str i))) : v = .str i := by
  cases r with
  | py r => cases r; rfl
/-- a sequence of ints -/
theorem seqI_ok {K : PySem.W.Frag} {hid w : List Addr} {st : Store} {H : Hp} {v : V} {d : D} {l : List Int} (g : Good K fa ca hid w st H) (r : RV K fa w (FZ hid w st H) v d) (h : seqI st d = some l) : ∃ a, v = .ref a ∧ (SqL K H a (l.map V.int) ∨ SqT K H a (l.map V.int)) := by
  unfold seqI seqPD at h
  obtain ⟨ps, h1, h2⟩ := Option.bind_eq_some_iff.mp h
  obtain ⟨ds, h3, h4⟩ := Option.bind_eq_some_iff.mp h1
  obtain ⟨a, vs, e1, e2, e3⟩ := seqOf_ok g r h3
  have e4 := (e3.pys h4).ints h2
  subst e4
  exact ⟨a, e1, e2.imp SqL.of SqT.of⟩
theorem call_bi_len : CallR X (.builtin "len") (rBi X.K fa ca .len) := by
  refine CallR.imp (CallR.or call_len_seq (CallR.or call_len_str call_len_dT)) fun vs H Q ⟨hid, w, st, E, ds, d, g, rs, hb, p⟩ => ?_
  have fin : ∀ (k : D), ds = [k] → (seqOf st k).map (fun l => D.py (.int l.length)) = some d → ∃ p ys, vs = [.ref p] ∧ (SqL X.K H p ys ∨ SqT X.K H p ys) ∧ Q (.int ys.length) H := fun k e h => by
    subst e
    obtain ⟨v, rfl, r⟩ := one_rvs rs
    obtain ⟨l, e1, e2⟩ := Option.map_eq_some_iff.mp h
    subst e2
    obtain ⟨a, vs, rfl, e3, e4⟩ := seqOf_ok g r e1
    exact ⟨a, vs, rfl, e3.imp SqL.of SqT.of, by rw [e4.length]; exact p.here g (.py (.int _))⟩
  match ds, rs, hb, fin with
  | [], _, hb, _ => simp [bi] at hb
  | _ :: _ :: _, _, hb, _ => simp [bi] at hb
  | [k], rs, hb, fin =>
    obtain ⟨v, rfl, r⟩ := one_rvs rs
    cases r with
    | py hd =>
      cases hd with
      | str x =>
        simp only [bi] at hb
        split at hb
        · rename_i hl
          cases hb
          exact .inr (.inl ⟨x, rfl, by rw [sizeLine_eq]; exact hl, p.here g (.py (.int _))⟩)
        · cases hb
      | lst h1 h2 => exact .inl (fin _ rfl hb)
      | tup h1 h2 => exact .inl (fin _ rfl hb)
      | _ => simp [bi, seqOf, listOf, tupOf] at hb
    | fn => simp [bi, seqOf, listOf, tupOf] at hb
    | tp h1 h2 => exact .inl (fin _ rfl hb)
    | @scr a ns h =>
      simp only [bi, Option.some.injEq] at hb
      subst hb
      exact .inl ⟨a, ns.map V.int, rfl, .inl (FZ.le.sqL h), by rw [List.length_map]; exact p.here g (.py (.int _))⟩
    | ref hw =>
      simp only [bi] at hb
      split at hb
      · rename_i kvs e
        cases hb
        obtain ⟨a, ea, kv, h1, h2⟩ := g.cell e
        rw [ea] at hw; cases hw
        exact .inr (.inr ⟨_, kv, rfl, h1, by rw [Paired.length h2]; exact p.here g (.py (.int _))⟩)
      · rename_i l e
        exact .inl (fin _ rfl (by simp only [seqOf, listOf, e, Option.map_some]; exact hb))
      · rename_i l e
        exact .inl (fin _ rfl (by simp only [seqOf, listOf, e, Option.map_some, List.length_map]; exact hb))
      · cases hb
theorem call_bi_sum (hc : X.calm = true) : CallR X (.builtin "sum") (rBi X.K fa ca .sum) := by
  refine CallR.imp (CallR.or (cr_sum hc) (cr_sumT hc)) fun vs H Q ⟨hid, w, st, E, ds, d, g, rs, hb, p⟩ => ?_
  match ds, rs, hb with
  | [], _, hb => simp [bi] at hb
  | _ :: _ :: _, _, hb => simp [bi] at hb
  | [k], rs, hb =>
    obtain ⟨v, rfl, r⟩ := one_rvs rs
    simp only [bi, Option.map_eq_some_iff] at hb
    obtain ⟨l, e1, rfl⟩ := hb
    obtain ⟨a, rfl, h⟩ := seqI_ok g r e1
    have q := p.here g (.py (.int _))
    exact h.elim (fun h => .inl ⟨a, l, rfl, h, q⟩) fun h => .inr ⟨a, l, rfl, h, q⟩
theorem call_bi_max (hc : X.calm = true) (hu : X.A.units + 64 < cLine) : CallR X (.builtin "max") (rBi X.K fa ca .max) := by
  refine CallR.imp (CallR.or (cr_max hc) (cr_maxT hc hu)) fun vs H Q ⟨hid, w, st, E, ds, d, g, rs, hb, p⟩ => ?_
  match ds, rs, hb with
  | [], _, hb => simp [bi] at hb
  | _ :: _ :: _, _, hb => simp [bi] at hb
  | [k], rs, hb =>
    obtain ⟨v, rfl, r⟩ := one_rvs rs
    simp only [bi, Option.bind_eq_some_iff, Option.map_eq_some_iff] at hb
    obtain ⟨l, e1, i, e2, rfl⟩ := hb
    obtain ⟨a, rfl, h⟩ := seqI_ok g r e1
    have q := p.here g (.py (.int _))
    cases l with
    | nil => simp [maxI] at e2
    | cons n ns =>
      simp only [maxI, Option.some.injEq] at e2
      subst e2
      refine h.elim (fun h => .inl ⟨a, n :: ns, rfl, h, by simp, fun m h1 h2 => ?_⟩) fun h => .inr ⟨a, n, ns, rfl, h, q⟩
      rw [max_of h1 h2] at q
      exact q
theorem call_bi_min (hc : X.calm = true) (hu : X.A.units + 64 < cLine) : CallR X (.builtin "min") (rBi X.K fa ca .min) := by
  refine CallR.imp (CallR.or (cr_min hc) (cr_minT hc hu)) fun vs H Q ⟨hid, w, st, E, ds, d, g, rs, hb, p⟩ => ?_
  match ds, rs, hb with
  | [], _, hb => simp [bi] at hb
  | _ :: _ :: _, _, hb => simp [bi] at hb
  | [k], rs, hb =>
    obtain ⟨v, rfl, r⟩ := one_rvs rs
    simp only [bi, Option.bind_eq_some_iff, Option.map_eq_some_iff] at hb
    obtain ⟨l, e1, i, e2, rfl⟩ := hb
    obtain ⟨a, rfl, h⟩ := seqI_ok g r e1
    have q := p.here g (.py (.int _))
    cases l with
    | nil => simp [minI] at e2
    | cons n ns =>
      simp only [minI, Option.some.injEq] at e2
      subst e2
      refine h.elim (fun h => .inl ⟨a, n :: ns, rfl, h, by simp, fun m h1 h2 => ?_⟩) fun h => .inr ⟨a, n, ns, rfl, h, q⟩
      rw [min_of h1 h2] at q
      exact q
theorem call_bi_max2 (hc : X.calm = true) : CallR X (.builtin "max") (rBi X.K fa ca .max2) := by
  refine CallR.imp (call_max2 hc) fun vs H Q ⟨hid, w, st, E, ds, d, g, rs, hb, p⟩ => ?_
  match ds, rs, hb with
  | [.py (.int i), .py (.int j)], rs, hb =>
    obtain ⟨v, v', rfl, r1, r2⟩ := two_rvs rs
    cases int_rv r1
    cases int_rv r2
    simp only [bi, Option.some.injEq] at hb
    subst hb
    exact ⟨i, j, rfl, p.here g (.py (.int _))⟩
theorem call_bi_min2 (hc : X.calm = true) : CallR X (.builtin "min") (rBi X.K fa ca .min2) := by
  refine CallR.imp (call_min2 hc) fun vs H Q ⟨hid, w, st, E, ds, d, g, rs, hb, p⟩ => ?_
  match ds, rs, hb with
  | [.py (.int i), .py (.int j)], rs, hb =>
    obtain ⟨v, v', rfl, r1, r2⟩ := two_rvs rs
    cases int_rv r1
    cases int_rv r2
    simp only [bi, Option.some.injEq] at hb
    subst hb
    exact ⟨i, j, rfl, p.here g (.py (.int _))⟩
theorem call_bi_abs : CallR X (.builtin "abs") (rBi X.K fa ca .abs) := by
  refine CallR.imp call_abs fun vs H Q ⟨hid, w, st, E, ds, d, g, rs, hb, p⟩ => ?_
  match ds, rs, hb with
  | [.py (.int i)], rs, hb =>
    obtain ⟨v, rfl, r1⟩ := one_rvs rs
    cases int_rv r1
    simp only [bi, Option.some.injEq] at hb
    subst hb
    exact ⟨i, rfl, p.here g (.py (.int _))⟩
theorem call_bi_int : CallR X (.type "int") (rBi X.K fa ca .int) := by
  refine CallR.imp call_int1 fun vs H Q ⟨hid, w, st, E, ds, d, g, rs, hb, p⟩ => ?_
  match ds, rs, hb with
  | [.py (.int i)], rs, hb =>
    obtain ⟨v, rfl, r1⟩ := one_rvs rs
    cases int_rv r1
    simp only [bi, Option.some.injEq] at hb
    subst hb
    exact .inl ⟨i, rfl, p.here g (.py (.int _))⟩
  | [.py (.bool i)], rs, hb =>
    obtain ⟨v, rfl, r1⟩ := one_rvs rs
    cases bl_rv r1
    simp only [bi, Option.some.injEq] at hb
    subst hb
    exact .inr ⟨i, rfl, p.here g (.py (.int _))⟩
theorem call_bi_tuple : CallR X (.type "tuple") (rBi X.K fa ca .tuple) := by
  refine CallR.imp call_tuple_of fun vs H Q ⟨hid, w, st, E, ds, d, g, rs, hb, p⟩ => ?_
  match ds, rs, hb with
  | [], _, hb => simp [bi] at hb
  | _ :: _ :: _, _, hb => simp [bi] at hb
  | [k], rs, hb =>
    obtain ⟨v, rfl, r⟩ := one_rvs rs
    simp only [bi, seqPD, Option.map_eq_some_iff, Option.bind_eq_some_iff] at hb
    obtain ⟨l, ⟨l', e1, e2⟩, rfl⟩ := hb
    unfold seqOf at e1
    split at e1
    · rename_i l2 e
      cases e1
      obtain ⟨a, ys, rfl, e3, e4⟩ := listOf_ok g r e
      refine ⟨a, ys, rfl, .inl ⟨SqL.of e3, fun q hq => p.new g hq (.py (.tup (FZ.new g hq) ?_))⟩⟩
      exact (e4.mono (fun _ _ z => z) (Ext.new g hq).le).pys e2
    · obtain ⟨a, ys, rfl, e3, e4⟩ := tupOf_ok r e1
      refine ⟨a, ys, rfl, .inr ⟨SqT.of e3, p.here g ?_⟩⟩
      cases r with
      | py hd =>
        cases hd with
        | tup h1 h2 =>
          simp only [tupOf, Option.some.injEq] at e1
          subst e1
          rw [pys_map] at e2
          cases e2
          exact .py (.tup h1 h2)
        | _ => simp [tupOf] at e1
      | tp h1 h2 =>
        simp only [tupOf, Option.some.injEq] at e1
        subst e1
        exact .py (.tup h1 (h2.pys e2))
      | _ => simp [tupOf] at e1
/-- a built-in by its name -/
def Bi.nm : Bi → Str
  | .len => "len" | .sum => "sum" | .max => "max" | .min => "min" | .max2 => "max" | .min2 => "min" | .abs => "abs" | .int => "int" | .tuple => "tuple" | .sorted => "sorted"
def Bi.ok : Bi → Bool
  | .sorted => false
  | _ => true
theorem de_bi {b : Bi} {e : Expr} {es : List Expr} {ee : Es} {pp pos : Pos} (hb : b.ok = true) (hc : X.calm = true) (hu : X.A.units + 64 < cLine) (hg : Gl X b.nm) (hm : X.mg b.nm = none) (ha : DA X fa ca W Δ (e :: es) ee)
    (he : starEach (e :: es) X.env = (false, eval e X.env) :: starEach es X.env) (hpl : (backTo pos (starEach es X.env)).any (·.1) = false) : DE X fa ca W Δ (.Call (.Name b.nm pp) (e :: es) [] pos) (.bi b ee) := by
  have go : PE X (.Call (.Name b.nm pp) (e :: es) [] pos) (tCB (rBi X.K fa ca b) (tG X.K fa ca W (relA X.K fa) (evs Δ ee))) := by
    cases b with
    | len => exact pe_callB call_bi_len hg hm (by with_unfolding_all rfl) ha (by decide) (by decide) he hpl
    | sum => exact pe_callB (call_bi_sum hc) hg hm (by with_unfolding_all rfl) ha (by decide) (by decide) he hpl
    | max => exact pe_callB (call_bi_max hc hu) hg hm (by with_unfolding_all rfl) ha (by decide) (by decide) he hpl
    | min => exact pe_callB (call_bi_min hc hu) hg hm (by with_unfolding_all rfl) ha (by decide) (by decide) he hpl
    | max2 => exact pe_callB (call_bi_max2 hc) hg hm (by with_unfolding_all rfl) ha (by decide) (by decide) he hpl
    | min2 => exact pe_callB (call_bi_min2 hc) hg hm (by with_unfolding_all rfl) ha (by decide) (by decide) he hpl
    | abs => exact pe_callB call_bi_abs hg hm (by with_unfolding_all rfl) ha (by decide) (by decide) he hpl
    | int => exact pe_callTy call_bi_int hg hm (by with_unfolding_all rfl) ha (by decide) (by decide) he hpl
    | tuple => exact pe_callTy call_bi_tuple hg hm (by with_unfolding_all rfl) ha (by decide) (by decide) he hpl
    | sorted => cases hb
  refine PE.imp go fun σ H Q ⟨hid, w, st, ρ, g0, s0, p⟩ => ?_
  simp only [ev] at p
  refine ⟨hid, w, st, ρ, g0, s0, (PostG.bind (rel := relA X.K fa) p).mono fun xs H1 ⟨ds, w1, st1, e1, g1, r1, e2, p1⟩ => ?_⟩
  obtain ⟨d, e3, p2⟩ := p1.of
  exact ⟨hid, w1, st1, _, ds, d, g1, r1, e3, p2⟩
/-- what a def promises -/
def spF (K : PySem.W.Frag) (fa ca : Nat → Addr) (Δ : Dn) (f ar : Nat) : Sp := fun vs H Q E => ∃ hid w st ds, Good K fa ca hid w st H ∧ RVs K fa w (FZ hid w st H) vs ds ∧ ds.length = ar ∧ PostG K fa ca (relV K fa) hid w st H E (Δ f ds st) Q
theorem de_call {k f ar : Nat} {x : Str} {fd : FuncData} {ps : List Str} {e : Expr} {es : List Expr} {ee : Es} {pp pos : Pos} (F : FnOk X.prog X.w X.K X.mg X.base (L2.CX X.prog X.w) k (fa f) fd ps (spF X.K fa ca Δ f ar)) (hr : Room k X.A) (hg : Gl X x) (hm : X.mg x = some (.ref (fa f)))
    (hk : PySem.W.keepIn X.K (.ref (fa f)) = true) (hb : Binds X.K fd ps []) (tk : Takes X W) (hl : ee.len = ar) (hdb : (x == ("__debug__" : Str)) = false) (ha : DA X fa ca W Δ (e :: es) ee)
    (he : starEach (e :: es) X.env = (false, eval e X.env) :: starEach es X.env) (hpl : (backTo pos (starEach es X.env)).any (·.1) = false) : DE X fa ca W Δ (.Call (.Name x pp) (e :: es) [] pos) (.call f ee) := by
  refine PE.imp (pe_callSD (dvs := []) F hr hg hm hk hb .nil (passAt tk) ha hdb he hpl) fun σ H Q ⟨hid, w, st, ρ, g0, s0, p⟩ => ?_
  simp only [ev] at p
  refine ⟨hid, w, st, ρ, g0, s0, (PostG.bind (rel := relA X.K fa) p).mono fun xs H1 ⟨ds, w1, st1, e1, g1, r1, e2, p1⟩ => ?_⟩
  refine ⟨hid, w1, st1, ds, g1, by rw [List.append_nil]; exact r1, ?_, p1⟩
  rw [evs_len ee e2, hl]
end
end Ev
set_option maxHeartbeats 1000000
namespace Ev
open PySem PySem.Spec PyProof.Rows L2
theorem inplace_seqIn {M : Model} {A : Around} {E : Value → Shared → Prop} {s : Shared} {a b : Value} {T id : String} {Q : Value → Shared → Prop} (ha : s.TypeIs a T) (hb : s.TypeIs b T)
    (hi : typeLookup (.type T) (dunderI "add") = pure (some (.builtin id))) (hs : isSeqSlot (some (.builtin id)) = true) (hfill : fillsNumberSlot (.type T) "add" = pure false)
    (hc : wpAny M A (call (.builtin id) [a, b]) Q E s) : wpAny M A (inplaceOp .Add a b) Q E s := by
  unfold inplaceOp
  refine wpAny_holding ?_
  have hfi : fillsInplaceSlot (.type T) "add" (Operator.Add == .Add) = pure false := by
    unfold fillsInplaceSlot
    show (typeLookup (.type T) (dunderI "add") >>= fun fi => pure (fi.isSome && !isSeqSlot fi)) = pure false
    rw [hi, pure_bind, hs]; rfl
  have hsi : seqSlot? (.type T) (dunderI "add") = pure (some (.builtin id)) := PySem.seqSlot_of hi hs
  refine wpAny_bind (wpAny_typeOf ha (wpAny_bind (wpAny_of_eq hfi ?_)))
  show wpAny M A (if false = true then _ else _) Q E s
  rw [if_neg Bool.false_ne_true]
  refine wpAny_bind (wpAny_binaryOp1_none (nm := "add") ha hb hfill ?_)
  refine wpAny_bind (wpAny_of_eq hsi ?_)
  exact wpAny_bind (wpAny_rule hc)
section
variable {X : Cx}
def ipExt : TIp := fun x y H Q => ∃ l b xs zs, x = .ref l ∧ y = .ref b ∧ H l = some (.lst xs) ∧ H b = some (.lst zs) ∧ xs.length + zs.length ≤ sizeLine ∧ Q (.ref l) (upd H l (.lst (xs ++ zs)))
theorem ip_ext : PIp X .Add ipExt := by
  intro pins s σ H x y v u Q I rx ry h
  obtain ⟨l, b, xs, zs, rfl, rfl, hH, hB, hz, q⟩ := h
  cases rx
  cases ry
  obtain ⟨z, its, n, r, hl, e⟩ := I.lstM hH
  obtain ⟨z2, its2, n2, r2, hl2, e2⟩ := I.lstM hB
  have hsz : its.toArray.size + its2.toArray.size ≤ sizeLine := by rw [List.size_toArray, List.size_toArray]; omega
  have hlong : ¬ (!its.toArray.isEmpty && Builtin.List.listTooLong (its.toArray.size + its2.toArray.size)) = true := by
    rw [notLongL hsz, Bool.and_false]
    exact Bool.false_ne_true
  refine inplace_seqIn (T := "list") ⟨_, e, rfl⟩ ⟨_, e2, rfl⟩ PySem.F.slot_list_iadd.lookup (by decide +kernel) noFill_list_add ?_
  refine call_meets PySem.F.slot_list_iadd ⟨_, e, rfl⟩ PySem.F.entry_list_iadd (PySem.F.args_list_iadd_2 _ _)
    (AutoSeq1.list___iadd___list_list_0 l its.toArray n b its2.toArray n2 hlong (by rw [List.size_toArray]; omega) (by omega)) ⟨e, e2, ?_⟩
  refine ⟨.ref l, _, I.lset (its' := its ++ its2) hH e (by simp) (r.append r2) ?_, rfl, q⟩
  rw [List.length_append]
  omega
end
section
variable (K : PySem.W.Frag) (fa ca : Nat → Addr) (W : WX)
def FlP (w : List Addr) (F : Hp) (D : Ends) (σ : L2.St) (H : Hp) : Fl → Prop
  | .nx => D.nx σ H
  | .rt d => ∀ v, RV K fa w F v d → D.rt v H
  | .bk => D.bk σ H
  | .ct => D.ct σ H
  | .xc e => ∀ cls dd, RX ca cls dd H e → W cls dd σ H
def PostS (hid w : List Addr) (st : Store) (H : Hp) (r : RS) (D : Ends) : Prop := match r with
  | .go f ρ st' => ∀ σ' w' H', Ext hid w st H w' st' H' → Good K fa ca hid w' st' H' → Slots K fa w' (FZ hid w' st' H') ρ σ' → FlP K fa ca W w' (FZ hid w' st' H') D σ' H' f
  | .bad => False
def tS (f : EnvD → Store → RS) : TS := fun D σ H => ∃ (hid w : List Addr) (st : Store) (ρ : EnvD), Good K fa ca hid w st H ∧ Slots K fa w (FZ hid w st H) ρ σ ∧ PostS K fa ca W hid w st H (f ρ st) D
end
section
variable {K : PySem.W.Frag} {fa ca : Nat → Addr} {W : WX} {hid w w' : List Addr} {st st' : Store} {H H' : Hp} {D D' : Ends} {ρ : EnvD} {σ : L2.St}
theorem PostS.base {r : RS} (x : Ext hid w st H w' st' H') (h : PostS K fa ca W hid w st H r D) : PostS K fa ca W hid w' st' H' r D := by
  cases r with
  | go f ρ s => exact fun σ' w2 H2 y g r => h σ' w2 H2 (x.trans y) g r
  | bad => exact h
theorem PostS.to {α β : Type} {rel : List Addr → Hp → β → α → Prop} {r : Rs α} {k : α → Store → RS} (s0 : Slots K fa w (FZ hid w st H) ρ σ) (h : PostS K fa ca W hid w st H (r.to ρ k) D) :
    PostG K fa ca rel hid w st H (fun c d H' => W c d σ H') r fun x H1 => ∃ a w1 st1, Ext hid w st H w1 st1 H1 ∧ Good K fa ca hid w1 st1 H1 ∧ rel w1 (FZ hid w1 st1 H1) x a ∧ r = .ok a st1 ∧ PostS K fa ca W hid w1 st1 H1 (k a st1) D := by
  cases r with
  | ok d s => exact fun v w2 H2 y g r => ⟨d, w2, s, y, g, r, rfl, PostS.base y h⟩
  | ex e s => exact fun cls dd w2 H2 y g r => h σ w2 H2 y g (y.slots s0) cls dd r
  | bad => exact h
theorem PostS.here {f : Fl} (h : PostS K fa ca W hid w st H (.go f ρ st) D) (g : Good K fa ca hid w st H) (s : Slots K fa w (FZ hid w st H) ρ σ) : FlP K fa ca W w (FZ hid w st H) D σ H f := h σ w H Ext.refl g s
theorem PostS.seq {r : RS} {k : EnvD → Store → RS} (h : PostS K fa ca W hid w st H (r.seq k) D) : PostS K fa ca W hid w st H r { D with nx := fun σ' H' => ∃ ρ' w' st', Good K fa ca hid w' st' H' ∧ Slots K fa w' (FZ hid w' st' H') ρ' σ' ∧ PostS K fa ca W hid w' st' H' (k ρ' st') D } := by
  cases r with
  | go f ρ s =>
    cases f with
    | nx => exact fun σ' w2 H2 y g r => ⟨ρ, w2, s, g, r, PostS.base y h⟩
    | rt d => exact h
    | bk => exact h
    | ct => exact h
    | xc e => exact h
  | bad => exact h
end
section
variable {X : Cx} {fa ca : Nat → Addr} {W : WX} {Δ : Dn} {fu : Nat} {pos : Pos}
abbrev DS (X : Cx) (fa ca : Nat → Addr) (W : WX) (Δ : Dn) (fu : Nat) (s : Stmt) (c : S) : Prop := PS X s (tS X.K fa ca W (ex Δ fu c))
abbrev DSs (X : Cx) (fa ca : Nat → Addr) (W : WX) (Δ : Dn) (fu : Nat) (s : List Stmt) (c : Ss) : Prop := PSs X s (tS X.K fa ca W (exs Δ fu c))
theorem dss_nil : DSs X fa ca W Δ fu [] .nil := by
  refine PSs.imp pss_nil fun D σ H ⟨hid, w, st, ρ, g, s, p⟩ => ?_
  simp only [exs] at p
  exact p.here g s
theorem dss_cons {s : Stmt} {r : List Stmt} {c : S} {cr : Ss} (h1 : DS X fa ca W Δ fu s c) (h2 : DSs X fa ca W Δ fu r cr) : DSs X fa ca W Δ fu (s :: r) (.cons c cr) := by
  refine PSs.imp (pss_cons h1 h2) fun D σ H ⟨hid, w, st, ρ, g, s, p⟩ => ?_
  simp only [exs] at p
  refine ⟨hid, w, st, ρ, g, s, ?_⟩
  have q := p.seq
  generalize ex Δ fu c ρ st = r at q
  cases r with
  | go f ρ' s' =>
    cases f with
    | nx => exact fun σ' w2 H2 y g r => let ⟨ρ2, w2', st2, g2, s2, p2⟩ := q σ' w2 H2 y g r; ⟨hid, w2', st2, ρ2, g2, s2, p2⟩
    | rt d => exact q
    | bk => exact q
    | ct => exact q
    | xc e => exact q
  | bad => exact q
theorem ds_pass : DS X fa ca W Δ fu (.Pass pos) .pass := PS.imp ps_pass fun D σ H ⟨hid, w, st, ρ, g, s, p⟩ => by
  simp only [ex] at p
  exact p.here g s
theorem ds_brk : DS X fa ca W Δ fu (.Break pos) .brk := PS.imp ps_break fun D σ H ⟨hid, w, st, ρ, g, s, p⟩ => by
  simp only [ex] at p
  exact p.here g s
theorem ds_cnt : DS X fa ca W Δ fu (.Continue pos) .cnt := PS.imp ps_continue fun D σ H ⟨hid, w, st, ρ, g, s, p⟩ => by
  simp only [ex] at p
  exact p.here g s
theorem ds_ret {e : Expr} {c : E} (he : DE X fa ca W Δ e c) : DS X fa ca W Δ fu (.Return (some e) pos) (.ret c) := PS.imp (ps_ret he) fun D σ H ⟨hid, w, st, ρ, g, s, p⟩ => by
  simp only [ex] at p
  refine ⟨hid, w, st, ρ, g, s, (PostS.to (rel := relV X.K fa) s p).mono fun x H1 ⟨d, w1, st1, e1, g1, r1, _, p1⟩ => ?_⟩
  exact p1.here g1 (e1.slots s) x r1
theorem ds_expr {e : Expr} {c : E} (he : DE X fa ca W Δ e c) (hs : swapsWith e none pos.line X.env = pure false) : DS X fa ca W Δ fu (.Expr e pos) (.expr c) := PS.imp (ps_expr he hs) fun D σ H ⟨hid, w, st, ρ, g, s, p⟩ => by
  simp only [ex] at p
  refine ⟨hid, w, st, ρ, g, s, (PostS.to (rel := relV X.K fa) s p).mono fun x H1 ⟨d, w1, st1, e1, g1, r1, _, p1⟩ => ?_⟩
  exact p1.here g1 (e1.slots s)
theorem ds_if {t : Expr} {a b : List Stmt} {ct : T} {cx cy : Ss} (ht : DT X fa ca W Δ t ct) (ha : DSs X fa ca W Δ fu a cx) (hb : DSs X fa ca W Δ fu b cy) : DS X fa ca W Δ fu (.If t a b pos) (.ife ct cx cy) := PS.imp (ps_if ht ha hb) fun D σ H ⟨hid, w, st, ρ, g, s, p⟩ => by
  simp only [ex] at p
  refine ⟨hid, w, st, ρ, g, s, (PostS.to (rel := relB) s p).mono fun x H1 ⟨d, w1, st1, e1, g1, r1, _, p1⟩ => ?_⟩
  cases (show x = d from r1)
  cases x with
  | true => exact ⟨hid, w1, st1, ρ, g1, e1.slots s, p1⟩
  | false => exact ⟨hid, w1, st1, ρ, g1, e1.slots s, p1⟩
theorem ds_set {i : Nat} {x : Str} {e : Expr} {c : E} {pos' : Pos} (hN : X.N.Nodup) (hi : X.N[i]? = some x) (hx : Loc X.env.scope x) (hf : X.fn x = true ∨ X.env.scope.names.lookup x = some .local) (he : DE X fa ca W Δ e c) (hs : swapsWith e (some (.Name x pos')) pos.line X.env = pure false) :
    DS X fa ca W Δ fu (.Assign [.Name x pos'] e pos) (.set i c) := PS.imp (ps_set hN hi hx he hs hf) fun D σ H ⟨hid, w, st, ρ, g, s, p⟩ => by
  simp only [ex] at p
  refine ⟨hid, w, st, ρ, g, s, (PostS.to (rel := relV X.K fa) s p).mono fun x H1 ⟨d, w1, st1, e1, g1, r1, _, p1⟩ => ?_⟩
  exact p1.here g1 ((e1.slots s).set i r1)
theorem ds_setL {i : Nat} {x : Str} {e : Expr} {l : L} {c : E} {pos' : Pos} (h : PS X (.Assign [.Name x pos'] e pos) (tAsg (tL X.K fa ca W (evL Δ l)) (gName i))) (hc : c = .li l ∨ c = .cell l) : DS X fa ca W Δ fu (.Assign [.Name x pos'] e pos) (.set i c) := PS.imp h fun D σ H ⟨hid, w, st, ρ, g, s, p⟩ => by
  simp only [ex] at p
  have q : tG X.K fa ca W (relV X.K fa) (ev Δ c) σ H fun y H1 => gName i y σ H1 D.nx := ⟨hid, w, st, ρ, g, s, (PostS.to (rel := relV X.K fa) s p).mono fun x H1 ⟨d, w1, st1, e1, g1, r1, _, p1⟩ => p1.here g1 ((e1.slots s).set i r1)⟩
  rcases hc with rfl | rfl
  · exact rd_li q
  · exact rd_cell q
theorem ds_asg {tg e : Expr} {t : Tg} {c : E} (hg : DG X fa ca tg t) (he : DE X fa ca W Δ e c) (hs : swapsWithSole [tg] e pos.line X.env = pure false) (hw : swappedStores [tg] e X.env = pure none) (h1 : (assignEach [tg] X.env).map (·.2) = [assign tg X.env]) :
    DS X fa ca W Δ fu (.Assign [tg] e pos) (.asg t c) := PS.imp (ps_asg he hg hs hw h1) fun D σ H ⟨hid, w, st, ρ, g, s, p⟩ => by
  simp only [ex] at p
  refine ⟨hid, w, st, ρ, g, s, (PostS.to (rel := relV X.K fa) s p).mono fun x H1 ⟨d, w1, st1, e1, g1, r1, _, p1⟩ => ?_⟩
  unfold bindT at p1
  split at p1
  · rename_i ρ' ea
    exact ⟨hid, w1, st1, ρ, d, g1, e1.slots s, r1, ρ', ea, fun σ' s' _ _ => p1.here g1 s'⟩
  · exact p1.elim
theorem ds_swp {i j : Nat} {x y : Str} {a b : Expr} {cx cy : E} {px py pt : Pos} {kt k2 pt2} (hc : X.calm = true) (hN : X.N.Nodup) (hi : X.N[i]? = some x) (hj : X.N[j]? = some y) (hij : i ≠ j)
    (hx : X.env.scope.names.lookup x = some .local) (hy : X.env.scope.names.lookup y = some .local) (ha : DA X fa ca W Δ [a, b] (.cons cx (.cons cy .nil)))
    (hw : swappedStores [.Tuple [.Name x px, .Name y py] kt pt] (.Tuple [a, b] k2 pt2) X.env = pure (some [x, y]))
    (hs : swapsWithSole [.Tuple [.Name x px, .Name y py] kt pt] (.Tuple [a, b] k2 pt2) pos.line X.env = pure false) :
    DS X fa ca W Δ fu (.Assign [.Tuple [.Name x px, .Name y py] kt pt] (.Tuple [a, b] k2 pt2) pos) (.swp i j cx cy) := PS.imp (ps_par hc hN hi hj hij hx hy ha hw hs) fun D σ H ⟨hid, w, st, ρ, g, s, p⟩ => by
  have p' : PostS X.K fa ca W hid w st H ((evs Δ (.cons cx (.cons cy .nil)) ρ st).to ρ fun ds st => match ds with
    | [x, y] => nx ((ρ.set i (some x)).set j (some y)) st
    | _ => .bad) D := by
    simp only [ex] at p
    simp only [evs]
    generalize ev Δ cx ρ st = r1 at p ⊢
    cases r1 with
    | ok d s =>
      simp only [Rs.to_ok, Rs.bind_ok] at p ⊢
      generalize ev Δ cy ρ s = r2 at p ⊢
      cases r2 with
      | ok d s => exact p
      | ex e s => exact p
      | bad => exact p
    | ex e s => exact p
    | bad => exact p
  refine ⟨hid, w, st, ρ, g, s, (PostS.to (rel := relA X.K fa) s p').mono fun xs H1 ⟨ds, w1, st1, e1, g1, r1, _, p1⟩ => ?_⟩
  split at p1
  · obtain ⟨v, v', rfl, q1, q2⟩ := two_rvs r1
    exact ⟨v, v', rfl, p1.here g1 (((e1.slots s).set i q1).set j q2)⟩
  · exact p1.elim
def rSt (K : PySem.W.Frag) : TSet := fun o i v H Q => rSetL o i v H Q ∨ rSetD o i v H Q
theorem set_st (hu : X.A.units + 1 < cLine) : PSet X (rSt X.K) := fun pins s σ H o i v ov iv u Q I ro ri rv h => h.elim (set_list pins s σ H o i v ov iv u Q I ro ri rv) (set_dict hu pins s σ H o i v ov iv u Q I ro ri rv)
theorem setix_ok {K : PySem.W.Frag} {hid w : List Addr} {st st' : Store} {H : Hp} {x y z : V} {d d' e : D} {Q : Hp → Prop} (g : Good K fa ca hid w st H) (rx : RV K fa w (FZ hid w st H) x d) (ry : RV K fa w (FZ hid w st H) y d') (rz : RV K fa w (FZ hid w st H) z e)
    (h : setix st d d' e = some st') (q : ∀ H', Ext hid w st H w st' H' → Good K fa ca hid w st' H' → Q H') : rSt K x y z H Q := by
  unfold setix at h
  split at h
  · rename_i n
    split at h
    · rename_i ds ec
      obtain ⟨i, e1, h⟩ := Option.bind_eq_some_iff.mp h
      obtain ⟨j, e2, rfl⟩ := Option.map_eq_some_iff.mp h
      obtain ⟨a, ea, vs, h1, h2⟩ := g.cell ec
      cases rx with
      | ref hw =>
        rw [ea] at hw; cases hw
        have ey : y = .int i := by
          unfold intOf at e1
          split at e1
          · cases e1; exact int_rv ry
          · cases e1
        refine .inl ⟨a, vs, i, j, rfl, ey, h1, by rw [h2.length]; exact e2, ?_⟩
        refine q _ (Ext.write g ea ec trivial trivial) (g.write ea ec trivial trivial ⟨_, upd_same, h2.set rz j⟩)
    · rename_i kvs ec
      obtain ⟨k, e1, h⟩ := Option.bind_eq_some_iff.mp h
      split at h
      · rename_i hl
        cases h
        obtain ⟨a, ea, kv, h1, h2⟩ := g.cell ec
        cases rx with
        | ref hw =>
          rw [ea] at hw; cases hw
          obtain ⟨b, rfl, hb⟩ := keyOf_ok ry e1
          refine .inr ⟨a, _, rfl, DPut.t h1 hb (by rw [Paired.length h2, sizeLine_eq]; exact hl), ?_⟩
          refine q _ (Ext.write g ea ec trivial trivial) (g.write ea ec trivial trivial ⟨_, upd_same, KVD.put h2 k rz⟩)
      · cases h
    · cases h
  · cases h
theorem ds_stI {o i e : Expr} {ca' ci cv : E} {spos : Pos} (hu : X.A.units + 1 < cLine) (ho : DE X fa ca W Δ o ca') (hi : DE X fa ca W Δ i ci) (he : DE X fa ca W Δ e cv)
    (ha : ∀ v, assign (.Subscript o i spos) X.env v = (do
      let ov ← holding [v] (eval o X.env)
      let iv ← holding [v, ov] (eval i X.env)
      standAt spos
      holding [v, ov, iv] (setItem ov iv v)
      release [v, ov, iv] [])) (hs : swapsWithSole [.Subscript o i spos] e pos.line X.env = pure false) (hw : swappedStores [.Subscript o i spos] e X.env = pure none) (h1 : (assignEach [.Subscript o i spos] X.env).map (·.2) = [assign (.Subscript o i spos) X.env]) :
    DS X fa ca W Δ fu (.Assign [.Subscript o i spos] e pos) (.stI ca' ci cv) := PS.imp (ps_asg he (pg_sub ho hi (set_st hu) ha) hs hw h1) fun D σ H ⟨hid, w, st, ρ, g, s, p⟩ => by
  simp only [ex] at p
  refine ⟨hid, w, st, ρ, g, s, (PostS.to (rel := relV X.K fa) s p).mono fun z H1 ⟨d, w1, st1, e1, g1, r1, _, p1⟩ => ?_⟩
  have s1 := e1.slots s
  refine ⟨hid, w1, st1, ρ, g1, s1, (PostS.to (rel := relV X.K fa) s1 p1).mono fun x H2 ⟨d2, w2, st2, e2, g2, r2, _, p2⟩ => ?_⟩
  have s2 := e2.slots s1
  refine ⟨hid, w2, st2, ρ, g2, s2, (PostS.to (rel := relV X.K fa) s2 p2).mono fun y H3 ⟨d3, w3, st3, e3, g3, r3, _, p3⟩ => ?_⟩
  split at p3
  · rename_i st' es
    refine setix_ok g3 (e3.rv r2) r3 ((e2.trans e3).rv r1) es fun H' x4 g4 => ?_
    exact (p3.base x4).here g4 ((e3.trans x4).slots s2)
  · exact p3.elim
def opAug : BOp → Operator
  | .add => .Add
  | _ => .Sub
def fAug : BOp → Int → Int → Int
  | .add => fun i j => i + j
  | _ => fun i j => i - j
theorem ip_aug : ∀ op : BOp, PIp X (opAug op) (ipI (fAug op))
  | .add => ip_add
  | .sub => ip_sub
  | .mul => ip_sub
  | .fdiv => ip_sub
  | .mod => ip_sub
  | .pow => ip_sub
theorem augI_ok {op : BOp} {d d' z : D} (h : augI op d d' = some z) : ∃ i j, d = .py (.int i) ∧ d' = .py (.int j) ∧ z = .py (.int (fAug op i j)) := by
  unfold augI at h
  split at h
  · cases h; exact ⟨_, _, rfl, rfl, rfl⟩
  · cases h; exact ⟨_, _, rfl, rfl, rfl⟩
  · cases h
theorem ds_aug {i : Nat} {x : Str} {e : Expr} {op : BOp} {c : E} {pos' : Pos} (hN : X.N.Nodup) (hi : X.N[i]? = some x) (hx : Loc X.env.scope x) (hf : X.fn x = true ∨ X.env.scope.names.lookup x = some .local) (he : DE X fa ca W Δ e c) :
    DS X fa ca W Δ fu (.AugAssign (.Name x pos') (opAug op) e pos) (.aug i op c) := PS.imp (ps_aug hN hi hx he (ip_aug op) hf) fun D σ H ⟨hid, w, st, ρ, g, s, p⟩ => by
  simp only [ex] at p
  split at p
  · rename_i d e0
    obtain ⟨v, ev1, rv⟩ := s.2 _ _ e0
    refine ⟨v, ev1, hid, w, st, ρ, g, s, (PostS.to (rel := relV X.K fa) s p).mono fun y H1 ⟨d1, w1, st1, e1, g1, r1, _, p1⟩ => ?_⟩
    split at p1
    · rename_i z ez
      obtain ⟨k, j, rfl, rfl, rfl⟩ := augI_ok ez
      cases int_rv rv
      cases int_rv r1
      exact ⟨k, j, rfl, rfl, p1.here g1 ((e1.slots s).set i (.py (.int _)))⟩
    · exact p1.elim
  · exact p.elim
theorem ds_ext {i : Nat} {x : Str} {e : Expr} {c : E} {pos' : Pos} (hN : X.N.Nodup) (hi : X.N[i]? = some x) (hx : Loc X.env.scope x) (hf : X.fn x = true ∨ X.env.scope.names.lookup x = some .local) (he : DE X fa ca W Δ e c) :
    DS X fa ca W Δ fu (.AugAssign (.Name x pos') .Add e pos) (.ext i c) := PS.imp (ps_aug hN hi hx he ip_ext hf) fun D σ H ⟨hid, w, st, ρ, g, s, p⟩ => by
  simp only [ex] at p
  split at p
  · rename_i n e0
    obtain ⟨v, ev1, rv⟩ := s.2 _ _ e0
    refine ⟨v, ev1, hid, w, st, ρ, g, s, (PostS.to (rel := relV X.K fa) s p).mono fun y H1 ⟨d1, w1, st1, e1, g1, r1, _, p1⟩ => ?_⟩
    split at p1
    · rename_i ds l e2 e3
      split at p1
      · rename_i hl
        obtain ⟨a, ea, vs, h1, h2⟩ := g1.cell e2
        cases e1.rv rv with
        | ref hw =>
          rw [ea] at hw; cases hw
          obtain ⟨b, us, rfl, h3, h4⟩ := listOf_ok g1 r1 e3
          refine ⟨a, b, vs, us, rfl, rfl, h1, h3, by rw [h2.length, h4.length, sizeLine_eq]; exact hl, ?_⟩
          have x4 := Ext.write (o := .lst (vs ++ us)) (c' := .lst (ds ++ l)) g1 ea e2 trivial trivial
          refine (p1.base x4).here (g1.write ea e2 trivial trivial ⟨_, upd_same, h2.append h4⟩) ?_
          have s4 := (e1.trans x4).slots s
          refine ⟨by rw [List.length_set]; exact s4.1, fun j d ej => ?_⟩
          by_cases q : i = j
          · subst q
            rw [e0] at ej
            cases ej
            have hlen : i < σ.length := by rw [← s.1]; exact (List.getElem?_eq_some_iff.mp e0).1
            exact ⟨.ref a, List.getElem?_set_self hlen, .ref ea⟩
          · rw [List.getElem?_set_ne q]
            exact s4.2 j d ej
      · exact p1.elim
    · exact p1.elim
  · exact p.elim
theorem list_ty {K : PySem.W.Frag} {a : Addr} {vs : List V} {H : Hp} (h : H a = some (.lst vs)) : tyV K "list" (.ref a) H := .inl ⟨rfl, vs, SqL.of h⟩
theorem ds_app {o e : Expr} {co ce : E} {apos cpos : Pos} (ho : DE X fa ca W Δ o co) (ha : DA X fa ca W Δ [e] (.cons ce .nil))
    (hbase : attributeBase o "append" X.env (eval o X.env) = eval o X.env)
    (hfew : ((backTo cpos (starEach [e] X.env)).all (fun x => !x.1) && (backToKw cpos (keywordEach [] X.env)).all (fun x => x.1.isSome)
      && decide ([e].length + ([] : List Keyword).length + (if ([] : List Keyword).isEmpty then 0 else 1) < 30)) = true)
    (hline : (apos.endLine == cpos.line) = true) (hs : starEach [e] X.env = (false, eval e X.env) :: starEach [] X.env) :
    DS X fa ca W Δ fu (.Expr (.Call (.Attribute o "append" apos) [e] [] cpos) pos) (.app co ce) := by
  refine PS.imp (ps_expr (pe_bm (T := "list") (id := "list.append") PySem.F.plainAttrs_list PySem.F.slot_list_append PySem.F.type_list_append mt_append ho ha hbase hfew hline hs rfl) rfl) fun D σ H ⟨hid, w, st, ρ, g, s, p⟩ => ?_
  simp only [ex] at p
  refine ⟨hid, w, st, ρ, g, s, (PostS.to (rel := relV X.K fa) s p).mono fun x H1 ⟨d1, w1, st1, e1, g1, r1, _, p1⟩ => ?_⟩
  have s1 := e1.slots s
  split at p1
  · rename_i hL
    have p1' : PostS X.K fa ca W hid w1 st1 H1 ((evs Δ (.cons ce .nil) ρ st1).to ρ fun ds st => match ds with
      | [z] => (match appD st d1 z with
        | some st' => nx ρ st'
        | none => .bad)
      | _ => .bad) D := by
      simp only [evs]
      revert p1
      generalize ev Δ ce ρ st1 = r2
      intro p1
      cases r2 with
      | ok d s => exact p1
      | ex e s => exact p1
      | bad => exact p1
    have ty : tyV X.K "list" x H1 := by
      unfold isLst at hL
      split at hL
      · rename_i n
        split at hL
        · rename_i ds ec
          obtain ⟨a, ea, vs, h1, h2⟩ := g1.cell ec
          cases r1 with
          | ref hw => rw [ea] at hw; cases hw; exact list_ty h1
        · cases hL
      · cases hL
    refine ⟨ty, hid, w1, st1, ρ, g1, s1, (PostS.to (rel := relA X.K fa) s1 p1').mono fun xs H2 ⟨ds, w2, st2, e2, g2, r2, _, p2⟩ => ?_⟩
    split at p2
    · rename_i z _
      obtain ⟨vz, rfl, rz⟩ := one_rvs r2
      split at p2
      · rename_i st' es
        unfold appD at es
        split at es
        · rename_i n
          split at es
          · rename_i ds2 ec
            split at es
            · rename_i hl
              cases es
              obtain ⟨a, ea, vs, h1, h2⟩ := g2.cell ec
              cases e2.rv r1 with
              | ref hw =>
                rw [ea] at hw; cases hw
                have x4 := Ext.write (o := .lst (vs ++ [vz])) (c' := .lst (ds2 ++ [z])) g2 ea ec trivial trivial
                refine ⟨a, vs, vz, rfl, rfl, h1, by rw [h2.length, sizeLine_eq]; exact hl, ?_⟩
                exact (p2.base x4).here (g2.write ea ec trivial trivial ⟨_, upd_same, h2.append (.cons rz .nil)⟩) ((e2.trans x4).slots s1)
            · cases es
          · cases es
        · cases es
      · exact p2.elim
    · exact p2.elim
  · exact p1.elim
theorem ds_whl {t : Expr} {body : List Stmt} {ct : T} {cb : Ss} (hp : PassesOwn (model X.prog X.w) X.A X.env X.xe) (ht : DT X fa ca W Δ t ct) (hb : DSs X fa ca W Δ fu body cb) : DS X fa ca W Δ fu (.While t body [] pos) (.whl ct cb) := PS.imp (ps_while hp ht hb) fun D σ H ⟨hid, w, st, ρ, g, s, p⟩ => by
  simp only [ex] at p
  refine ⟨fun m σ H => ∃ w st ρ, Good X.K fa ca hid w st H ∧ Slots X.K fa w (FZ hid w st H) ρ σ ∧ PostS X.K fa ca W hid w st H (whlLoop (evT Δ ct) (exs Δ fu cb) m ρ st) D, ⟨fu, w, st, ρ, g, s, p⟩, ?_⟩
  rintro m σ1 H1 ⟨w1, st1, ρ1, g1, s1, p1⟩
  cases m with
  | zero => exact p1.elim
  | succ m =>
    unfold whlLoop at p1
    refine ⟨hid, w1, st1, ρ1, g1, s1, (PostS.to (rel := relB) s1 p1).mono fun b H2 ⟨d, w2, st2, e2, g2, r2, _, p2⟩ => ?_⟩
    cases (show b = d from r2)
    cases b with
    | false =>
      rw [if_neg Bool.false_ne_true] at p2 ⊢
      exact p2.here g2 (e2.slots s1)
    | true =>
      rw [if_pos rfl] at p2 ⊢
      refine ⟨fun σ' H' => ∃ w' st' ρ', Good X.K fa ca hid w' st' H' ∧ Slots X.K fa w' (FZ hid w' st' H') ρ' σ' ∧ PostS X.K fa ca W hid w' st' H' (whlLoop (evT Δ ct) (exs Δ fu cb) m ρ' st') D, fun σ' H' h => ⟨m, Nat.lt_succ_self _, h⟩, hid, w2, st2, ρ1, g2, e2.slots s1, ?_⟩
      generalize exs Δ fu cb ρ1 st2 = r at p2
      cases r with
      | bad => exact p2
      | go f ρ' s' =>
        cases f with
        | nx => exact fun σ' w3 H3 y g3 r3 => ⟨w3, s', ρ', g3, r3, p2.base y⟩
        | ct => exact fun σ' w3 H3 y g3 r3 => ⟨w3, s', ρ', g3, r3, p2.base y⟩
        | bk => exact p2
        | rt d => exact p2
        | xc e => exact p2
theorem ds_for {tg iter : Expr} {body : List Stmt} {ct : Tg} {ci : It} {cb : Ss} (hp : PassesOwn (model X.prog X.w) X.A X.env X.xe) (hc : X.calm = true) (hi : DI X fa ca W Δ tg iter ci) (hg : DG X fa ca tg ct) (hb : DSs X fa ca W Δ fu body cb)
    (hs : ∀ x, foldedSetIterable iter X.env x = pure x) : DS X fa ca W Δ fu (.For tg iter body [] pos) (.for ct ci cb) := PS.imp (ps_for hp hc hi hg hb hs) fun D σ H ⟨hid, w, st, ρ, g, s, p⟩ => by
  simp only [ex] at p
  refine ⟨hid, w, st, ρ, g, s, (PostS.to (rel := relI X.K fa ca) s p).mono fun J H1 ⟨ds, w1, st1, e1, g1, it, _, p1⟩ => ?_⟩
  let f : Ev.D → EnvD → Store → RS := fun d ρ st => bindT ct st d ρ (exs Δ fu cb)
  let Wf : Nat → Nat → L2.St → Hp → Prop := fun i m σ2 H2 => m + i = ds.length ∧ ∃ w' st' ρ', Good X.K fa ca hid w' st' H2 ∧ Ext hid w1 st1 H1 w' st' H2 ∧ Slots X.K fa w' (FZ hid w' st' H2) ρ' σ2 ∧ PostS X.K fa ca W hid w' st' H2 (forLoop f (ds.drop i) ρ' st') D
  refine ⟨Wf, ⟨ds.length, by simp, w1, st1, ρ, g1, Ext.refl, e1.slots s, by rw [List.drop_zero]; exact p1⟩, ?_⟩
  rintro i m σ2 H2 ⟨hm, w', st', ρ', g2, x2, s2, p2⟩
  obtain ⟨itm, its⟩ := it i hid w' st' H2 g2 (fun _ _ z => pre_get x2.pre z) x2.le
  by_cases hlt : i < ds.length
  · refine .inr ?_
    have hd : ds[i]? = some ds[i] := List.getElem?_eq_getElem hlt
    obtain ⟨hgo, hy⟩ := itm _ hd
    refine ⟨hgo, Wf (i + 1) (m - 1), fun σ' H' z => ⟨m - 1, by omega, z⟩, fun x H3 y => ?_⟩
    obtain ⟨g3, e3, rx⟩ := hy x H3 y
    rw [List.drop_eq_getElem_cons hlt] at p2
    simp only [forLoop] at p2
    have p3 := p2.base e3
    have s3 := e3.slots s2
    have p3 : PostS X.K fa ca W hid w' st' H3 ((bindT ct st' ds[i] ρ' (exs Δ fu cb)).turn fun ρ st => forLoop f (ds.drop (i + 1)) ρ st) D := p3
    unfold bindT at p3
    cases ha : asg ct st' ds[i] ρ' with
    | none => rw [ha] at p3; exact p3.elim
    | some ρ2 =>
      rw [ha] at p3
      simp only at p3
      refine ⟨hid, w', st', ρ', ds[i], g3, s3, rx, ρ2, ha, fun σ4 s4 _ _ => ⟨hid, w', st', ρ2, g3, s4, ?_⟩⟩
      generalize exs Δ fu cb ρ2 st' = r at p3
      have again : ∀ {ρ5 st5}, PostS X.K fa ca W hid w' st' H3 (forLoop f (ds.drop (i + 1)) ρ5 st5) D → ∀ σ5 w5 H5, Ext hid w' st' H3 w5 st5 H5 → Good X.K fa ca hid w5 st5 H5 → Slots X.K fa w5 (FZ hid w5 st5 H5) ρ5 σ5 → Wf (i + 1) (m - 1) σ5 H5 :=
        fun {ρ5 st5} p5 σ5 w5 H5 y g5 r5 => ⟨by omega, w5, st5, ρ5, g5, (x2.trans e3).trans y, r5, p5.base y⟩
      cases r with
      | bad => exact p3
      | go fl ρ5 st5 =>
        cases fl with
        | nx => exact fun σ5 w5 H5 y g5 r5 => again p3 σ5 w5 H5 y g5 r5
        | ct => exact fun σ5 w5 H5 y g5 r5 => again p3 σ5 w5 H5 y g5 r5
        | bk => exact p3
        | rt d => exact p3
        | xc e => exact p3
  · refine .inl ⟨its (by omega), ?_⟩
    rw [List.drop_eq_nil_of_le (by omega)] at p2
    simp only [forLoop] at p2
    exact p2.here g2 s2
end
end Ev
set_option maxHeartbeats 1000000
namespace Ev
open PySem PySem.Spec PyProof.Rows L2
section
variable {K : PySem.W.Frag} {fa ca : Nat → Addr} {hid w w0 : List Addr} {st st0 : Store} {H H0 : Hp} {F G : Hp}
theorem RV.cut {n : Nat} (l : Le F G) : ∀ (j : Nat) {d : D} {v : V}, refsUnder n j d = true → RV K fa w F v d → RV K fa (w.take n) G v d := by
  intro j
  induction j with
  | zero =>
    intro d v h r
    cases r with
    | py q => exact .py (q.mono l)
    | scr q => exact .scr (l.sqL q)
    | fn => exact .fn
    | ref q =>
      simp only [refsUnder, decide_eq_true_eq] at h
      exact .ref (by rw [List.getElem?_take_of_lt h]; exact q)
    | tp _ _ => simp [refsUnder] at h
  | succ j ih =>
    intro d v h r
    cases r with
    | py q => exact .py (q.mono l)
    | scr q => exact .scr (l.sqL q)
    | fn => exact .fn
    | ref q =>
      simp only [refsUnder, decide_eq_true_eq] at h
      exact .ref (by rw [List.getElem?_take_of_lt h]; exact q)
    | tp h1 h2 =>
      simp only [refsUnder, List.all_eq_true] at h
      refine .tp (l _ _ h1) ?_
      have go : ∀ {vs : List V} {ds : List D}, RVs K fa w F vs ds → (∀ x ∈ ds, refsUnder n j x = true) → RVs K fa (w.take n) G vs ds := by
        intro vs
        induction vs with
        | nil => intro ds r _; cases r; exact .nil
        | cons a vs ih2 =>
          intro ds r h
          cases r with
          | cons r1 r2 => exact .cons (ih (h _ List.mem_cons_self) r1) (ih2 r2 fun x hx => h x (List.mem_cons_of_mem _ hx))
      exact go h2 h
theorem RVs.cut {n j : Nat} (l : Le F G) : ∀ {vs : List V} {ds : List D}, (∀ x ∈ ds, refsUnder n j x = true) → RVs K fa w F vs ds → RVs K fa (w.take n) G vs ds
  | _, _, _, .nil => .nil
  | _, _, h, .cons r1 r2 => .cons (RV.cut l j (h _ List.mem_cons_self) r1) (RVs.cut l (fun x hx => h x (List.mem_cons_of_mem _ hx)) r2)
theorem CellOk.cut {n : Nat} {a : Addr} {c : Cell} (l : Le F G) (h : cellUnder n c = true) (ok : CellOk K fa ca w F H a c) : CellOk K fa ca (w.take n) G H a c := by
  cases c with
  | lst ds =>
    obtain ⟨vs, h1, h2⟩ := ok
    simp only [cellUnder, List.all_eq_true] at h
    exact ⟨vs, h1, h2.cut l h⟩
  | dct kvs =>
    obtain ⟨kv, h1, h2⟩ := ok
    simp only [cellUnder, List.all_eq_true] at h
    refine ⟨kv, h1, ?_⟩
    have go : ∀ {ps : List (List Key × V)} {qs : List (List Int × D)}, Paired (fun (p : List Key × V) (q : List Int × D) => p.1 = q.1.map Sum.inl ∧ RV K fa w F p.2 q.2) ps qs → (∀ x ∈ qs, refsUnder n 3 x.2 = true) →
        Paired (fun (p : List Key × V) (q : List Int × D) => p.1 = q.1.map Sum.inl ∧ RV K fa (w.take n) G p.2 q.2) ps qs := by
      intro ps
      induction ps with
      | nil => intro qs r _; cases r; exact .nil
      | cons p ps ih =>
        intro qs r h
        cases r with
        | cons r1 r2 => exact .cons ⟨r1.1, RV.cut l 3 (h _ List.mem_cons_self) r1.2⟩ (ih r2 fun x hx => h x (List.mem_cons_of_mem _ hx))
    exact go h2 h
  | ins C fs =>
    obtain ⟨dx, fv, h1, h2⟩ := ok
    simp only [cellUnder, List.all_eq_true] at h
    refine ⟨dx, fv, h1, ?_⟩
    have go : ∀ {ps : List (Str × V)} {qs : List (Str × D)}, Paired (fun (p : Str × V) (q : Str × D) => p.1 = q.1 ∧ RV K fa w F p.2 q.2) ps qs → (∀ x ∈ qs, refsUnder n 3 x.2 = true) →
        Paired (fun (p : Str × V) (q : Str × D) => p.1 = q.1 ∧ RV K fa (w.take n) G p.2 q.2) ps qs := by
      intro ps
      induction ps with
      | nil => intro qs r _; cases r; exact .nil
      | cons p ps ih =>
        intro qs r h
        cases r with
        | cons r1 r2 => exact .cons ⟨r1.1, RV.cut l 3 (h _ List.mem_cons_self) r1.2⟩ (ih r2 fun x hx => h x (List.mem_cons_of_mem _ hx))
    exact go h2 h
  | frz d => exact Dq.mono l ok
theorem FZ.cut {n : Nat} : Le (FZ hid w st H) (FZ hid (w.take n) (st.take n) H) := fun a o e => by
  obtain ⟨h1, h2, h3⟩ := FZ.at.mp e
  refine FZ.at.mpr ⟨?_, h2, h3⟩
  rintro ⟨m, c, e1, e2, e3⟩
  refine h1 ⟨m, c, ?_, ?_, e3⟩
  · rw [List.getElem?_take] at e1
    split at e1
    · exact e1
    · cases e1
  · rw [List.getElem?_take] at e2
    split at e2
    · exact e2
    · cases e2
theorem Good.cut {n : Nat} (g : Good K fa ca hid w st H) (h : (st.take n).all (cellUnder n) = true) : Good K fa ca hid (w.take n) (st.take n) H := by
  refine ⟨by rw [List.length_take, List.length_take, g.len], g.nd.sublist (List.take_sublist _ _), fun a ha => g.trk a (List.mem_of_mem_take ha), fun a ha => ⟨fun z => (g.asd a ha).1 (List.mem_of_mem_take z), (g.asd a ha).2⟩, fun m a c e1 e2 => ?_⟩
  rw [List.all_eq_true] at h
  have hc := h c (List.mem_of_getElem? e2)
  rw [List.getElem?_take] at e1 e2
  split at e1
  · rename_i hm
    rw [if_pos hm] at e2
    exact (g.cells m a c e1 e2).cut FZ.cut hc
  · cases e1
theorem Ext.cut {n : Nat} (x : Ext hid w0 st0 H0 w st H) (hn : w0.length ≤ n) : Ext hid w0 st0 H0 (w.take n) (st.take n) H := by
  refine ⟨?_, x.le.trans FZ.cut, x.asd⟩
  have h := x.pre
  rw [List.prefix_take_iff]
  exact ⟨h, hn⟩
/-- behind a call -/
theorem trim_ok {d : D} {x : V} (g0 : Good K fa ca hid w0 st0 H0) (e : Ext hid w0 st0 H0 w st H) (g : Good K fa ca hid w st H) (r : RV K fa w (FZ hid w st H) x d) :
    ∃ w', Ext hid w0 st0 H0 w' (trim st0.length d st) H ∧ Good K fa ca hid w' (trim st0.length d st) H ∧ RV K fa w' (FZ hid w' (trim st0.length d st) H) x d := by
  unfold trim
  split
  · rename_i h
    rw [Bool.and_eq_true] at h
    exact ⟨w.take st0.length, e.cut (by rw [g0.len]; exact Nat.le_refl _), g.cut h.2, RV.cut FZ.cut 3 h.1 r⟩
  · exact ⟨w, e, g, r⟩
end
structure RoomG (k : Nat) (A : Around) : Prop where
  r : Room k A
  g : A.guards = some []
structure FnG (P : Program) (w : World) (K : PySem.W.Frag) (mg : Str → Option Value) (base : Heap) (k : Nat) (f : Addr) (fd : FuncData) (ps : List Str) (sp : Sp) : Prop where
  len : ∀ vs H Q E, sp vs H Q E → vs.length = ps.length
  run : ∀ (A : Around) (outer : List Env) (s : Shared) (H : Hp) (args : Args) (us : List Value) (vs : List V) (Q : VK) (E : XK), RoomG k A → Env0 P w K mg base A outer s H → BindsTo s fd args (ps.zip us) → Vals vs us → sp vs H Q E →
    codeAny (model P w) A (.call (.ref f) args) (CR (L2.CX P w) outer P w H s Q E) s
theorem RoomG.mono {j k : Nat} {A : Around} (r : RoomG k A) (h : j ≤ k) : RoomG j A := ⟨r.r.mono h, r.g⟩
theorem FnG.mono {P : Program} {w : World} {K : PySem.W.Frag} {mg : Str → Option Value} {base : Heap} {j k : Nat} {f : Addr} {fd : FuncData} {ps : List Str} {sp : Sp} (F : FnG P w K mg base j f fd ps sp) (h : j ≤ k) : FnG P w K mg base k f fd ps sp :=
  ⟨F.len, fun A outer s H args us vs Q E hr => F.run A outer s H args us vs Q E (hr.mono h)⟩
/-- a def by its body -/
theorem fnG_of {P : Program} {w : World} {K : PySem.W.Frag} {mg : Str → Option Value} {base : Heap} {k : Nat} {f : Addr} {x qual : Str} {params : Arguments} {body : List Stmt} {scope : Scope} {dvs : List V} {kws : List (Str × V)} {fd : FuncData}
    {N ps : List Str} {sp : Sp} (F : FunD K x qual params body scope dvs kws f fd) (S : FnScope N ps scope) (len : ∀ vs H Q E, sp vs H Q E → vs.length = ps.length)
    (hbody : ∀ (cdv : Value) (A : Around) (outer : List Env) (s : Shared) (H : Hp) (vs : List V) (Q : VK) (E : XK), RoomG k (A.deeper (envOfC qual scope s.heap.objs.size f cdv)) → sp vs H Q E →
      ∃ t, PSs (cxOf (L2.CX P w) P w K mg base N qual scope f cdv A outer s H E) body t ∧ t { nx := fun _ H' => Q .non H', rt := Q } (L2.start N vs) H) :
    FnG P w K mg base (k + 1) f fd ps sp := by
  obtain ⟨oc, od, dV, kV, doc, pm, an, cdv, ct, osl, rfl, lk, hcd, _, _⟩ := F.ex
  refine ⟨len, fun A outer s H args us vs Q E hr e0 hb r hsp => ?_⟩
  have hl := len _ _ _ _ hsp
  have KX : K.In s.heap := e0.mod.kin.keeps fun b o e => (e0.bs b o e).1
  have lim : s.heap.NoLimit := e0.mod.nolimit.keeps fun b o e => (e0.bs b o e).1
  refine codeAny_call_function hr.r.depth (KX _ _ lk) rfl S.co S.gen rfl (PySem.W.codeRec_of KX hcd) (hb _ _ _ _ ?_)
  refine wpAny_newFunctionEnv_cells S.kind (fun ⟨n, v⟩ hy => ?_) fun env he s1 x => ?_
  · rcases S.par n (List.of_mem_zip hy).1 with q | q
    · exact .inl q
    · exact .inr ⟨q, PySem.W.cellsFrom_some _ _ _ (.inl q)⟩
  subst he
  refine ⟨lim.keeps x.toInCall.keep, codeAny_func ?_⟩
  obtain ⟨t, ht, hq⟩ := hbody cdv A outer s H vs Q E ⟨hr.r.deeper _, hr.g⟩ hsp
  have I := inv_start (CX := L2.CX P w) (P := P) (w := w) (E := E) (cd := cdv) (f := f) (qual := qual) S hr.r.hd e0 hl r x
  refine wpAny_mono (ht.run [] s1 (L2.start N vs) H _ I hq) (fun fl s' hs => ?_) fun e s' hs => hs
  cases fl with
  | ret u =>
    obtain ⟨v, σ', H', J, rv, q⟩ := hs
    exact ⟨v, H', J.os, J.bare, J.base, J.hok, rv, q⟩
  | next =>
    obtain ⟨σ', H', J, q⟩ := hs
    exact ⟨.non, H', J.os, J.bare, J.base, J.hok, rfl, q⟩
  | brk => exact (show False from let ⟨_, _, _, q⟩ := hs; q).elim
  | cont => exact (show False from let ⟨_, _, _, q⟩ := hs; q).elim
section
variable {X : Cx} {k : Nat} {f C : Addr} {fd : FuncData} {ps : List Str} {sp : Sp} {dvs : List V} {ds : List Value} {E : L2.St → XK} {x : Str} {p pos : Pos} {e : Expr} {es : List Expr} {t : TA}
theorem run_fnG {pins : List (Addr × Obj)} {σ : L2.St} {H : Hp} {s : Shared} {Q : VK} {us : List Value} {vs : List V} (F : FnG X.prog X.w X.K X.mg X.base k f fd ps sp) (hr : RoomG k X.A) (hb : Binds X.K fd ps ds) (hd : Vals dvs ds) (hx : PassesAt (L2.CX X.prog X.w) X σ (E σ))
    (I : Inv X pins σ H s) (r : Vals vs us) (h : sp (vs ++ dvs) H Q (E σ)) : wpAny (model X.prog X.w) X.A (call (.ref f) us) (EP X pins σ Q) X.xe s := by
  have r2 := r.append hd
  have hl : (us ++ ds).length = ps.length := r2.length.symm.trans (F.len _ _ _ _ h)
  refine wpAny_call (codeAny_mono (F.run X.A X.stack s H ⟨us, []⟩ (us ++ ds) (vs ++ dvs) Q (E σ) hr I.env0 (hb s us I.kIn hl) r2 h) fun r s' hq => ?_)
  cases r with
  | error e => exact hx pins H s e s' I hq
  | ok fl =>
    cases fl with
    | ret u => exact I.after hq
    | next => exact hq.elim
    | brk => exact hq.elim
    | cont => exact hq.elim
theorem pe_callG (F : FnG X.prog X.w X.K X.mg X.base k f fd ps sp) (hr : RoomG k X.A) (hg : Gl X x) (hm : X.mg x = some (.ref f)) (hk : PySem.W.keepIn X.K (.ref f) = true) (hb : Binds X.K fd ps ds) (hd : Vals dvs ds) (hx : ∀ σ, PassesAt (L2.CX X.prog X.w) X σ (E σ))
    (ha : PA X (e :: es) t) (hdb : (x == ("__debug__" : Str)) = false) (he : starEach (e :: es) X.env = (false, eval e X.env) :: starEach es X.env) (hpl : (backTo pos (starEach es X.env)).any (·.1) = false) :
    PE X (.Call (.Name x p) (e :: es) [] pos) (tCallSD sp dvs E t) := by
  refine ⟨fun pins s σ H Q I h => ?_⟩
  refine wpAny_Call_Name_kw (ld_glob I hg hm ?_ hdb)
  exact PySem.W.callWith_K (h₀ := X.base) I.ok.mod.kin hk (thn (ha.run pos pins s σ H _ I h) fun us s1 ⟨vs, H1, I1, r, q⟩ => ⟨I1.kIn, run_fnG F hr hb hd (hx σ) I1 r q⟩) he hpl
theorem pe_callG0 (F : FnG X.prog X.w X.K X.mg X.base k f fd ps sp) (hr : RoomG k X.A) (hg : Gl X x) (hm : X.mg x = some (.ref f)) (hk : PySem.W.keepIn X.K (.ref f) = true) (hb : Binds X.K fd ps ds) (hd : Vals dvs ds) (hx : ∀ σ, PassesAt (L2.CX X.prog X.w) X σ (E σ))
    (hdb : (x == ("__debug__" : Str)) = false) : PE X (.Call (.Name x p) [] [] pos) (tCallSD sp dvs E tNil) := by
  refine ⟨fun pins s σ H Q I h => ?_⟩
  refine wpAny_Call_Name_kw (ld_glob I hg hm ?_ hdb)
  exact PySem.W.callWith_K0 I.kIn hk (run_fnG (us := []) F hr hb hd (hx σ) I .nil h)
end
section
variable {X : Cx} {fa ca : Nat → Addr} {W : WX} {Δ : Dn}
theorem de_callG {k f ar : Nat} {x : Str} {fd : FuncData} {ps : List Str} {e : Expr} {es : List Expr} {ee : Es} {pp pos : Pos} (F : FnG X.prog X.w X.K X.mg X.base k (fa f) fd ps (spF X.K fa ca Δ f ar)) (hr : RoomG k X.A) (hg : Gl X x) (hm : X.mg x = some (.ref (fa f)))
    (hk : PySem.W.keepIn X.K (.ref (fa f)) = true) (hb : Binds X.K fd ps []) (tk : Takes X W) (hl : ee.len = ar) (hdb : (x == ("__debug__" : Str)) = false) (ha : DA X fa ca W Δ (e :: es) ee)
    (he : starEach (e :: es) X.env = (false, eval e X.env) :: starEach es X.env) (hpl : (backTo pos (starEach es X.env)).any (·.1) = false) : DE X fa ca W Δ (.Call (.Name x pp) (e :: es) [] pos) (.call f ee) := by
  refine PE.imp (pe_callG (dvs := []) F hr hg hm hk hb .nil (passAt tk) ha hdb he hpl) fun σ H Q ⟨hid, w, st, ρ, g0, s0, p⟩ => ?_
  simp only [ev] at p
  refine ⟨hid, w, st, ρ, g0, s0, (PostG.bind (rel := relA X.K fa) p).mono fun xs H1 ⟨ds, w1, st1, e1, g1, r1, e2, p1⟩ => ?_⟩
  refine ⟨hid, w1, st1, ds, g1, by rw [List.append_nil]; exact r1, ?_, p1⟩
  rw [evs_len ee e2, hl]
end
/-- the promise of a def by its body -/
theorem spF_body {K : PySem.W.Frag} {fa ca : Nat → Addr} {Δ Δ' : Dn} {fu f ar : Nat} {b : Ss} {N : List Str} {vs : List V} {H : Hp} {Q : VK} {E : XK} (hl : ar ≤ N.length) (hΔ : ∀ ds st, Δ' f ds st = runFn Δ fu ar N.length b ds st) (h : spF K fa ca Δ' f ar vs H Q E) :
    tS K fa ca (fun c d _ H' => E c d H') (exs Δ fu b) { nx := fun _ H' => Q .non H', rt := Q } (L2.start N vs) H := by
  obtain ⟨hid, w, st, ds, g, rs, hlen, p⟩ := h
  rw [hΔ] at p
  unfold runFn at p
  rw [if_pos hlen] at p
  refine ⟨hid, w, st, ds.map some ++ List.replicate (N.length - ar) none, g, ⟨?_, fun i d e => ?_⟩, ?_⟩
  · unfold L2.start
    rw [List.length_append, List.length_append, List.length_map, List.length_map, List.length_replicate, List.length_replicate, rs.length, hlen]
  · by_cases hi : i < ds.length
    · rw [List.getElem?_append_left (by simpa using hi), List.getElem?_map] at e
      cases ed : ds[i]? with
      | none => rw [ed] at e; cases e
      | some d' =>
        rw [ed] at e; cases e
        obtain ⟨v, e1, r⟩ := rs.get ed
        refine ⟨v, ?_, r⟩
        unfold L2.start
        have hv := (List.getElem?_eq_some_iff.mp e1).1
        rw [List.getElem?_append_left (by simpa using hv), List.getElem?_map, e1]
        rfl
    · rw [List.getElem?_append_right (by simpa using hi), List.getElem?_replicate] at e
      split at e <;> cases e
  · generalize exs Δ fu b (ds.map some ++ List.replicate (N.length - ar) none) st = r at p
    cases r with
    | bad => exact p
    | go fl ρ' st' =>
      cases fl with
      | rt d =>
        intro σ' w' H' x' g' s' v rv
        obtain ⟨w2, e2, g2, r2⟩ := trim_ok g x' g' rv
        exact p v w2 H' e2 g2 r2
      | nx =>
        intro σ' w' H' x' g' s'
        obtain ⟨w2, e2, g2, r2⟩ := trim_ok (d := .py .none) (x := .non) g x' g' (.py .non)
        exact p .non w2 H' e2 g2 r2
      | bk => exact p.elim
      | ct => exact p.elim
      | xc e =>
        intro σ' w' H' x' g' s' cls dd rx
        obtain ⟨w2, e2, g2, r2⟩ := trim_ok (d := .py .none) (x := .non) g x' g' (.py .non)
        exact p cls dd w2 H' e2 g2 rx
end Ev
set_option maxHeartbeats 1000000
namespace Ev
open PySem PySem.Spec PyProof.Rows L2
def rShow (K : PySem.W.Frag) : List V → Hp → VK → Prop := fun vs H Q => ∃ x d, vs = [x] ∧ Dp K H x d ∧ okShow d = true ∧ Q (.str d.shown) H
section
variable {X : Cx} {fa ca : Nat → Addr} {W : WX} {Δ : Dn}
theorem okShow_ok {p : PD} (h : okShow p = true) : SeqAt.shaped p = true ∧ p.showable = true ∧ p.shown.length ≤ sizeLine := by
  unfold okShow at h
  rw [Bool.and_eq_true, Bool.and_eq_true, decide_eq_true_eq] at h
  exact ⟨h.1, h.2.1, by rw [sizeLine_eq]; exact h.2.2⟩
theorem call_show (hg : X.A.guards = some []) (hu : X.A.units + 80 < cLine) : CallR X (.builtin "repr") (rShow X.K) := by
  intro pins s σ H xs us Q I r h
  obtain ⟨x, d, rfl, hd, ok, q⟩ := h
  obtain ⟨sh, sw, sz⟩ := okShow_ok ok
  obtain ⟨u, rfl, rx⟩ := vals1 r
  have h1 := SeqAt.depth_of_shaped sh
  have nd := PyData.hasDict_of_canLay d (SeqAt.canLay_of_shaped sh)
  have go : ∀ a, u = .ref a → wpAny (model X.prog X.w) X.A (call (.builtin "repr") [u]) (EP X pins σ Q) X.xe s := fun a e => by
    subst e
    obtain ⟨as, r1⟩ := Dp.reads I d x _ hd rx
    exact repr_of_reads' (h₀ := s.heap) r1 sw (PyData.noDict_hsm nd) hg (by omega) (fun _ _ e => e) (fun h' u tk hk => ⟨.str d.shown, H, I.kept hk, ⟨u, rfl⟩, q⟩) sz
  cases hd with
  | non => cases rx; exact P.repr_of_none ⟨.str _, H, I.tok _, ⟨_, rfl⟩, q⟩
  | bl b => cases rx; exact P.repr_of_bool ⟨.str _, H, I.tok _, ⟨_, by cases b <;> rfl⟩, q⟩
  | int i =>
    obtain ⟨t, rfl⟩ := rx
    exact P.repr_of_int (by simpa [PyData.showable] using sw) ⟨.str _, H, I.tok _, ⟨_, rfl⟩, q⟩
  | str y =>
    obtain ⟨t, rfl⟩ := rx
    exact P.repr_of_str ⟨.str _, H, I.tok _, ⟨_, rfl⟩, q⟩ sz
  | lst _ _ => cases rx; exact go _ rfl
  | tup _ _ => cases rx; exact go _ rfl
theorem shw_ok {K : PySem.W.Frag} {hid w : List Addr} {st : Store} {H : Hp} {v : V} {d : D} {p : PD} (g : Good K fa ca hid w st H) (r : RV K fa w (FZ hid w st H) v d) (h : shw st d = some p) : Dp K H v p ∧ okShow p = true := by
  unfold shw at h
  obtain ⟨q, h1, h2⟩ := Option.bind_eq_some_iff.mp h
  split at h2
  · rename_i c
    cases h2
    exact ⟨val_ok g r h1, c⟩
  · cases h2
theorem de_same {a b : Expr} {ea eb : E} {p1 p2 q1 q2 pos : Pos} (hG : X.A.guards = some []) (hu : X.A.units + 80 < cLine) (hg : Gl X "repr") (hm : X.mg "repr" = none) (ha : DE X fa ca W Δ a ea) (hb : DE X fa ca W Δ b eb)
    (sa : starEach [a] X.env = (false, eval a X.env) :: starEach [] X.env) (sb : starEach [b] X.env = (false, eval b X.env) :: starEach [] X.env) :
    DE X fa ca W Δ (.Compare (.Call (.Name "repr" p1) [a] [] q1) [.Eq] [.Call (.Name "repr" p2) [b] [] q2] pos) (.same ea eb) := by
  have ra := pe_callB (p := p1) (pos := q1) (call_show hG hu) hg hm boot_repr (pa_cons ha pa_nil sa) (by decide) (by decide) sa rfl
  have rb := pe_callB (p := p2) (pos := q2) (call_show hG hu) hg hm boot_repr (pa_cons hb pa_nil sb) (by decide) (by decide) sb rfl
  refine PE.imp (pe_cmpR (pos := pos) op_eq ra rb (nomark _)) fun σ H Q ⟨hid, w, st, ρ, g0, s0, p⟩ => ?_
  simp only [ev] at p
  refine ⟨hid, w, st, ρ, g0, s0, (PostG.bind (rel := relV X.K fa) p).mono fun x H1 ⟨d1, w1, st1, e1, g1, r1, _, p1⟩ => ?_⟩
  cases h1 : shw st1 d1 with
  | none => rw [h1] at p1; exact p1.elim
  | some P =>
    rw [h1] at p1
    simp only [Rs.of_some, Rs.bind_ok] at p1
    obtain ⟨k1, k2⟩ := shw_ok g1 r1 h1
    refine ⟨x, P, rfl, k1, k2, hid, w1, st1, ρ, g1, e1.slots s0, (PostG.bind (rel := relV X.K fa) p1).mono fun y H2 ⟨d2, w2, st2, e2, g2, r2, _, p2⟩ => ?_⟩
    cases h2 : shw st2 d2 with
    | none => rw [h2] at p2; exact p2.elim
    | some R =>
      rw [h2] at p2
      simp only [Rs.of_some, Rs.bind_ok] at p2
      obtain ⟨k3, k4⟩ := shw_ok g2 r2 h2
      refine ⟨y, R, rfl, k3, k4, rfl, ?_⟩
      obtain ⟨z, e3, p3⟩ := p2.of
      unfold sameP at e3
      split at e3
      · rename_i e4
        cases e3
        subst e4
        rw [decide_eq_true rfl]
        exact p3.here g2 (.py (.bl true))
      · cases e3
theorem rgV_ints (n : Int) : rgV 0 n = ((List.range n.toNat).map fun (i : Nat) => (i : Int)).map V.int := by
  unfold rgV
  rw [List.map_map, Int.sub_zero]
  refine List.map_congr_left fun i _ => ?_
  simp
theorem dq_ints (F : Hp) : ∀ l : List Int, DqAll F (l.map V.int) (l.map .int)
  | [] => .nil
  | i :: l => .cons (.int i) (dq_ints F l)
theorem de_trng {a : Expr} {ea : E} {p1 p2 q pos : Pos} (hc : X.calm = true) (hg : Gl X "tuple") (hm : X.mg "tuple" = none) (hg2 : Gl X "range") (hm2 : X.mg "range" = none) (ha : DE X fa ca W Δ a ea) (sa : starEach [a] X.env = (false, eval a X.env) :: starEach [] X.env) :
    DE X fa ca W Δ (.Call (.Name "tuple" p1) [.Call (.Name "range" p2) [a] [] q] [] pos) (.trng ea) := by
  refine PE.imp (pe_tupRg hc hg hm (prg_1 hg2 hm2 ha sa)) fun σ H Q ⟨hid, w, st, ρ, g0, s0, p⟩ => ?_
  simp only [ev] at p
  refine ⟨hid, w, st, ρ, g0, s0, (PostG.bind (rel := relV X.K fa) p).mono fun x H1 ⟨d1, w1, st1, e1, g1, r1, _, p1⟩ => ?_⟩
  split at p1
  · rename_i j _
    split at p1
    · rename_i hj
      rw [Bool.and_eq_true, decide_eq_true_eq, decide_eq_true_eq] at hj
      cases int_rv r1
      refine ⟨j, rfl, ⟨by omega, by omega, by omega, by omega, by omega⟩, fun l hl => ?_⟩
      refine p1.new g1 hl (.py (.tup (FZ.new g1 hl) ?_))
      rw [rgV_ints]
      have := dq_ints (FZ hid w1 st1 (upd H1 l (.tup (((List.range j.toNat).map fun (i : Nat) => (i : Int)).map V.int)))) ((List.range j.toNat).map fun (i : Nat) => (i : Int))
      rw [List.map_map (f := fun (i : Nat) => (i : Int)) (g := PyData.int)] at this
      exact this
    · exact p1.elim
  · exact p1.elim
end
theorem FnG.some {P : Program} {w : World} {K : PySem.W.Frag} {mg : Str → Option Value} {base : Heap} {k : Nat} {f : Addr} {fd : FuncData} {ps : List Str} {sp : Nat → Sp} (F : ∀ fu, FnG P w K mg base k f fd ps (sp fu)) : FnG P w K mg base k f fd ps (fun vs H Q E => ∃ fu, sp fu vs H Q E) :=
  ⟨fun vs H Q E ⟨fu, h⟩ => (F fu).len vs H Q E h, fun A outer s H args us vs Q E hr e hb hv ⟨fu, h⟩ => (F fu).run A outer s H args us vs Q E hr e hb hv h⟩
theorem call_top {P : Program} {w : World} {K : PySem.W.Frag} {mg mb : Str → Option Value} {k : Nat} {fa a : Addr} {fd : FuncData} {x : Str} {sp : Sp} {s : Shared} {vs : List Value} {ns : List Int} (KX : K.In s.heap) (hns : s.heap.Ns mainGlobals mg) (hb : s.heap.Ns builtinsNs mb)
    (hbb : ∀ x : Str, x ≠ "__name__" → mb x = bootBuiltins x) (hlim : s.heap.NoLimit) (hg : s.gens = #[]) (ha : s.heap.get? a = some { cls := .type "list", data := .seq vs.toArray }) (hi : IntsAre vs ns) (hl : ns.length ≤ sizeLine) (hr : RoomG k callerA)
    (F : ∀ base : Heap, K.In base → base.Ns mainGlobals mg → FnG P w K mg base k fa fd [x] sp) (hbind : ∀ (s : Shared) (u : Value), BindsTo s fd ⟨[u], []⟩ [(x, u)]) (hsp : ∀ H : Hp, Only H → SqL K H a (ns.map V.int) → sp [.ref a] H (fun v _ => v = .bl true) fun _ _ _ => False) :
    codeAny (model P w) callerA (.call (.ref fa) ⟨[.ref a], []⟩) (fun r s' => r = .ok (.ret (.bool true)) ∧ OldK s.heap s'.heap ∧ s'.os = s.os ∧ AllBare s'.gens) s := by
  have rv := vals_ints hi
  have key : ∀ H : Hp, Only H → SqL K H a (ns.map V.int) → HOk P w H s.heap → (∀ b, H b ≠ none → b = a ∧ K.lookup a = none) →
      codeAny (model P w) callerA (.call (.ref fa) ⟨[.ref a], []⟩) (fun r s' => r = .ok (.ret (.bool true)) ∧ OldK s.heap s'.heap ∧ s'.os = s.os ∧ AllBare s'.gens) s := fun H hO hS hok hA => by
    have free : ∀ {b : Addr} {o : Obj}, s.heap.get? b = some o → (o.cls ≠ .type "list" ∨ K.lookup b = some o) → H b = none := fun {b o} e z => by
      cases q : H b with
      | none => rfl
      | some u =>
        obtain ⟨rfl, n⟩ := hA b (by rw [q]; simp)
        rcases z with z | z
        · rw [ha] at e; cases e; exact absurd rfl z
        · rw [n] at z; cases z
    have nsB : ∀ {b : Addr} {m : Str → Option Value}, s.heap.Ns b m → (hidT s.heap H).Ns b m := fun {b m} ⟨o, es, ep, e, d, r⟩ => ⟨o, es, ep, hidT_get e (by
      cases q : H b with
      | none => rfl
      | some u =>
        obtain ⟨rfl, n⟩ := hA b (by rw [q]; simp)
        rw [ha] at e; cases e
        exact absurd (show Data.seq vs.toArray _ = Data.dict es ep from d) (fun z => by cases z)), d, r⟩
    have kB : K.In (hidT s.heap H) := fun b o e => hidT_get (KX b o e) (free (KX b o e) (.inr e))
    have e0 : Env0 P w K mg (hidT s.heap H) callerA [] s H := ⟨rfl, ⟨kB, nsB hns, ⟨mb, nsB hb, hbb⟩, let ⟨mc, h1, h2⟩ := hlim; ⟨mc, nsB h1, h2⟩⟩, fun b o e => of_hidT e, Nat.le_of_eq (hidT_size _ _), trivial, fun b hb => absurd (show b ∈ ([] : List Addr) from hb) (by simp), hok, .of_eq hg⟩
    refine codeAny_mono ((F _ kB (nsB hns)).run callerA [] s H ⟨[.ref a], []⟩ [.ref a] [.ref a] _ _ hr e0 (hbind s (.ref a)) (.cons rfl .nil) (hsp H hO hS)) fun r s' h => ?_
    cases r with
    | error e =>
      obtain ⟨_, _, _, _, _, _, _, _, _, _, _, _, z⟩ := (show L2.CX P w [] H s (fun _ _ _ => False) e s' from h)
      exact z.elim
    | ok fl =>
      cases fl with
      | ret u =>
        obtain ⟨v, H', os, bare, un, hok', r', q⟩ := h
        cases (show v = .bl true from q)
        cases (show u = Value.bool true from r')
        refine ⟨rfl, OldK.of_keep fun b o e => ?_, os, bare⟩
        rcases hO b with z | z
        · exact un.keep b o e z (by intro z; exact absurd (show b ∈ ([] : List Addr) from z) (by simp)) (by simp)
        · obtain ⟨o2, xs, z⟩ := z
          have e1 := (hok b _ z).1
          rw [e] at e1; cases e1
          exact (hok' b _ (un.frzs b _ _ z)).1
      | next => exact h.elim
      | brk => exact h.elim
      | cont => exact h.elim
  by_cases hk : K.lookup a = none
  · refine key (fun b => if b = a then some (.frz { cls := .type "list", data := .seq vs.toArray } (.lst (ns.map V.int))) else none) (fun b => ?_) (.inl (.inr ⟨_, if_pos rfl⟩)) (fun b u z => ?_) (fun b z => ?_)
    · by_cases hb : b = a
      · exact .inr ⟨_, _, if_pos hb⟩
      · exact .inl (if_neg hb)
    · by_cases hb : b = a
      · have z' := (if_pos hb).symm.trans z
        cases z'
        subst hb
        exact ⟨ha, by rw [List.length_map]; exact hl, vs, _, rv, ha⟩
      · have z' := (if_neg hb).symm.trans z
        cases z'
    · by_cases hb : b = a
      · exact ⟨hb, hk⟩
      · exact absurd (if_neg hb) z
  · obtain ⟨o, ho⟩ := Option.ne_none_iff_exists'.mp hk
    have e := KX a o ho
    rw [ha] at e
    cases e
    exact key (fun _ => none) (fun _ => .inl rfl) (.inr ⟨_, vs.toArray, _, ho, rfl, rfl, rfl, by rw [List.size_toArray, hi.length]; exact hl, by simpa using rv⟩) (fun b u z => by have z' : (none : Option HO) = Option.some u := z; cases z') fun b z => absurd rfl z
theorem walkG {l : PySem.W.OpenLaw} {n k : Nat} {q : Program} {loose : List Str} {XP : (Str → Option Value) → Heap → Prop} {YP : World → Heap → Prop} {d : DefRec} {x : Str} (hn : l.most = Option.some n) (hn2 : n ≤ sizeLine) (hdf : d.params.defaults = []) (hr : RoomG k callerA)
    (F : ∀ (w : World) (mg : Str → Option Value) (fa : Addr) (h : Heap), YP w h → h.Ns mainGlobals mg → mg d.name = Option.some (.ref fa) →
      ∃ (K : PySem.W.Frag) (fd : FuncData) (sp : Sp), K.In h ∧ (∀ (s : Shared) (u : Value), BindsTo s fd ⟨[u], []⟩ [(x, u)]) ∧
        (∀ (H : Hp) (a : Addr) (ns : List Int), ns.length ≤ n → Only H → SqL K H a (ns.map V.int) → sp [.ref a] H (fun v _ => v = .bl true) fun _ _ _ => False) ∧
        ∀ base : Heap, K.In base → base.Ns mainGlobals mg → FnG l.prog w K mg base k fa fd [x] sp) : PySem.W.WalkO q loose XP YP l.row.toRowW d [] (fun f vs => PySem.call f vs) := by
  refine Att.attach_call hn hdf fun w s₀ s₁ mg mb fa o pm cd doc a vs ns G Y ho hd hcd hmg hobj hints hlen hg => ?_
  obtain ⟨K, fd, sp, KX, hb, hsp, hF⟩ := F w mg fa _ Y G.T.g hmg
  exact call_top KX G.T.g G.T.b G.T.builtins G.T.nolimit hg hobj hints (Nat.le_trans hlen hn2) hr hF hb fun H hO hS => hsp H a ns hlen hO hS
/-- the script's promise -/
theorem spF_law {K : PySem.W.Frag} {fa ca : Nat → Addr} {Δ : Dn} {f : Nat} {H : Hp} {a : Addr} {ns : List Int} {st : Store} (hS : SqL K H a (ns.map V.int)) (h : Δ f [.scr ns] [] = .ok (.py (.bool true)) st) : spF K fa ca Δ f 1 [.ref a] H (fun v _ => v = .bl true) fun _ _ _ => False := by
  have e : FZ [] [] [] H = H := by
    funext b
    unfold FZ
    rw [if_neg]
    rintro (⟨n, c, h1, _⟩ | h1)
    · simp at h1
    · simp at h1
  refine ⟨[], [], [], [.scr ns], ⟨rfl, .nil, fun a h => by simp at h, fun a h => by simp at h, fun n a c h => by simp at h⟩, .cons (.scr (by rw [e]; exact hS)) .nil, rfl, ?_⟩
  rw [h]
  intro v w' H' _ _ r
  exact bl_rv r
end Ev
set_option maxHeartbeats 1000000
namespace Ev
open PySem PySem.Spec PyProof.Rows L2
def notStar : Expr → Bool
  | .Starred _ _ => false
  | _ => true
def notComp : Expr → Bool
  | .ListComp _ _ _ _ => false
  | .SetComp _ _ _ _ => false
  | .DictComp _ _ _ _ _ => false
  | _ => true
def notSet : Expr → Bool
  | .Set _ _ _ => false
  | _ => true
def notCall : Expr → Bool
  | .Call _ _ _ _ => false
  | _ => true
def notTup : Expr → Bool
  | .Tuple _ _ _ => false
  | _ => true
def notSlice : Expr → Bool
  | .Slice _ _ _ _ => false
  | _ => true
def plainTest : Expr → Bool
  | .UnaryOp _ _ _ => false
  | .BoolOp _ _ _ => false
  | .IfExp _ _ _ _ => false
  | .Compare _ _ _ _ => false
  | _ => true
theorem star_ok {e : Expr} (h : notStar e = true) (es : List Expr) (env : Env) : starEach (e :: es) env = (false, eval e env) :: starEach es env := by
  cases e <;> first | rfl | cases h
theorem stars_ok : ∀ {es : List Expr} {env : Env} {pos : Pos}, es.all notStar = true → (backTo pos (starEach es env)).any (·.1) = false
  | [], _, _, _ => rfl
  | e :: es, env, pos, h => by
    rw [List.all_cons, Bool.and_eq_true] at h
    rw [star_ok h.1]
    exact stars_ok (es := es) h.2
theorem asgEach_ok {e : Expr} (h : notStar e = true) (es : List Expr) (env : Env) : assignEach (e :: es) env = (false, assign e env) :: assignEach es env := by
  cases e <;> first | rfl | cases h
theorem swaps_ok {e : Expr} (h : notComp e = true) (t : Option Expr) (l : Nat) (env : Env) : swapsWith e t l env = pure false := by
  cases e <;> first | rfl | cases h
theorem fold_ok {e : Expr} (h : notSet e = true) (env : Env) (x : Value) : foldedSetIterable e env x = pure x := by
  cases e <;> first | rfl | cases h
theorem marks_ok {e : Expr} (h : notSet e = true) (op : CmpOp) : behindInMarks op e = false := by
  cases e <;> first | rfl | cases h
theorem base_ok {o : Expr} (h : notCall o = true) (a : Str) (env : Env) (wh : Sem Value) : attributeBase o a env wh = wh := by
  cases o <;> first | rfl | cases h
theorem ix_ok {e : Expr} (h : notSlice e = true) : PlainIx e := by
  intro o i
  cases e <;> first | rfl | cases h
theorem test_ok {e : Expr} (h : plainTest e = true) (env : Env) (whole : Sem Value) : isTrue e env whole = (do let v ← whole; standAt e.pos; holding [v] (truthy v)) := by
  cases e <;> first | rfl | cases h
theorem swapped_ok {tg e : Expr} (h : notTup e = true) (env : Env) : swappedStores [tg] e env = pure none := by
  cases tg <;> first | rfl | (cases e <;> first | rfl | cases h)
theorem swappedN_ok {x : Str} {p : Pos} {e : Expr} (env : Env) : swappedStores [.Name x p] e env = pure none := rfl
theorem swappedS_ok {o i : Expr} {p : Pos} {e : Expr} (env : Env) : swappedStores [.Subscript o i p] e env = pure none := rfl
structure MC where
  N : List Str
  names : List (Str × NameKind)
  blk : Option (List (Str × NameKind))
  fns : List (Str × Nat × Nat)
def visB (c : MC) (x : Str) : Bool := match c.names.lookup x with
  | some .local => true
  | some .cell => true
  | some .free => true
  | _ => false
def glB (c : MC) (x : Str) : Bool := match c.names.lookup x with
  | some .globalImplicit => true
  | _ => false
def locB (c : MC) (x : Str) : Bool := match c.names.lookup x with
  | some .local => true
  | _ => false
def fnB (c : MC) (x : Str) : Bool := match c.blk with
  | none => true
  | some l => l.lookup x == some .cell
/-- a name that may be stored -/
def stB (c : MC) (x : Str) : Bool := match c.names.lookup x with
  | some .local => true
  | some .cell => fnB c x
  | _ => false
def relN (names outer : List (Str × NameKind)) : List (Str × NameKind) := names.map fun (n, k) => if (k == .free && outer.lookup n == some .cell) then (n, .cell) else (n, k)
def MC.into (c : MC) (scope : Scope) : MC := ⟨c.N, relN scope.names c.names, some scope.names, c.fns⟩
def blts : List Str := ["len", "sum", "max", "min", "abs", "int", "tuple", "list", "range", "repr", "enumerate", "zip", "sorted", "all"]
structure Fits (c : MC) (X : Cx) (fa ca : Nat → Addr) (W : WX) (Δ : Dn) : Prop where
  N : X.N = c.N
  nd : X.N.Nodup
  sc : X.env.scope.names = c.names
  kd : X.env.scope.kind = .function
  calm : X.calm = true
  fn : X.fn = fnB c
  un : X.A.units + 100 < cLine
  gd : X.A.guards = some []
  tk : Takes X W
  bt : ∀ b ∈ blts, X.mg b = none
  fs : ∀ p ∈ c.fns, ∃ k fd ps, FnG X.prog X.w X.K X.mg X.base k (fa p.2.1) fd ps (spF X.K fa ca Δ p.2.1 p.2.2) ∧ RoomG k X.A ∧ X.mg p.1 = some (.ref (fa p.2.1)) ∧ PySem.W.keepIn X.K (.ref (fa p.2.1)) = true ∧ Binds X.K fd ps []
section
variable {c : MC} {X : Cx} {fa ca : Nat → Addr} {W : WX} {Δ : Dn}
theorem Fits.vis (f : Fits c X fa ca W Δ) {x : Str} (h : visB c x = true) : Vis X.env.scope x := by
  unfold visB at h
  unfold Vis
  rw [f.sc]
  split at h <;> simp_all
theorem Fits.gl (f : Fits c X fa ca W Δ) {x : Str} (h : glB c x = true) : Gl X x := by
  unfold glB at h
  unfold Gl Env.kindOf
  rw [f.sc]
  split at h <;> simp_all
theorem Fits.loc (f : Fits c X fa ca W Δ) {x : Str} (h : locB c x = true) : X.env.scope.names.lookup x = some .local := by
  unfold locB at h
  rw [f.sc]
  split at h <;> simp_all
theorem Fits.st (f : Fits c X fa ca W Δ) {x : Str} (h : stB c x = true) : L2.Loc X.env.scope x ∧ (X.fn x = true ∨ X.env.scope.names.lookup x = some .local) := by
  unfold stB at h
  unfold L2.Loc
  rw [f.sc, f.fn]
  split at h <;> simp_all
theorem Fits.at (f : Fits c X fa ca W Δ) {i : Nat} {x : Str} (h : c.N[i]? = some x) : X.N[i]? = some x := by rw [f.N]; exact h
theorem Fits.into (f : Fits c X fa ca W Δ) {scope : Scope} (hk : scope.kind = .function) (s : Shared) (H : Hp) (C : Addr) (cl : List (Str × Addr)) (fp : List Addr) : Fits (c.into scope) (X.blk s H scope (compEnvC scope cl C X.env) fp) fa ca noW Δ := by
  refine ⟨f.N, f.nd, ?_, hk, f.calm, rfl, f.un, f.gd, ?_, f.bt, f.fs⟩
  · show (scope.names.map fun (n, k) => if (k == NameKind.free && X.env.scope.kind == .function && X.env.kindOf n == some .cell) then (n, NameKind.cell) else (n, k)) = relN scope.names c.names
    unfold relN Env.kindOf
    rw [f.kd, f.sc]
    refine List.map_congr_left fun p _ => ?_
    obtain ⟨n, k⟩ := p
    simp
  · rintro u s' ⟨_, _, _, _, _, _, _, _, _, _, _, _, _, _, _, _, w⟩
    exact w
end
def biOk (b : Bi) (x : Str) : Bool := b.ok && decide (x = b.nm)
def ownOf (N : List Str) : List Nat → Option (List (Str × Nat))
  | [] => some []
  | j :: r => match N[j]?, ownOf N r with
    | some x, some l => some ((x, j) :: l)
    | _, _ => none
theorem ownOf_snd {N : List Str} : ∀ {js : List Nat} {l : List (Str × Nat)}, ownOf N js = some l → l.map (·.2) = js
  | [], l, h => by cases h; rfl
  | j :: r, l, h => by
    unfold ownOf at h
    split at h
    · rename_i x l' e1 e2
      cases h
      rw [List.map_cons, ownOf_snd e2]
    · cases h
def mTg (c : MC) : Tg → Expr → Bool
  | .nm i, e => match e with
    | .Name x _ => decide (c.N[i]? = some x) && stB c x
    | _ => false
  | .two a b, e => match e with
    | .Tuple [x, y] _ _ => notStar x && (notStar y && (mTg c a x && mTg c b y))
    | _ => false
  | .thr a b d, e => match e with
    | .Tuple [x, y, z] _ _ => notStar x && (notStar y && (notStar z && (mTg c a x && (mTg c b y && mTg c d z))))
    | _ => false
def subB (a b : List Nat) : Bool := a.all fun j => b.contains j
def isCmpE : E → Bool
  | .cmp _ _ _ => true
  | .cmp2 _ _ _ _ _ => true
  | .isc _ _ _ => true
  | _ => false
mutual
def mE (c : MC) : E → Expr → Bool
  | .var i, e => match e with
    | .Name x _ => decide (c.N[i]? = some x) && (visB c x && (!(x == ("__debug__" : Str)) && !(x == ("__classdict__" : Str))))
    | _ => false
  | .con d, e => match e, d with
    | .Constant .none _ _, .none => true
    | .Constant (.bool b) _ _, .bool b' => b == b'
    | .Constant (.int i) _ _, .int i' => decide (i = i')
    | .Constant (.str x) _ _, .str x' => decide (x = x')
    | _, _ => false
  | .fnv f, e => match e with
    | .Name x _ => glB c x && ((c.fns.any fun p => decide (p.1 = x) && decide (p.2.1 = f)) && !(x == ("__debug__" : Str)))
    | _ => false
  | .tup es, e => match e with
    | .Tuple l _ _ => decide (es.len ≤ 1000) && mEs c es l
    | _ => false
  | .li l, e => mL c l e
  | .cell l, e => mL c l e
  | .dnew, e => match e with
    | .Dict [] [] _ => true
    | _ => false
  | .frz a, e => mE c a e
  | .bin op a b, e => match e with
    | .BinOp x o y _ => decide (o = opB op) && (mE c a x && mE c b y)
    | _ => false
  | .neg a, e => match e with
    | .UnaryOp .USub x _ => mE c a x
    | _ => false
  | .cmp op a b, e => match e with
    | .Compare x [o] [y] _ => decide (o = opC op) && (notSet y && (mE c a x && mE c b y))
    | _ => false
  | .cmp2 op op' a b d, e => match e with
    | .Compare x [o, o'] [y, z] _ => decide (o = opC op) && (decide (o' = opC op') && (notSet z && (mE c a x && (mE c b y && mE c d z))))
    | _ => false
  | .isc d ng a, e => match e with
    | .Compare x [o] [y] _ => decide (o = opIs ng) && ((match y, d with
      | .Constant .none _ _, .none => true
      | .Constant (.bool b) _ _, .bool b' => b == b'
      | _, _ => false) && mE c a x)
    | _ => false
  | .and a b, e => match e with
    | .BoolOp .And [x, y] _ => mE c a x && mE c b y
    | .BoolOp .And (x :: y :: z :: r) p => mE c a x && mE c b (.BoolOp .And (y :: z :: r) p)
    | _ => false
  | .or a b, e => match e with
    | .BoolOp .Or [x, y] _ => mE c a x && mE c b y
    | .BoolOp .Or (x :: y :: z :: r) p => mE c a x && mE c b (.BoolOp .Or (y :: z :: r) p)
    | _ => false
  | .nt a, e => match e with
    | .UnaryOp .Not x _ => mE c a x
    | _ => false
  | .ife t a b, e => match e with
    | .IfExp x y z _ => mT c t x && (mE c a y && mE c b z)
    | _ => false
  | .ix a i, e => match e with
    | .Subscript x y _ => notSlice y && (mE c a x && mE c i y)
    | _ => false
  | .sl a lo hi, e => match e with
    | .Subscript x (.Slice l h none _) _ => mE c a x && (mO c lo l && mO c hi h)
    | _ => false
  | .call f es, e => match e with
    | .Call (.Name x _) (y :: l) [] _ => glB c x && (c.fns.contains (x, f, es.len) && (!(x == ("__debug__" : Str)) && ((y :: l).all notStar && mEs c es (y :: l))))
    | _ => false
  | .bi b es, e => match e with
    | .Call (.Name x _) (y :: l) [] _ => biOk b x && (glB c x && (blts.contains x && ((y :: l).all notStar && mEs c es (y :: l))))
    | _ => false
  | .fld _ _, _ => false
  | .mk _ _ _, _ => false
  | .same a b, e => match e with
    | .Compare (.Call (.Name x _) [y] [] _) [.Eq] [.Call (.Name x' _) [y'] [] _] _ => decide (x = "repr") && (decide (x' = "repr") && (glB c "repr" && (notStar y && (notStar y' && (mE c a y && mE c b y')))))
    | _ => false
  | .trng a, e => match e with
    | .Call (.Name x _) [.Call (.Name x' _) [y] [] _] [] _ => decide (x = "tuple") && (decide (x' = "range") && (glB c "tuple" && (glB c "range" && (notStar y && mE c a y))))
    | _ => false
termination_by structural x => x
def mO (c : MC) : O → Option Expr → Bool
  | .no, e => e.isNone
  | .so a, e => match e with
    | some x => mE c a x
    | none => false
termination_by structural x => x
def mEs (c : MC) : Es → List Expr → Bool
  | .nil, l => l.isEmpty
  | .cons a r, l => match l with
    | x :: xs => notStar x && (mE c a x && mEs c r xs)
    | [] => false
termination_by structural x => x
def mL (c : MC) : L → Expr → Bool
  | .lst es, e => match e with
    | .List l _ => mEs c es l
    | _ => false
  | .lc elt tg own it t, e => match e with
    | .ListComp x [⟨y, z, ifs, 0⟩] scope _ => (match ownOf c.N own with
      | some l => (match scope.kind with | .function => true | _ => false) && (blkC c.N ⟨.function, c.names, false, false, []⟩ scope l && (subB tg.slots own && (notSet z && (mI c it z && (mTg (c.into scope) tg y && ((match ifs with | [] => (match t with | .yes => true | _ => false) | [q] => mT (c.into scope) t q | _ => false) && mE (c.into scope) elt x))))))
      | none => false)
    | _ => false
  | .seq a, e => match e with
    | .Call (.Name x _) [y] [] _ => decide (x = "list") && (glB c "list" && (notStar y && mE c a y))
    | _ => false
termination_by structural x => x
def mT (c : MC) : T → Expr → Bool
  | .v a, e => (plainTest e || isCmpE a) && mE c a e
  | .and a b, e => match e with
    | .BoolOp .And [x, y] _ => mT c a x && mT c b y
    | .BoolOp .And (x :: y :: z :: r) p => mT c a x && mT c b (.BoolOp .And (y :: z :: r) p)
    | _ => false
  | .or a b, e => match e with
    | .BoolOp .Or [x, y] _ => mT c a x && mT c b y
    | .BoolOp .Or (x :: y :: z :: r) p => mT c a x && mT c b (.BoolOp .Or (y :: z :: r) p)
    | _ => false
  | .nt a, e => match e with
    | .UnaryOp .Not x _ => mT c a x
    | _ => false
  | .yes, _ => false
termination_by structural x => x
def mI (c : MC) : It → Expr → Bool
  | .e a, e => mE c a e
  | .rng a, e => match e with
    | .Call (.Name x _) [y] [] _ => decide (x = "range") && (glB c "range" && (notStar y && mE c a y))
    | _ => false
  | .rng2 a b, e => match e with
    | .Call (.Name x _) [y, z] [] _ => decide (x = "range") && (glB c "range" && (notStar y && (notStar z && (mE c a y && mE c b z))))
    | _ => false
  | .enm _, _ => false
  | .zip _ _, _ => false
termination_by structural x => x
end
end Ev
set_option maxHeartbeats 4000000
namespace Ev
open PySem PySem.Spec PyProof.Rows L2
theorem ba2 {a b : Bool} (h : (a && b) = true) : a = true ∧ b = true := Bool.and_eq_true_iff.mp h
theorem bd {p : Prop} [Decidable p] (h : decide p = true) : p := of_decide_eq_true h
theorem bn {a : Bool} (h : (!a) = true) : a = false := by cases a <;> simp_all
section
variable {fa ca : Nat → Addr} {Δ : Dn}
theorem dis_of {X : Cx} {W : WX} {y : Expr} {d : PD} (h : (match y, d with
      | .Constant .none _ _, .none => true
      | .Constant (.bool b) _ _, .bool b' => b == b'
      | _, _ => false) = true) : ∃ v, ((d = .none ∧ v = V.non) ∨ ∃ b, d = .bool b ∧ v = .bl b) ∧ PE X y (tC v) := by
  split at h
  · exact ⟨.non, .inl ⟨rfl, rfl⟩, pe_non⟩
  · rename_i b _ _ b'
    obtain rfl := beq_iff_eq.mp h
    exact ⟨.bl b, .inr ⟨b, rfl, rfl⟩, pe_bl⟩
  · cases h
theorem mTg_ok : ∀ (t : Tg) {c : MC} {X : Cx} {W : WX} {e : Expr}, Fits c X fa ca W Δ → mTg c t e = true → DG X fa ca e t
  | .nm i, c, X, W, e, f, h => by
    unfold mTg at h
    split at h
    · obtain ⟨h1, h2⟩ := ba2 h
      obtain ⟨h3, h4⟩ := f.st h2
      exact dg_nm f.nd (f.at (bd h1)) h3 h4
    · cases h
  | .two a b, c, X, W, e, f, h => by
    unfold mTg at h
    split at h
    · obtain ⟨h1, h⟩ := ba2 h
      obtain ⟨h2, h⟩ := ba2 h
      obtain ⟨h3, h4⟩ := ba2 h
      exact dg_two f.calm (mTg_ok a f h3) (mTg_ok b f h4) (by rw [asgEach_ok h1, asgEach_ok h2]; rfl) (by rw [asgEach_ok h2]; rfl)
    · cases h
  | .thr a b d, c, X, W, e, f, h => by
    unfold mTg at h
    split at h
    · obtain ⟨h1, h⟩ := ba2 h
      obtain ⟨h2, h⟩ := ba2 h
      obtain ⟨h3, h⟩ := ba2 h
      obtain ⟨h4, h⟩ := ba2 h
      obtain ⟨h5, h6⟩ := ba2 h
      exact dg_thr f.calm (mTg_ok a f h4) (mTg_ok b f h5) (mTg_ok d f h6) (by rw [asgEach_ok h1, asgEach_ok h2, asgEach_ok h3]; rfl) (by rw [asgEach_ok h2, asgEach_ok h3]; rfl) (by rw [asgEach_ok h3]; rfl)
    · cases h
theorem subB_ok {a b : List Nat} (h : subB a b = true) : ∀ j ∈ a, j ∈ b := fun j hj => by
  unfold subB at h
  rw [List.all_eq_true] at h
  exact List.contains_iff_mem.mp (h j hj)
theorem blk_of {c : MC} {X : Cx} {W : WX} {scope : Scope} {l : List (Str × Nat)} (f : Fits c X fa ca W Δ) (h : blkC c.N ⟨.function, c.names, false, false, []⟩ scope l = true) : BlkOk X.N X.env.scope scope l := by
  have ok := blkOk_by h
  refine ⟨ok.kind, ok.uniq, by rw [f.N]; exact ok.ix, by rw [f.sc]; exact ok.free, by rw [f.N]; exact ok.own⟩
theorem dt_is {c : MC} {X : Cx} {W : WX} {a : E} {e : Expr} (f : Fits c X fa ca W Δ) (hc : isCmpE a = true) (h : mE c a e = true) (ok : ∀ {a : E} {c : MC} {X : Cx} {W : WX} {e : Expr}, Fits c X fa ca W Δ → mE c a e = true → DE X fa ca W Δ e a) : DT X fa ca W Δ e (.v a) := by
  cases a with
  | cmp op p q =>
    unfold mE at h
    split at h
    · obtain ⟨h1, h⟩ := ba2 h
      obtain ⟨h2, h⟩ := ba2 h
      obtain ⟨h3, h4⟩ := ba2 h
      cases bd h1
      exact dt_cmp (by have := f.un; omega) op (ok f h3) (ok f h4) (marks_ok h2 _)
    · cases h
  | cmp2 op op' p q r =>
    unfold mE at h
    split at h
    · obtain ⟨h1, h⟩ := ba2 h
      obtain ⟨h1', h⟩ := ba2 h
      obtain ⟨h2, h⟩ := ba2 h
      obtain ⟨h3, h⟩ := ba2 h
      obtain ⟨h4, h5⟩ := ba2 h
      cases bd h1
      cases bd h1'
      exact dt_cmp2 (by have := f.un; omega) op op' (ok f h3) (ok f h4) (ok f h5) (marks_ok h2 _)
    · cases h
  | isc d ng p =>
    unfold mE at h
    split at h
    · obtain ⟨h1, h⟩ := ba2 h
      obtain ⟨h2, h3⟩ := ba2 h
      cases bd h1
      obtain ⟨v, hv, pv⟩ := dis_of (X := X) (W := W) h2
      exact dt_isc hv pv (ok f h3)
    · cases h
  | _ => cases hc
theorem biOk_ok {b : Bi} {x : Str} (h : biOk b x = true) : b.ok = true ∧ x = b.nm := let ⟨h1, h2⟩ := ba2 h; ⟨h1, bd h2⟩
/-- the one text of a test -/
theorem pw_of {X : Cx} {e : Expr} {t : TT} (h : PW X e t) : PT X e t := h.pt
def isBoolE : Expr → Bool
  | .BoolOp _ _ _ => true
  | _ => false
mutual
theorem mE_ok : ∀ (a : E) {c : MC} {X : Cx} {W : WX} {e : Expr}, Fits c X fa ca W Δ → mE c a e = true → DE X fa ca W Δ e a
  | .var i, c, X, W, e, f, h => by
    unfold mE at h
    split at h
    · obtain ⟨h1, h⟩ := ba2 h
      obtain ⟨h2, h⟩ := ba2 h
      obtain ⟨h3, h4⟩ := ba2 h
      exact de_var (f.at (bd h1)) (f.vis h2) (bn h3) (bn h4)
    · cases h
  | .con d, c, X, W, e, f, h => by
    unfold mE at h
    split at h
    · exact de_con pe_non fun _ => .non
    · rename_i b _ _ b'
      obtain rfl := beq_iff_eq.mp h
      exact de_con pe_bl fun _ => .bl b
    · rename_i i _ _ i'
      obtain rfl := bd h
      exact de_con pe_int fun _ => .int i
    · rename_i i _ _ i'
      obtain rfl := bd h
      exact de_con pe_str fun _ => .str i
    · cases h
  | .fnv k, c, X, W, e, f, h => by
    unfold mE at h
    split at h
    · obtain ⟨h1, h⟩ := ba2 h
      obtain ⟨h2, h3⟩ := ba2 h
      obtain ⟨⟨x, k', ar⟩, hm, hp⟩ := List.any_eq_true.mp h2
      obtain ⟨h4, h5⟩ := ba2 hp
      cases bd h4
      cases bd h5
      obtain ⟨_, _, _, _, _, hmg, _, _⟩ := f.fs _ hm
      exact de_fnv (pe_glob (f.gl h1) hmg rfl (bn h3))
    · cases h
  | .tup es, c, X, W, e, f, h => by
    unfold mE at h
    split at h
    · obtain ⟨h1, h2⟩ := ba2 h
      exact de_tup (bd h1) (mEs_ok es f h2)
    · cases h
  | .li l, c, X, W, e, f, h => by
    unfold mE at h
    exact de_li (mL_ok l f h)
  | .cell l, c, X, W, e, f, h => by
    unfold mE at h
    exact de_cell (mL_ok l f h)
  | .dnew, c, X, W, e, f, h => by
    unfold mE at h
    split at h
    · exact de_dnew
    · cases h
  | .frz a, c, X, W, e, f, h => by
    unfold mE at h
    exact de_frz (mE_ok a f h)
  | .bin op a b, c, X, W, e, f, h => by
    unfold mE at h
    split at h
    · obtain ⟨h1, h⟩ := ba2 h
      obtain ⟨h2, h3⟩ := ba2 h
      cases bd h1
      exact de_bin op (mE_ok a f h2) (mE_ok b f h3)
    · cases h
  | .neg a, c, X, W, e, f, h => by
    unfold mE at h
    split at h
    · exact de_neg (mE_ok a f h)
    · cases h
  | .cmp op a b, c, X, W, e, f, h => by
    unfold mE at h
    split at h
    · obtain ⟨h1, h⟩ := ba2 h
      obtain ⟨h2, h⟩ := ba2 h
      obtain ⟨h3, h4⟩ := ba2 h
      cases bd h1
      exact de_cmp (by have := f.un; omega) op (mE_ok a f h3) (mE_ok b f h4) (marks_ok h2 _)
    · cases h
  | .cmp2 op op' a b d, c, X, W, e, f, h => by
    unfold mE at h
    split at h
    · obtain ⟨h1, h⟩ := ba2 h
      obtain ⟨h1', h⟩ := ba2 h
      obtain ⟨h2, h⟩ := ba2 h
      obtain ⟨h3, h⟩ := ba2 h
      obtain ⟨h4, h5⟩ := ba2 h
      cases bd h1
      cases bd h1'
      exact de_cmp2 (by have := f.un; omega) op op' (mE_ok a f h3) (mE_ok b f h4) (mE_ok d f h5) (marks_ok h2 _)
    · cases h
  | .isc d ng a, c, X, W, e, f, h => by
    unfold mE at h
    split at h
    · obtain ⟨h1, h⟩ := ba2 h
      obtain ⟨h2, h3⟩ := ba2 h
      cases bd h1
      obtain ⟨v, hv, pv⟩ := dis_of (X := X) (W := W) h2
      exact de_isc hv pv (mE_ok a f h3)
    · cases h
  | .and a b, c, X, W, e, f, h => by
    unfold mE at h
    split at h
    · obtain ⟨h1, h2⟩ := ba2 h
      exact de_and (mE_ok a f h1) (de_one (mE_ok b f h2))
    · obtain ⟨h1, h2⟩ := ba2 h
      exact de_and (mE_ok a f h1) (mE_ok b f h2)
    · cases h
  | .or a b, c, X, W, e, f, h => by
    unfold mE at h
    split at h
    · obtain ⟨h1, h2⟩ := ba2 h
      exact de_or (mE_ok a f h1) (de_one (mE_ok b f h2))
    · obtain ⟨h1, h2⟩ := ba2 h
      exact de_or (mE_ok a f h1) (mE_ok b f h2)
    · cases h
  | .nt a, c, X, W, e, f, h => by
    unfold mE at h
    split at h
    · exact de_nt (mE_ok a f h)
    · cases h
  | .ife t a b, c, X, W, e, f, h => by
    unfold mE at h
    split at h
    · obtain ⟨h1, h⟩ := ba2 h
      obtain ⟨h2, h3⟩ := ba2 h
      exact de_ife (mT_ok t f h1) (mE_ok a f h2) (mE_ok b f h3)
    · cases h
  | .ix a i, c, X, W, e, f, h => by
    unfold mE at h
    split at h
    · obtain ⟨h1, h⟩ := ba2 h
      obtain ⟨h2, h3⟩ := ba2 h
      exact de_ix (by have := f.un; omega) (mE_ok a f h2) (mE_ok i f h3) (ix_ok h1)
    · cases h
  | .sl a lo hi, c, X, W, e, f, h => by
    unfold mE at h
    split at h
    · obtain ⟨h1, h⟩ := ba2 h
      obtain ⟨h2, h3⟩ := ba2 h
      exact de_sl (mE_ok a f h1) (mO_ok lo f h2) (mO_ok hi f h3)
    · cases h
  | .call k es, c, X, W, e, f, h => by
    unfold mE at h
    split at h
    · obtain ⟨h1, h⟩ := ba2 h
      obtain ⟨h2, h⟩ := ba2 h
      obtain ⟨h3, h⟩ := ba2 h
      obtain ⟨h4, h5⟩ := ba2 h
      rw [List.all_cons] at h4
      obtain ⟨h6, h7⟩ := ba2 h4
      obtain ⟨n, fd, ps, F, hr, hmg, hk, hb⟩ := f.fs _ (List.contains_iff_mem.mp h2)
      exact de_callG F hr (f.gl h1) hmg hk hb f.tk rfl (bn h3) (mEs_ok es f h5) (star_ok h6 _ _) (stars_ok h7)
    · cases h
  | .bi b es, c, X, W, e, f, h => by
    unfold mE at h
    split at h
    · obtain ⟨h1, h⟩ := ba2 h
      obtain ⟨h2, h⟩ := ba2 h
      obtain ⟨h3, h⟩ := ba2 h
      obtain ⟨h4, h5⟩ := ba2 h
      rw [List.all_cons] at h4
      obtain ⟨h6, h7⟩ := ba2 h4
      obtain ⟨h8, h9⟩ := biOk_ok h1
      subst h9
      exact de_bi h8 f.calm (by have := f.un; omega) (f.gl h2) (f.bt _ (List.contains_iff_mem.mp h3)) (mEs_ok es f h5) (star_ok h6 _ _) (stars_ok h7)
    · cases h
  | .fld a g, c, X, W, e, f, h => by unfold mE at h; cases h
  | .mk k g es, c, X, W, e, f, h => by unfold mE at h; cases h
  | .same a b, c, X, W, e, f, h => by
    unfold mE at h
    split at h
    · obtain ⟨h1, h⟩ := ba2 h
      obtain ⟨h2, h⟩ := ba2 h
      obtain ⟨h3, h⟩ := ba2 h
      obtain ⟨h4, h⟩ := ba2 h
      obtain ⟨h5, h⟩ := ba2 h
      obtain ⟨h6, h7⟩ := ba2 h
      cases bd h1
      cases bd h2
      exact de_same f.gd (by have := f.un; omega) (f.gl h3) (f.bt _ (by decide)) (mE_ok a f h6) (mE_ok b f h7) (star_ok h4 _ _) (star_ok h5 _ _)
    · cases h
  | .trng a, c, X, W, e, f, h => by
    unfold mE at h
    split at h
    · obtain ⟨h1, h⟩ := ba2 h
      obtain ⟨h2, h⟩ := ba2 h
      obtain ⟨h3, h⟩ := ba2 h
      obtain ⟨h4, h⟩ := ba2 h
      obtain ⟨h5, h6⟩ := ba2 h
      cases bd h1
      cases bd h2
      exact de_trng f.calm (f.gl h3) (f.bt _ (by decide)) (f.gl h4) (f.bt _ (by decide)) (mE_ok a f h6) (star_ok h5 _ _)
    · cases h
theorem mO_ok : ∀ (a : O) {c : MC} {X : Cx} {W : WX} {e : Option Expr}, Fits c X fa ca W Δ → mO c a e = true → DO X fa ca W Δ e a
  | .no, c, X, W, e, f, h => by
    unfold mO at h
    cases e with
    | none => exact do_no
    | some _ => cases h
  | .so a, c, X, W, e, f, h => by
    unfold mO at h
    split at h
    · exact do_so (mE_ok a f h)
    · cases h
theorem mEs_ok : ∀ (a : Es) {c : MC} {X : Cx} {W : WX} {e : List Expr}, Fits c X fa ca W Δ → mEs c a e = true → DA X fa ca W Δ e a
  | .nil, c, X, W, e, f, h => by
    unfold mEs at h
    cases e with
    | nil => exact da_nil
    | cons _ _ => cases h
  | .cons a r, c, X, W, e, f, h => by
    unfold mEs at h
    split at h
    · obtain ⟨h1, h⟩ := ba2 h
      obtain ⟨h2, h3⟩ := ba2 h
      exact da_cons (mE_ok a f h2) (mEs_ok r f h3) (star_ok h1 _ _)
    · cases h
theorem mL_ok : ∀ (a : L) {c : MC} {X : Cx} {W : WX} {e : Expr}, Fits c X fa ca W Δ → mL c a e = true → DL X fa ca W Δ e a
  | .lst es, c, X, W, e, f, h => by
    unfold mL at h
    split at h
    · exact dl_lst (mEs_ok es f h)
    · cases h
  | .lc elt tg own it t, c, X, W, e, f, h => by
    unfold mL at h
    split at h
    · rename_i x y z ifs scope pos
      split at h
      · rename_i l hl
        obtain ⟨h1, h⟩ := ba2 h
        obtain ⟨h2, h⟩ := ba2 h
        obtain ⟨h3, h⟩ := ba2 h
        obtain ⟨h4, h⟩ := ba2 h
        obtain ⟨h5, h⟩ := ba2 h
        obtain ⟨h6, h⟩ := ba2 h
        obtain ⟨h7, h8⟩ := ba2 h
        have hk : scope.kind = .function := by
          split at h1
          · assumption
          · cases h1
        have hs := ownOf_snd hl
        have fi := fun s H C cl fp => f.into (X := X) hk s H C cl fp
        have ht : ∀ (s : Shared) (H : Hp) (C : Addr) (cl : List (Str × Addr)) (fp : List Addr), DTs (X.blk s H scope (compEnvC scope cl C X.env) fp) fa ca noW Δ ifs t := fun s H C cl fp => by
          clear h h5 h6 h8 h4 h3 h2 h1 hl
          cases ifs with
          | nil =>
            simp only at h7
            split at h7
            · exact dts_nil
            · cases h7
          | cons q r =>
            cases r with
            | nil => exact dts_one (mT_ok t (fi s H C cl fp) h7)
            | cons _ _ => cases h7
        have r := dl_lc (own := l) (eltc := elt) (tgc := tg) (tc := t) (pos := pos) (by rw [hs]; exact subB_ok h3) f.calm f.nd (mI_ok it f h5) (blk_of f h2) (fun s H C cl fp => mTg_ok tg (fi s H C cl fp) h6)
          ht (fun s H C cl fp => mE_ok elt (fi s H C cl fp) h8) (fold_ok h4 X.env)
        rw [hs] at r
        exact r
      · cases h
    · cases h
  | .seq a, c, X, W, e, f, h => by
    unfold mL at h
    split at h
    · obtain ⟨h1, h⟩ := ba2 h
      obtain ⟨h2, h⟩ := ba2 h
      obtain ⟨h3, h4⟩ := ba2 h
      cases bd h1
      exact dl_seq (f.gl h2) (f.bt _ (by decide)) (mE_ok a f h4) (star_ok h3 _ _)
    · cases h
theorem mT_ok : ∀ (a : T) {c : MC} {X : Cx} {W : WX} {e : Expr}, Fits c X fa ca W Δ → mT c a e = true → DT X fa ca W Δ e a
  | .v a, c, X, W, e, f, h => by
    unfold mT at h
    obtain ⟨h1, h2⟩ := ba2 h
    rcases Bool.or_eq_true_iff.mp h1 with h3 | h3
    · exact dt_v (mE_ok a f h2) (test_ok h3 X.env)
    · cases a with
      | cmp op p q =>
        unfold mE at h2
        split at h2
        · obtain ⟨k1, k⟩ := ba2 h2
          obtain ⟨k2, k⟩ := ba2 k
          obtain ⟨k3, k4⟩ := ba2 k
          cases bd k1
          exact dt_cmp (by have := f.un; omega) op (mE_ok p f k3) (mE_ok q f k4) (marks_ok k2 _)
        · cases h2
      | cmp2 op op' p q r =>
        unfold mE at h2
        split at h2
        · obtain ⟨k1, k⟩ := ba2 h2
          obtain ⟨k1', k⟩ := ba2 k
          obtain ⟨k2, k⟩ := ba2 k
          obtain ⟨k3, k⟩ := ba2 k
          obtain ⟨k4, k5⟩ := ba2 k
          cases bd k1
          cases bd k1'
          exact dt_cmp2 (by have := f.un; omega) op op' (mE_ok p f k3) (mE_ok q f k4) (mE_ok r f k5) (marks_ok k2 _)
        · cases h2
      | isc d ng p =>
        unfold mE at h2
        split at h2
        · obtain ⟨k1, k⟩ := ba2 h2
          obtain ⟨k2, k3⟩ := ba2 k
          cases bd k1
          obtain ⟨v, hv, pv⟩ := dis_of (X := X) (W := W) k2
          exact dt_isc hv pv (mE_ok p f k3)
        · cases h2
      | _ => cases h3
  | .and a b, c, X, W, e, f, h => by
    unfold mT at h
    split at h
    · obtain ⟨h1, h2⟩ := ba2 h
      exact (dw_and (mT_ok a f h1) (dw_and1 (mT_ok b f h2))).pt
    · obtain ⟨h1, h2⟩ := ba2 h
      exact (dw_and (mT_ok a f h1) (mW_ok b f h2 rfl)).pt
    · cases h
  | .or a b, c, X, W, e, f, h => by
    unfold mT at h
    split at h
    · obtain ⟨h1, h2⟩ := ba2 h
      exact (dw_or (mT_ok a f h1) (dw_or1 (mT_ok b f h2))).pt
    · obtain ⟨h1, h2⟩ := ba2 h
      exact (dw_or (mT_ok a f h1) (mW_ok b f h2 rfl)).pt
    · cases h
  | .nt a, c, X, W, e, f, h => by
    unfold mT at h
    split at h
    · exact dt_nt (mT_ok a f h)
    · cases h
  | .yes, c, X, W, e, f, h => by unfold mT at h; cases h
theorem mW_ok : ∀ (a : T) {c : MC} {X : Cx} {W : WX} {e : Expr}, Fits c X fa ca W Δ → mT c a e = true → isBoolE e = true → PW X e (tG X.K fa ca W relB (evT Δ a))
  | .v a, c, X, W, e, f, h, hb => by
    unfold mT at h
    obtain ⟨h1, h2⟩ := ba2 h
    cases e with
    | BoolOp o l p =>
      rcases Bool.or_eq_true_iff.mp h1 with h3 | h3
      · cases h3
      · cases a with
        | cmp op p q => unfold mE at h2; cases h2
        | cmp2 op op' p q r => unfold mE at h2; cases h2
        | isc d ng p => unfold mE at h2; cases h2
        | _ => cases h3
    | _ => cases hb
  | .and a b, c, X, W, e, f, h, hb => by
    unfold mT at h
    split at h
    · obtain ⟨h1, h2⟩ := ba2 h
      exact dw_and (mT_ok a f h1) (dw_and1 (mT_ok b f h2))
    · obtain ⟨h1, h2⟩ := ba2 h
      exact dw_and (mT_ok a f h1) (mW_ok b f h2 rfl)
    · cases h
  | .or a b, c, X, W, e, f, h, hb => by
    unfold mT at h
    split at h
    · obtain ⟨h1, h2⟩ := ba2 h
      exact dw_or (mT_ok a f h1) (dw_or1 (mT_ok b f h2))
    · obtain ⟨h1, h2⟩ := ba2 h
      exact dw_or (mT_ok a f h1) (mW_ok b f h2 rfl)
    · cases h
  | .nt a, c, X, W, e, f, h, hb => by
    unfold mT at h
    cases e with
    | BoolOp o l p => cases h
    | _ => cases hb
  | .yes, c, X, W, e, f, h, hb => by unfold mT at h; cases h
theorem mI_ok : ∀ (a : It) {c : MC} {X : Cx} {W : WX} {tg e : Expr}, Fits c X fa ca W Δ → mI c a e = true → DI X fa ca W Δ tg e a
  | .e a, c, X, W, tg, e, f, h => by
    unfold mI at h
    exact di_e (mE_ok a f h)
  | .rng a, c, X, W, tg, e, f, h => by
    unfold mI at h
    split at h
    · obtain ⟨h1, h⟩ := ba2 h
      obtain ⟨h2, h⟩ := ba2 h
      obtain ⟨h3, h4⟩ := ba2 h
      cases bd h1
      exact di_rng (f.gl h2) (f.bt _ (by decide)) (mE_ok a f h4) (star_ok h3 _ _)
    · cases h
  | .rng2 a b, c, X, W, tg, e, f, h => by
    unfold mI at h
    split at h
    · obtain ⟨h1, h⟩ := ba2 h
      obtain ⟨h2, h⟩ := ba2 h
      obtain ⟨h3, h⟩ := ba2 h
      obtain ⟨h3', h⟩ := ba2 h
      obtain ⟨h4, h5⟩ := ba2 h
      cases bd h1
      exact di_rng2 (f.gl h2) (f.bt _ (by decide)) (mE_ok a f h4) (mE_ok b f h5) (by rw [star_ok h3, star_ok h3']; rfl) (star_ok h3' _ _)
    · cases h
  | .enm _, c, X, W, tg, e, f, h => by unfold mI at h; cases h
  | .zip _ _, c, X, W, tg, e, f, h => by unfold mI at h; cases h
end
end
end Ev
set_option maxHeartbeats 4000000
namespace Ev
open PySem PySem.Spec PyProof.Rows L2
def noSwapB (c : MC) (x : Str) (e : Expr) : Bool := notComp e || ((match e with | .ListComp _ _ _ _ => true | _ => false) && !locB c x)
theorem sw_ok {e : Expr} {x : Str} {p : Pos} {l : Nat} {env : Env} (he : (match e with | .ListComp _ _ _ _ => true | _ => false) = true) (hx : env.scope.names.lookup x ≠ some .local) : swapsWith e (some (.Name x p)) l env = pure false := by
  cases e with
  | ListComp a b s q =>
    have k : (env.kindOf x == some .local) = false := by
      unfold Env.kindOf
      exact beq_eq_false_iff_ne.mpr hx
    unfold swapsWith
    simp only [k, Bool.and_false, Bool.false_and]
  | _ => cases he
def lcStore (c : MC) (y : Str) (py : Pos) (e : Expr) (own : List Nat) : Bool := locB c y && (match e with
  | .ListComp _ _ scope pos => (py.line == pos.line) && !(scope.names.any fun (n, k) => n == y && (k == .local || k == .cell))
  | _ => false)
def swpB (a b : Expr) (px py : Pos) : Bool := (px.line == py.line) && (notStar a && (notStar b && (!([a, b].all (foldedForSure 8)) && !([a, b].all (constantsAlone 8)))))
theorem swp_ok {x y : Str} {px py pt : Pos} {kt k2 : Nat} {pt2 : Pos} {a b : Expr} {env : Env} (hk : env.scope.kind = .function) (hx : env.scope.names.lookup x = some .local) (hy : env.scope.names.lookup y = some .local) (hxy : x ≠ y) (h : swpB a b px py = true) :
    swappedStores [.Tuple [.Name x px, .Name y py] kt pt] (.Tuple [a, b] k2 pt2) env = pure (some [x, y]) := by
  unfold swpB at h
  obtain ⟨h1, h⟩ := ba2 h
  obtain ⟨h2, h⟩ := ba2 h
  obtain ⟨h3, h⟩ := ba2 h
  obtain ⟨h4, h5⟩ := ba2 h
  have e1 : (env.kindOf x == some .local) = true := by unfold Env.kindOf; rw [hx]; rfl
  have e2 : (env.kindOf y == some .local) = true := by unfold Env.kindOf; rw [hy]; rfl
  have hb : env.blockKind = .function := by unfold Env.blockKind; rw [hk]; rfl
  have e3 : (py.line == px.line) = true := by rw [beq_iff_eq] at h1 ⊢; exact h1.symm
  have h4' := bn h4
  have h5' := bn h5
  have ed : [x, y].eraseDups = [x, y] := by
    have : (y == x) = false := beq_eq_false_iff_ne.mpr (Ne.symm hxy)
    simp [List.eraseDups_cons, this]
  unfold swappedStores
  simp only [List.length_cons, List.length_nil, hb, h4', h5', List.head?_cons, Option.map_some, Option.getD_some, List.filterMap_cons, List.filterMap_nil, Expr.pos, e1, e2, e3, beq_self_eq_true, Bool.and_true, if_true, ed]
  rw [if_neg (by decide), if_neg, if_neg (by decide), if_neg (by decide), if_neg (by decide)]
  intro hh
  obtain ⟨z, hz, hz2⟩ := List.any_eq_true.mp hh
  have nz : notStar z = true := by
    rcases List.mem_cons.mp hz with rfl | hz
    · exact h2
    · rcases List.mem_cons.mp hz with rfl | hz
      · exact h3
      · cases hz
  cases z <;> first | exact absurd (show false = true from hz2) Bool.false_ne_true | exact absurd (show false = true from nz) Bool.false_ne_true
mutual
def mS (c : MC) : S → Stmt → Bool
  | .set i a, s => match s with
    | .Assign [.Name x p] e q => decide (c.N[i]? = some x) && (stB c x && ((noSwapB c x e && mE c a e) || (match a, e with
      | .li (.lc elt tg own it t), e => lcStore c x p e own && mL c (.lc elt tg own it t) e
      | .cell (.lc elt tg own it t), e => lcStore c x p e own && mL c (.lc elt tg own it t) e
      | _, _ => false)))
    | _ => false
  | .asg t a, s => match s with
    | .Assign [tg] e _ => notComp e && (notTup e && (notStar tg && (mTg c t tg && mE c a e)))
    | _ => false
  | .swp i j a b, s => match s with
    | .Assign [.Tuple [.Name x px, .Name y py] _ _] (.Tuple [e, e'] _ _) _ => decide (c.N[i]? = some x) && (decide (c.N[j]? = some y) && (locB c x && (locB c y && (swpB e e' px py && (decide (i ≠ j) && (mE c a e && mE c b e'))))))
    | _ => false
  | .stI a i v, s => match s with
    | .Assign [.Subscript o k _] e _ => notSlice k && (mE c a o && (mE c i k && mE c v e))
    | _ => false
  | .stF _ _ _, _ => false
  | .aug i op a, s => match s with
    | .AugAssign (.Name x _) o e _ => decide (c.N[i]? = some x) && (stB c x && (decide (o = opAug op) && mE c a e))
    | _ => false
  | .ext i a, s => match s with
    | .AugAssign (.Name x _) o e _ => decide (c.N[i]? = some x) && (stB c x && (decide (o = .Add) && mE c a e))
    | _ => false
  | .app a v, s => match s with
    | .Expr (.Call (.Attribute o x ap) [e] [] cp) _ => decide (x = "append") && ((ap.endLine == cp.line) && (notCall o && (notStar e && (mE c a o && mE c v e))))
    | _ => false
  | .ife t a b, s => match s with
    | .If e x y _ => mT c t e && (mSs c a x && mSs c b y)
    | _ => false
  | .for tg it b, s => match s with
    | .For x e l [] _ => notSet e && (mI c it e && (mTg c tg x && mSs c b l))
    | _ => false
  | .whl t b, s => match s with
    | .While e l [] _ => mT c t e && mSs c b l
    | _ => false
  | .ret a, s => match s with
    | .Return (some e) _ => mE c a e
    | _ => false
  | .expr a, s => match s with
    | .Expr e _ => notComp e && mE c a e
    | _ => false
  | .brk, s => match s with
    | .Break _ => true
    | _ => false
  | .cnt, s => match s with
    | .Continue _ => true
    | _ => false
  | .pass, s => match s with
    | .Pass _ => true
    | _ => false
termination_by structural x => x
def mSs (c : MC) : Ss → List Stmt → Bool
  | .nil, l => l.isEmpty
  | .cons a r, l => match l with
    | x :: xs => mS c a x && mSs c r xs
    | [] => false
termination_by structural x => x
end
section
variable {fa ca : Nat → Addr} {Δ : Dn} {fu : Nat}
mutual
theorem mS_ok : ∀ (a : S) {c : MC} {X : Cx} {W : WX} {s : Stmt}, Fits c X fa ca W Δ → PassesOwn (model X.prog X.w) X.A X.env X.xe → mS c a s = true → DS X fa ca W Δ fu s a
  | .set i a, c, X, W, s, f, po, h => by
    unfold mS at h
    split at h
    · obtain ⟨h1, h⟩ := ba2 h
      obtain ⟨h2, h⟩ := ba2 h
      obtain ⟨h3, h4⟩ := f.st h2
      rcases Bool.or_eq_true_iff.mp h with h | h
      · obtain ⟨h5, h6⟩ := ba2 h
        refine ds_set f.nd (f.at (bd h1)) h3 h4 (mE_ok a f h6) ?_
        unfold noSwapB at h5
        rcases Bool.or_eq_true_iff.mp h5 with h5 | h5
        · exact swaps_ok h5 _ _ _
        · obtain ⟨h7, h8⟩ := ba2 h5
          refine sw_ok h7 fun z => ?_
          unfold locB at h8
          rw [← f.sc, z] at h8
          cases h8
      · have go : ∀ {elt : E} {tg : Tg} {own : List Nat} {it : It} {t : T} {p q : Pos} {x : Str} {e : Expr}, locB c x = true → c.N[i]? = some x → lcStore c x p e own = true → mL c (.lc elt tg own it t) e = true →
            PS X (.Assign [.Name x p] e q) (tAsg (tL X.K fa ca W (evL Δ (.lc elt tg own it t))) (gName i)) := fun {elt tg own it t p q x e} hl hi hs hm => by
          unfold mL at hm
          split at hm
          · rename_i x' y' z' ifs scope pos
            split at hm
            · rename_i l hl2
              obtain ⟨m1, hm⟩ := ba2 hm
              obtain ⟨m2, hm⟩ := ba2 hm
              obtain ⟨m3, hm⟩ := ba2 hm
              obtain ⟨m4, hm⟩ := ba2 hm
              obtain ⟨m5, hm⟩ := ba2 hm
              obtain ⟨m6, hm⟩ := ba2 hm
              obtain ⟨m7, m8⟩ := ba2 hm
              have hk : scope.kind = .function := by
                split at m1
                · assumption
                · cases m1
              have hso := ownOf_snd hl2
              have fi := fun s H C cl fp => f.into (X := X) hk s H C cl fp
              have ht : ∀ (s : Shared) (H : Hp) (C : Addr) (cl : List (Str × Addr)) (fp : List Addr), DTs (X.blk s H scope (compEnvC scope cl C X.env) fp) fa ca noW Δ ifs t := fun s H C cl fp => by
                clear hm m5 m6 m8 m4 m3 m2 m1 hl2 hs
                cases ifs with
                | nil =>
                  simp only at m7
                  split at m7
                  · exact dts_nil
                  · cases m7
                | cons q r =>
                  cases r with
                  | nil => exact dts_one (mT_ok t (fi s H C cl fp) m7)
                  | cons _ _ => cases m7
              unfold lcStore at hs
              obtain ⟨_, hs⟩ := ba2 hs
              obtain ⟨hs1, hs2⟩ := ba2 hs
              have r := dl_setLc (W := W) (own := l) (eltc := elt) (tgc := tg) (tc := t) (py := p) (spos := q) (pos := pos) (f.at hi) (f.loc hl) (sw_true f.kd (f.loc hl) hs1 (bn hs2)) (by rw [hso]; exact subB_ok m3) f.calm f.nd (mI_ok it f m5) (blk_of f m2) (fun s H C cl fp => mTg_ok tg (fi s H C cl fp) m6)
                ht (fun s H C cl fp => mE_ok elt (fi s H C cl fp) m8) (fold_ok m4 X.env)
              rw [hso] at r
              exact r
            · cases hm
          · cases hm
        split at h
        · obtain ⟨k1, k2⟩ := ba2 h
          exact ds_setL (go (ba2 k1).1 (bd h1) k1 k2) (.inl rfl)
        · obtain ⟨k1, k2⟩ := ba2 h
          exact ds_setL (go (ba2 k1).1 (bd h1) k1 k2) (.inr rfl)
        · cases h
    · cases h
  | .asg t a, c, X, W, s, f, po, h => by
    unfold mS at h
    split at h
    · obtain ⟨h1, h⟩ := ba2 h
      obtain ⟨h2, h⟩ := ba2 h
      obtain ⟨h3, h⟩ := ba2 h
      obtain ⟨h4, h5⟩ := ba2 h
      exact ds_asg (mTg_ok t f h4) (mE_ok a f h5) (swaps_ok h1 _ _ _) (swapped_ok h2 _) (by rw [asgEach_ok h3]; rfl)
    · cases h
  | .swp i j a b, c, X, W, s, f, po, h => by
    unfold mS at h
    split at h
    · obtain ⟨h1, h⟩ := ba2 h
      obtain ⟨h2, h⟩ := ba2 h
      obtain ⟨h3, h⟩ := ba2 h
      obtain ⟨h4, h⟩ := ba2 h
      obtain ⟨h5, h⟩ := ba2 h
      obtain ⟨h6, h⟩ := ba2 h
      obtain ⟨h7, h8⟩ := ba2 h
      have hij : i ≠ j := bd h6
      have n1 := f.at (bd h1)
      have n2 := f.at (bd h2)
      have st := h5
      unfold swpB at st
      obtain ⟨_, st⟩ := ba2 st
      obtain ⟨s1, st⟩ := ba2 st
      obtain ⟨s2, _⟩ := ba2 st
      exact ds_swp f.calm f.nd n1 n2 hij (f.loc h3) (f.loc h4) (da_cons (mE_ok a f h7) (da_cons (mE_ok b f h8) da_nil (star_ok s2 _ _)) (star_ok s1 _ _)) (swp_ok f.kd (f.loc h3) (f.loc h4) (fun z => hij (by
        subst z
        obtain ⟨q1, e1⟩ := List.getElem?_eq_some_iff.mp n1
        obtain ⟨q2, e2⟩ := List.getElem?_eq_some_iff.mp n2
        exact (List.getElem_inj f.nd).mp (e1.trans e2.symm))) h5) rfl
    · cases h
  | .stI a i v, c, X, W, s, f, po, h => by
    unfold mS at h
    split at h
    · rename_i o k p e q
      obtain ⟨h0, h⟩ := ba2 h
      obtain ⟨h1, h⟩ := ba2 h
      obtain ⟨h2, h3⟩ := ba2 h
      exact ds_stI (by have := f.un; omega) (mE_ok a f h1) (mE_ok i f h2) (mE_ok v f h3) (fun _ => by cases k <;> first | rfl | cases h0) (by cases e <;> rfl) (swappedS_ok _) rfl
    · cases h
  | .stF a g v, c, X, W, s, f, po, h => by unfold mS at h; cases h
  | .aug i op a, c, X, W, s, f, po, h => by
    unfold mS at h
    split at h
    · obtain ⟨h1, h⟩ := ba2 h
      obtain ⟨h2, h⟩ := ba2 h
      obtain ⟨h3, h4⟩ := ba2 h
      obtain ⟨h5, h6⟩ := f.st h2
      cases bd h3
      exact ds_aug f.nd (f.at (bd h1)) h5 h6 (mE_ok a f h4)
    · cases h
  | .ext i a, c, X, W, s, f, po, h => by
    unfold mS at h
    split at h
    · obtain ⟨h1, h⟩ := ba2 h
      obtain ⟨h2, h⟩ := ba2 h
      obtain ⟨h3, h4⟩ := ba2 h
      obtain ⟨h5, h6⟩ := f.st h2
      cases bd h3
      exact ds_ext f.nd (f.at (bd h1)) h5 h6 (mE_ok a f h4)
    · cases h
  | .app a v, c, X, W, s, f, po, h => by
    unfold mS at h
    split at h
    · obtain ⟨h1, h⟩ := ba2 h
      obtain ⟨h2, h⟩ := ba2 h
      obtain ⟨h3, h⟩ := ba2 h
      obtain ⟨h4, h⟩ := ba2 h
      obtain ⟨h5, h6⟩ := ba2 h
      cases bd h1
      exact ds_app (mE_ok a f h5) (da_cons (mE_ok v f h6) da_nil (star_ok h4 _ _)) (base_ok h3 _ _ _) (by rw [star_ok h4]; rfl) h2 (star_ok h4 _ _)
    · cases h
  | .ife t a b, c, X, W, s, f, po, h => by
    unfold mS at h
    split at h
    · obtain ⟨h1, h⟩ := ba2 h
      obtain ⟨h2, h3⟩ := ba2 h
      exact ds_if (mT_ok t f h1) (mSs_ok a f po h2) (mSs_ok b f po h3)
    · cases h
  | .for tg it b, c, X, W, s, f, po, h => by
    unfold mS at h
    split at h
    · obtain ⟨h1, h⟩ := ba2 h
      obtain ⟨h2, h⟩ := ba2 h
      obtain ⟨h3, h4⟩ := ba2 h
      exact ds_for po f.calm (mI_ok it f h2) (mTg_ok tg f h3) (mSs_ok b f po h4) (fold_ok h1 _)
    · cases h
  | .whl t b, c, X, W, s, f, po, h => by
    unfold mS at h
    split at h
    · obtain ⟨h1, h2⟩ := ba2 h
      exact ds_whl po (mT_ok t f h1) (mSs_ok b f po h2)
    · cases h
  | .ret a, c, X, W, s, f, po, h => by
    unfold mS at h
    split at h
    · exact ds_ret (mE_ok a f h)
    · cases h
  | .expr a, c, X, W, s, f, po, h => by
    unfold mS at h
    split at h
    · obtain ⟨h1, h2⟩ := ba2 h
      exact ds_expr (mE_ok a f h2) (swaps_ok h1 _ _ _)
    · cases h
  | .brk, c, X, W, s, f, po, h => by
    unfold mS at h
    split at h
    · exact ds_brk
    · cases h
  | .cnt, c, X, W, s, f, po, h => by
    unfold mS at h
    split at h
    · exact ds_cnt
    · cases h
  | .pass, c, X, W, s, f, po, h => by
    unfold mS at h
    split at h
    · exact ds_pass
    · cases h
theorem mSs_ok : ∀ (a : Ss) {c : MC} {X : Cx} {W : WX} {s : List Stmt}, Fits c X fa ca W Δ → PassesOwn (model X.prog X.w) X.A X.env X.xe → mSs c a s = true → DSs X fa ca W Δ fu s a
  | .nil, c, X, W, s, f, po, h => by
    unfold mSs at h
    cases s with
    | nil => exact dss_nil
    | cons _ _ => cases h
  | .cons a r, c, X, W, s, f, po, h => by
    unfold mSs at h
    split at h
    · obtain ⟨h1, h2⟩ := ba2 h
      exact dss_cons (mS_ok a f po h1) (mSs_ok r f po h2)
    · cases h
end
end
end Ev
set_option maxHeartbeats 4000000
namespace Ev
open PySem PySem.Spec PyProof.Rows L2
structure FE where
  ps : List Str
  N : List Str
  core : Ss
noncomputable def lvl (T : List FE) (fu : Nat) : Nat → Dn
  | 0 => fun _ _ _ => .bad
  | n + 1 => fun f ds st => match T[f]? with
    | some e => runFn (lvl T fu n) fu e.ps.length e.N.length e.core ds st
    | none => .bad
def scopeB (e : FE) (sc : Scope) : Bool := (match sc.kind with | .function => true | _ => false) && (!sc.isCoroutine && (!sc.isGenerator && (decide e.N.Nodup && (decide (e.N.take e.ps.length = e.ps) &&
  ((e.ps.all fun x => match sc.names.lookup x with | some .local => true | some .cell => true | _ => false) && (sc.names.all fun y => match y.2 with | .free => false | _ => true))))))
def okF (sg : List (Str × Nat × Nat)) (e : FE) (st : Stmt) : Bool := scopeB e (defScope st) && mSs ⟨e.N, (defScope st).names, none, sg⟩ e.core (defBody st)
theorem scope_ok {e : FE} {sc : Scope} (h : scopeB e sc = true) : FnScope e.N e.ps sc := by
  unfold scopeB at h
  obtain ⟨h1, h⟩ := ba2 h
  obtain ⟨h2, h⟩ := ba2 h
  obtain ⟨h3, h⟩ := ba2 h
  obtain ⟨h4, h⟩ := ba2 h
  obtain ⟨h5, h⟩ := ba2 h
  obtain ⟨h6, h7⟩ := ba2 h
  refine ⟨?_, bn h2, bn h3, bd h4, bd h5, fun x hx => ?_, fun y hy z => ?_⟩
  · split at h1
    · assumption
    · cases h1
  · have q := List.all_eq_true.mp h6 x hx
    split at q
    · rename_i e1; exact .inl e1
    · rename_i e1; exact .inr e1
    · cases q
  · have q := List.all_eq_true.mp h7 y hy
    rw [z] at q
    cases q
/-- one def and its text -/
structure DefOk (K : PySem.W.Frag) (sg : List (Str × Nat × Nat)) (e : FE) (f : Addr) (fd : FuncData) : Prop where
  d : ∃ (x q : Str) (st : Stmt) (dvs : List V), FunD K x q (defArgs st) (defBody st) (defScope st) dvs [] f fd ∧ okF sg e st = true
  b : Binds K fd e.ps []
section
variable {P : Program} {w : World} {K : PySem.W.Frag} {mg : Str → Option Value} {base : Heap} {fa ca : Nat → Addr} {T : List FE} {sg : List (Str × Nat × Nat)} {fu : Nat}
theorem fits_of {Δ : Dn} {n : Nat} {e : FE} {st : Stmt} {qual : Str} {f : Addr} {cd : Value} {A : Around} {outer : List Env} {s : Shared} {H : Hp} {E : XK} (ok : okF sg e st = true) (hr : RoomG n (A.deeper (envOfC qual (defScope st) s.heap.objs.size f cd)))
    (hB : ∀ b ∈ blts, mg b = none) (fs : ∀ p ∈ sg, ∃ k fd ps, FnG P w K mg base k (fa p.2.1) fd ps (spF K fa ca Δ p.2.1 p.2.2) ∧ k ≤ n ∧ mg p.1 = some (.ref (fa p.2.1)) ∧ PySem.W.keepIn K (.ref (fa p.2.1)) = true ∧ Binds K fd ps []) :
    Fits ⟨e.N, (defScope st).names, none, sg⟩ (cxOf (L2.CX P w) P w K mg base e.N qual (defScope st) f cd A outer s H E) fa ca (fun c d _ H' => E c d H') Δ := by
  have S := scope_ok (ba2 ok).1
  refine ⟨rfl, S.nd, rfl, S.kind, rfl, rfl, ?_, hr.g, takes_of rfl rfl rfl rfl, hB, fun p hp => ?_⟩
  · have := hr.r.un
    show (A.deeper _).units + 100 < cLine
    omega
  · obtain ⟨k, fd, ps, h1, h2, h3, h4, h5⟩ := fs p hp
    exact ⟨k, fd, ps, h1, hr.mono h2, h3, h4, h5⟩
theorem all_ok (hF : ∀ i e, T[i]? = some e → ∃ fd, DefOk K sg e (fa i) fd) (hS : ∀ p ∈ sg, ∃ e, T[p.2.1]? = some e ∧ e.ps.length = p.2.2 ∧ mg p.1 = some (.ref (fa p.2.1))) (hB : ∀ b ∈ blts, mg b = none) :
    ∀ (n i : Nat) (e : FE), T[i]? = some e → ∀ fd, DefOk K sg e (fa i) fd → FnG P w K mg base (n + 1) (fa i) fd e.ps (spF K fa ca (lvl T fu n) i e.ps.length) := by
  intro n
  induction n with
  | zero =>
    intro i e hi fd ⟨⟨x, q, st, dvs, F, ok⟩, _⟩
    refine fnG_of F (scope_ok (ba2 ok).1) (fun vs H Q E ⟨_, _, _, _, _, rs, hl, _⟩ => rs.length.trans hl) fun cdv A outer s H vs Q E hr h => ?_
    obtain ⟨_, _, _, _, _, _, _, p⟩ := h
    exact p.elim
  | succ n ih =>
    intro i e hi fd ⟨⟨x, q, st, dvs, F, ok⟩, _⟩
    have S := scope_ok (ba2 ok).1
    refine fnG_of F S (fun vs H Q E ⟨_, _, _, _, _, rs, hl, _⟩ => rs.length.trans hl) fun cdv A outer s H vs Q E hr h => ?_
    refine ⟨_, mSs_ok (fa := fa) (ca := ca) (Δ := lvl T fu n) (fu := fu) e.core (fits_of ok hr hB fun p hp => ?_) (passes_of rfl) (ba2 ok).2, spF_body ?_ (fun ds st => ?_) h⟩
    · obtain ⟨e', h1, h2, h3⟩ := hS p hp
      obtain ⟨fd', D⟩ := hF _ _ h1
      obtain ⟨_, _, _, _, F', _⟩ := D.d
      refine ⟨n + 1, fd', e'.ps, ?_, Nat.le_refl _, h3, F'.kp, D.b⟩
      rw [← h2]
      exact ih _ _ h1 _ D
    · have := congrArg List.length S.pre
      rw [List.length_take] at this
      omega
    · show (match T[i]? with | some e => runFn (lvl T fu n) fu e.ps.length e.N.length e.core ds st | none => .bad) = _
      rw [hi]
end
abbrev DL1 := List (Str × Stmt)
def mkD (p : Str × Stmt) : He.DefD := ⟨(p.1, none), p.1, p.1, defArgs p.2, defBody p.2, defScope p.2, [], []⟩
def fnL (ds : DL1) : List He.DefD := ds.map mkD
def faL (ds : DL1) : List He.Fa := ds.map (fun p => .glo p.1) ++ blts.map .free
def adL (ds : DL1) (K : PySem.W.Frag) (i : Nat) : Addr := match ds[i]? with
  | some p => He.fAd K (p.1, none)
  | none => 0
def sgF : DL1 → List FE → Nat → List (Str × Nat × Nat)
  | d :: ds, e :: es, i => (d.1, i, e.ps.length) :: sgF ds es (i + 1)
  | _, _, _ => []
def sgL (ds : DL1) (T : List FE) : List (Str × Nat × Nat) := sgF ds T 0
def okL (sg : List (Str × Nat × Nat)) : DL1 → List FE → Bool
  | [], [] => true
  | d :: ds, e :: es => okF sg e d.2 && okL sg ds es
  | _, _ => false
def BindB (d : Str × Stmt) (ps : List Str) : Prop := ∀ (kV doc pm : Value) (an : Option Addr) (cdv ct : Value) (us : List Value), us.length = ps.length → bindArgs (PySem.W.fnOf d.1 d.1 (defArgs d.2) (defBody d.2) (defScope d.2) .none kV doc pm an cdv ct) ⟨us, []⟩ = pure (ps.zip us)
def AllB : DL1 → List FE → Prop
  | d :: ds, e :: es => BindB d e.ps ∧ AllB ds es
  | _, _ => True
theorem sgF_mem : ∀ {ds : DL1} {T : List FE} {i : Nat} {p : Str × Nat × Nat}, p ∈ sgF ds T i → ∃ j d e, p.2.1 = i + j ∧ ds[j]? = some d ∧ T[j]? = some e ∧ p.1 = d.1 ∧ p.2.2 = e.ps.length
  | [], _, _, _, h => by cases h
  | _ :: _, [], _, _, h => by cases h
  | d :: ds, e :: es, i, p, h => by
    rcases List.mem_cons.mp h with rfl | h
    · exact ⟨0, d, e, rfl, rfl, rfl, rfl, rfl⟩
    · obtain ⟨j, d', e', h1, h2, h3, h4, h5⟩ := sgF_mem h
      exact ⟨j + 1, d', e', by omega, h2, h3, h4, h5⟩
theorem okL_at {sg : List (Str × Nat × Nat)} : ∀ {ds : DL1} {T : List FE} {i : Nat} {e : FE}, okL sg ds T = true → T[i]? = some e → ∃ d, ds[i]? = some d ∧ okF sg e d.2 = true
  | [], [], i, e, _, h => by simp at h
  | [], _ :: _, _, _, h, _ => by cases h
  | _ :: _, [], _, _, h, _ => by cases h
  | d :: ds, e' :: es, 0, e, h, hi => by
    cases hi
    exact ⟨d, rfl, (ba2 h).1⟩
  | d :: ds, e' :: es, i + 1, e, h, hi => okL_at (i := i) (ba2 h).2 hi
theorem allB_at : ∀ {ds : DL1} {T : List FE} {i : Nat} {d : Str × Stmt} {e : FE}, AllB ds T → ds[i]? = some d → T[i]? = some e → BindB d e.ps
  | [], _, _, _, _, _, h, _ => by simp at h
  | _ :: _, [], _, _, _, _, _, h => by simp at h
  | d :: ds, e :: es, 0, _, _, h, h1, h2 => by cases h1; cases h2; exact h.1
  | d :: ds, e :: es, i + 1, _, _, h, h1, h2 => allB_at (i := i) h.2 h1 h2
theorem says_all {fa : List He.Fa} {fn : List He.DefD} {K : PySem.W.Frag} (c : He.SaysD fa fn K) : ∀ f ∈ fa, f.ok K = true := by
  have h := (He.ba (show ((fa.all fun f => f.ok K) && fn.all fun d => d.ok K) = true from congrArg (fun z : He.AlD => z.1) c)).1
  exact List.all_eq_true.mp h
theorem walk_law {l : PySem.W.OpenLaw} {m n li dep : Nat} {x : Str} {e : FE} {q : Program} {loose : List Str} {XP : (Str → Option Value) → Heap → Prop} {d : DefRec} {ds : DL1} {T : List FE} {dl : Str × Stmt}
    (hn : l.most = some m) (hn2 : m ≤ sizeLine) (hdf : d.params.defaults = []) (hd : d.name = dl.1) (hr : RoomG (n + 1) callerA) (ok : okL (sgL ds T) ds T = true) (hb : AllB ds T) (he : T[li]? = some e) (hx : e.ps = [x]) (hl : ds[li]? = some dl)
    (pure : ∀ ns : List Int, ns.length ≤ m → ∃ fu st, lvl T fu n li [.scr ns] [] = .ok (.py (.bool true)) st) :
    PySem.W.WalkO q loose XP (He.hookD dep (faL ds) (fnL ds)).says l.row.toRowW d [] (fun f vs => PySem.call f vs) := by
  refine walkG (x := x) hn hn2 hdf hr fun w mg fa h Y G hmg => ?_
  obtain ⟨K, KX, c⟩ := Y
  have facts := says_all c
  have glo : ∀ {i : Nat} {p : Str × Stmt}, ds[i]? = some p → mg p.1 = some (.ref (adL ds K i)) := fun {i p} hp => by
    have z := He.glo_ok KX G (facts (.glo p.1) (List.mem_append_left _ (List.mem_map.mpr ⟨p, List.mem_of_getElem? hp, rfl⟩)))
    unfold adL
    rw [hp]
    exact z
  have hB : ∀ b ∈ blts, mg b = none := fun b hb => He.free_ok KX G (facts (.free b) (List.mem_append_right _ (List.mem_map.mpr ⟨b, hb, rfl⟩)))
  have hF : ∀ i e, T[i]? = some e → ∃ fd, DefOk K (sgL ds T) e (adL ds K i) fd ∧ ∃ p, ds[i]? = some p ∧ FunD K p.1 p.1 (defArgs p.2) (defBody p.2) (defScope p.2) [] [] (adL ds K i) fd := fun i e hi => by
    obtain ⟨p, h1, h2⟩ := okL_at ok hi
    obtain ⟨fd, F⟩ := c.def_ i (d := mkD p) (by unfold fnL; rw [List.getElem?_map, h1]; rfl)
    have F' : FunD K p.1 p.1 (defArgs p.2) (defBody p.2) (defScope p.2) [] [] (adL ds K i) fd := by
      unfold adL
      rw [h1]
      exact F
    exact ⟨fd, ⟨⟨p.1, p.1, p.2, [], F', h2⟩, F'.bindsN (allB_at hb h1 hi)⟩, p, h1, F'⟩
  have hS : ∀ p ∈ sgL ds T, ∃ e, T[p.2.1]? = some e ∧ e.ps.length = p.2.2 ∧ mg p.1 = some (.ref (adL ds K p.2.1)) := fun p hp => by
    obtain ⟨j, d', e', h1, h2, h3, h4, h5⟩ := sgF_mem hp
    rw [Nat.zero_add] at h1
    rw [h1, h4]
    exact ⟨e', h3, h5.symm, glo h2⟩
  obtain ⟨fd, D, p, hp, F⟩ := hF li e he
  rw [hl] at hp; cases hp
  have ef : fa = adL ds K li := by
    have z := glo hl
    rw [← hd, hmg] at z
    cases z; rfl
  subst ef
  have b := F.bindsA (ps := [x]) (by have z := allB_at hb hl he; rw [hx] at z; exact z)
  refine ⟨K, fd, fun vs H Q E => ∃ fu, spF K (adL ds K) (fun _ => 0) (lvl T fu n) li 1 vs H Q E, KX, fun s u => b s [u] rfl, fun H a ns hlen _ hS' => ?_, fun base _ _ => ?_⟩
  · obtain ⟨fu, st, e1⟩ := pure ns hlen
    exact ⟨fu, spF_law hS' e1⟩
  · have z := fun fu => all_ok (P := l.prog) (w := w) (K := K) (mg := mg) (base := base) (fa := adL ds K) (ca := fun _ => 0) (T := T) (sg := sgL ds T) (fu := fu) (fun i e hi => let ⟨fd, D, _⟩ := hF i e hi; ⟨fd, D⟩) hS hB n li e he fd D
    rw [hx] at z
    exact FnG.some z
end Ev
set_option maxHeartbeats 1000000
namespace Ev
open PySem
/-- no cell names one that is not there -/
def WF (st : Store) : Prop := st.all (cellUnder st.length) = true
theorem refsUnder_mono {n m : Nat} (h : n ≤ m) : ∀ (j : Nat) (d : D), refsUnder n j d = true → refsUnder m j d = true := by
  intro j
  induction j with
  | zero => intro d q; cases d <;> simp_all [refsUnder] <;> omega
  | succ j ih =>
    intro d q
    cases d with
    | tp ds =>
      simp only [refsUnder, List.all_eq_true] at q ⊢
      exact fun x hx => ih x (q x hx)
    | _ => simp_all [refsUnder] <;> omega
theorem cellUnder_mono {n m : Nat} (h : n ≤ m) {c : Cell} (q : cellUnder n c = true) : cellUnder m c = true := by
  cases c with
  | lst ds => simp only [cellUnder, List.all_eq_true] at q ⊢; exact fun x hx => refsUnder_mono h 3 x (q x hx)
  | dct kvs => simp only [cellUnder, List.all_eq_true] at q ⊢; exact fun x hx => refsUnder_mono h 3 _ (q x hx)
  | ins c fs => simp only [cellUnder, List.all_eq_true] at q ⊢; exact fun x hx => refsUnder_mono h 3 _ (q x hx)
  | frz d => rfl
theorem WF.nil : WF [] := rfl
theorem WF.app {st : Store} (h : WF st) {c : Cell} (hc : cellUnder (st.length + 1) c = true) : WF (st ++ [c]) := by
  unfold WF at h ⊢
  rw [List.length_append, List.all_append, Bool.and_eq_true]
  refine ⟨?_, by simpa using hc⟩
  rw [List.all_eq_true] at h ⊢
  exact fun x hx => cellUnder_mono (by simp) (h x hx)
theorem WF.set {st : Store} (h : WF st) {n : Nat} {c : Cell} (hc : cellUnder st.length c = true) : WF (st.set n c) := by
  unfold WF at h ⊢
  rw [List.length_set]
  rw [List.all_eq_true] at h ⊢
  intro x hx
  rcases List.mem_or_eq_of_mem_set hx with q | q
  · exact h x q
  · subst q; exact hc
/-- what a def gave alone -/
theorem trim_py {st : Store} {d : PD} (l : Store) (h : WF st) : trim st.length (.py d) (st ++ l) = st := by
  unfold trim
  have e : (st ++ l).take st.length = st := by simp
  rw [e]
  rw [if_pos]
  unfold WF at h
  simp [refsUnder, h]
theorem trim_py0 {st : Store} {d : PD} (h : WF st) : trim st.length (.py d) st = st := by
  have := trim_py (d := d) [] h
  rwa [List.append_nil] at this
theorem get_last (st : Store) (c : Cell) : (st ++ [c])[st.length]? = some c := by simp
theorem set_last (st : Store) (c c' : Cell) : (st ++ [c]).set st.length c' = st ++ [c'] := by simp
/-- a comprehension whose turns leave the store alone -/
theorem lcLoop_pure {f : D → Store → Rs (Option D)} {g : D → Option D} {st : Store} : ∀ (ds acc : List D), (∀ d ∈ ds, f d st = .ok (g d) st) → acc.length + ds.length ≤ line → lcLoop f acc ds st = .ok (acc ++ ds.filterMap g) st
  | [], acc, _, _ => by simp [lcLoop]
  | d :: ds, acc, h, hl => by
    unfold lcLoop
    rw [h d List.mem_cons_self, Rs.bind_ok]
    rw [List.length_cons] at hl
    cases e : g d with
    | none =>
      simp only
      rw [lcLoop_pure ds acc (fun x hx => h x (List.mem_cons_of_mem _ hx)) (by omega), List.filterMap_cons, e]
    | some x =>
      simp only
      rw [if_pos (by omega), lcLoop_pure ds (acc ++ [x]) (fun x hx => h x (List.mem_cons_of_mem _ hx)) (by rw [List.length_append]; simp; omega), List.filterMap_cons, e]
      simp
theorem lcLoop_map {f : D → Store → Rs (Option D)} {g : D → D} {st : Store} (ds : List D) (h : ∀ d ∈ ds, f d st = .ok (some (g d)) st) (hl : ds.length ≤ line) : lcLoop f [] ds st = .ok (ds.map g) st := by
  rw [lcLoop_pure (g := fun d => some (g d)) ds [] h (by simpa using hl)]
  simp
theorem pys_map' (l : List PD) : pys (l.map D.py) = some l := pys_map l
theorem ixN_nat {n j : Nat} (h : j < n) : ixN n (j : Int) = some j := by
  show L2.ixN n (j : Int) = some j
  unfold L2.ixN
  rw [if_pos (by omega), if_pos (by omega)]
  simp
section
variable {Δ : Dn} {fu : Nat} {s : S} {r : Ss} {ρ ρ' : EnvD} {st st' : Store} {d : D}
theorem st_nx (h : ex Δ fu s ρ st = .go .nx ρ' st') : exs Δ fu (.cons s r) ρ st = exs Δ fu r ρ' st' := by
  show (ex Δ fu s ρ st).seq (exs Δ fu r) = _
  rw [h]; rfl
theorem st_fl {f : Fl} (h : ex Δ fu s ρ st = .go f ρ' st') (hf : f ≠ .nx) : exs Δ fu (.cons s r) ρ st = .go f ρ' st' := by
  show (ex Δ fu s ρ st).seq (exs Δ fu r) = _
  rw [h]
  cases f <;> first | rfl | exact absurd rfl hf
theorem s_set {i : Nat} {e : E} (h : ev Δ e ρ st = .ok d st') : ex Δ fu (.set i e) ρ st = .go .nx (ρ.set i (some d)) st' := by
  unfold ex
  rw [h]; rfl
theorem s_ret {e : E} (h : ev Δ e ρ st = .ok d st') : ex Δ fu (.ret e) ρ st = .go (.rt d) ρ st' := by
  unfold ex
  rw [h]; rfl
theorem s_ift {t : T} {a b : Ss} (h : evT Δ t ρ st = .ok true st') : ex Δ fu (.ife t a b) ρ st = exs Δ fu a ρ st' := by
  unfold ex
  rw [h]; rfl
theorem s_iff {t : T} {a b : Ss} (h : evT Δ t ρ st = .ok false st') : ex Δ fu (.ife t a b) ρ st = exs Δ fu b ρ st' := by
  unfold ex
  rw [h]; rfl
theorem s_stI {a i v : E} {x y z : D} {st1 st2 st3 : Store} (h1 : ev Δ v ρ st = .ok z st1) (h2 : ev Δ a ρ st1 = .ok x st2) (h3 : ev Δ i ρ st2 = .ok y st3) (h4 : setix st3 x y z = some st') : ex Δ fu (.stI a i v) ρ st = .go .nx ρ st' := by
  unfold ex
  rw [h1, Rs.to_ok, h2, Rs.to_ok, h3, Rs.to_ok, h4]
theorem s_for {tg : Tg} {it : It} {b : Ss} {ds : List D} (h : evI Δ it ρ st = .ok ds st') : ex Δ fu (.for tg it b) ρ st = forLoop (fun d ρ st => bindT tg st d ρ (exs Δ fu b)) ds ρ st' := by
  unfold ex
  rw [h]; rfl
theorem s_nil : exs Δ fu .nil ρ st = .go .nx ρ st := by unfold exs; rfl
theorem e_var {i : Nat} {p : PD} (h : ρ[i]? = some (some (.py p))) : ev Δ (.var i) ρ st = .ok (.py p) st := by
  unfold ev
  rw [h]
theorem e_ref {i n : Nat} {c : Cell} (h : ρ[i]? = some (some (.ref n))) (h2 : st[n]? = some c) (hc : ∀ p, c ≠ .frz p) : ev Δ (.var i) ρ st = .ok (.ref n) st := by
  unfold ev
  rw [h]
  simp only [h2]
  cases c with
  | frz p => exact absurd rfl (hc p)
  | _ => rfl
theorem e_con {p : PD} : ev Δ (.con p) ρ st = .ok (.py p) st := by unfold ev; rfl
theorem e_bin {op : BOp} {a b : E} {x y z : D} {st1 : Store} (h1 : ev Δ a ρ st = .ok x st1) (h2 : ev Δ b ρ st1 = .ok y st') (h3 : bop st' op x y = some z) : ev Δ (.bin op a b) ρ st = .ok z st' := by
  unfold ev
  rw [h1, Rs.bind_ok, h2, Rs.bind_ok, h3]; rfl
theorem e_cmp {op : COp} {a b : E} {x y : D} {k : Bool} {st1 : Store} (h1 : ev Δ a ρ st = .ok x st1) (h2 : ev Δ b ρ st1 = .ok y st') (h3 : cop st' op x y = some k) : ev Δ (.cmp op a b) ρ st = .ok (.py (.bool k)) st' := by
  unfold ev
  rw [h1, Rs.bind_ok, h2, Rs.bind_ok, h3]; rfl
theorem e_ix {a b : E} {x y z : D} {st1 : Store} (h1 : ev Δ a ρ st = .ok x st1) (h2 : ev Δ b ρ st1 = .ok y st') (h3 : getix st' x y = some z) : ev Δ (.ix a b) ρ st = .ok z st' := by
  unfold ev
  rw [h1, Rs.bind_ok, h2, Rs.bind_ok, h3]; rfl
theorem e_bi {b : Bi} {es : Es} {ds : List D} {z : D} (h1 : evs Δ es ρ st = .ok ds st') (h3 : bi st' b ds = some z) : ev Δ (.bi b es) ρ st = .ok z st' := by
  unfold ev
  rw [h1, Rs.bind_ok, h3]; rfl
theorem e_call {f : Nat} {es : Es} {ds : List D} {r : Rs D} (h1 : evs Δ es ρ st = .ok ds st') (h3 : Δ f ds st' = r) : ev Δ (.call f es) ρ st = r := by
  unfold ev
  rw [h1, Rs.bind_ok, h3]
theorem es_nil : evs Δ .nil ρ st = .ok [] st := by unfold evs; rfl
theorem es_cons {a : E} {r : Es} {x : D} {xs : List D} {st1 : Store} (h1 : ev Δ a ρ st = .ok x st1) (h2 : evs Δ r ρ st1 = .ok xs st') : evs Δ (.cons a r) ρ st = .ok (x :: xs) st' := by
  unfold evs
  rw [h1, Rs.bind_ok, h2]; rfl
theorem t_v {a : E} {x : D} {k : Bool} (h1 : ev Δ a ρ st = .ok x st') (h2 : truth st' x = some k) : evT Δ (.v a) ρ st = .ok k st' := by
  unfold evT
  rw [h1, Rs.bind_ok, h2]; rfl
theorem t_b {a : E} {k : Bool} (h1 : ev Δ a ρ st = .ok (.py (.bool k)) st') : evT Δ (.v a) ρ st = .ok k st' := t_v h1 rfl
end
/-- a def runs -/
theorem run_ret {Δ : Dn} {fu ar sl : Nat} {b : Ss} {ds : List D} {st st' : Store} {ρ : EnvD} {p : PD} (hl : ds.length = ar) (h : exs Δ fu b (ds.map some ++ List.replicate (sl - ar) none) st = .go (.rt (.py p)) ρ st') {st2 : Store} (ht : trim st.length (.py p) st' = st2) : runFn Δ fu ar sl b ds st = .ok (.py p) st2 := by
  unfold runFn
  rw [if_pos hl, h]
  simp only
  rw [ht]
theorem run_any {Δ : Dn} {fu ar sl : Nat} {b : Ss} {ds : List D} {st st' : Store} {ρ : EnvD} {d : D} (hl : ds.length = ar) (h : exs Δ fu b (ds.map some ++ List.replicate (sl - ar) none) st = .go (.rt d) ρ st') {st2 : Store} (ht : trim st.length d st' = st2) : runFn Δ fu ar sl b ds st = .ok d st2 := by
  unfold runFn
  rw [if_pos hl, h]
  simp only
  rw [ht]
theorem trim_ref {st st' : Store} : trim st.length (.ref st.length) st' = st' := by
  unfold trim
  rw [if_neg]
  simp [refsUnder]
theorem trim_set {st : Store} {p : PD} {n : Nat} {c : Cell} (h : WF st) (hc : cellUnder st.length c = true) : trim st.length (.py p) (st.set n c) = st.set n c := by
  have := trim_py0 (d := p) (h.set (n := n) hc)
  rwa [List.length_set] at this
section
variable {Δ : Dn} {fu : Nat} {s : S} {r : Ss} {ρ ρ' : EnvD} {st st' : Store} {d : D}
theorem small_of {j : Int} (h1 : -18446744073709551616 < j) (h2 : j < 18446744073709551616) : small j = true := by
  unfold small
  rw [decide_eq_true (show -(2 ^ 64 : Int) < j by omega), decide_eq_true (show j < (2 ^ 64 : Int) by omega)]; rfl
theorem b_mulR {i j : Int} (h : small j = true) : bop st .mul (.py (.int i)) (.py (.int j)) = some (.py (.int (i * j))) := by
  show (if (small i || small j) = true then _ else _) = _
  rw [h, Bool.or_true, if_pos rfl]
theorem b_mulL {i j : Int} (h : small i = true) : bop st .mul (.py (.int i)) (.py (.int j)) = some (.py (.int (i * j))) := by
  show (if (small i || small j) = true then _ else _) = _
  rw [h, Bool.true_or, if_pos rfl]
theorem b_fdiv {i j : Int} (h1 : 0 < j) (h2 : j < 1073741824) : bop st .fdiv (.py (.int i)) (.py (.int j)) = some (.py (.int (i / j))) := by
  show (if (decide (0 < j) && decide (j < 1073741824)) = true then _ else _) = _
  rw [decide_eq_true h1, decide_eq_true h2]; rfl
theorem b_mod {i j : Int} (h1 : 0 < j) : bop st .mod (.py (.int i)) (.py (.int j)) = some (.py (.int (i % j))) := by
  show (if decide (0 < j) = true then _ else _) = _
  rw [decide_eq_true h1]; rfl
theorem e_tup {es : Es} {ds : List D} (h : evs Δ es ρ st = .ok ds st') : ev Δ (.tup es) ρ st = .ok (mkTup ds) st' := by
  unfold ev
  rw [h]; rfl
theorem e_isc {c : PD} {ng : Bool} {a : E} {x : D} {k : Bool} (h : ev Δ a ρ st = .ok x st') (h2 : isc c x = some k) : ev Δ (.isc c ng a) ρ st = .ok (.py (.bool (k != ng))) st' := by
  unfold ev
  rw [h, Rs.bind_ok, h2]; rfl
theorem t_and {a b : T} {k k' : Bool} {st1 : Store} (h1 : evT Δ a ρ st = .ok k st1) (h2 : k = true → evT Δ b ρ st1 = .ok k' st') (h3 : k = false → st' = st1) : evT Δ (.and a b) ρ st = .ok (k && k') st' := by
  unfold evT
  rw [h1, Rs.bind_ok]
  cases k with
  | true => rw [if_pos rfl, h2 rfl]; rfl
  | false => rw [if_neg Bool.false_ne_true, h3 rfl]; rfl
theorem t_or {a b : T} {k k' : Bool} {st1 : Store} (h1 : evT Δ a ρ st = .ok k st1) (h2 : k = false → evT Δ b ρ st1 = .ok k' st') (h3 : k = true → st' = st1) : evT Δ (.or a b) ρ st = .ok (k || k') st' := by
  unfold evT
  rw [h1, Rs.bind_ok]
  cases k with
  | true => rw [if_pos rfl, h3 rfl]; rfl
  | false => rw [if_neg Bool.false_ne_true, h2 rfl]; rfl
theorem t_nt {a : T} {k : Bool} (h1 : evT Δ a ρ st = .ok k st') : evT Δ (.nt a) ρ st = .ok (!k) st' := by
  unfold evT
  rw [h1, Rs.bind_ok]
theorem t_yes : evT Δ .yes ρ st = .ok true st := by unfold evT; rfl
theorem e_li {l : L} {ds : List D} {ps : List PD} (h : evL Δ l ρ st = .ok ds st') (h2 : pys ds = some ps) : ev Δ (.li l) ρ st = .ok (.py (.list ps)) st' := by
  unfold ev
  rw [h, Rs.bind_ok, h2]
theorem e_cell {l : L} {ds : List D} (h : evL Δ l ρ st = .ok ds st') : ev Δ (.cell l) ρ st = .ok (.ref st'.length) (st' ++ [.lst ds]) := by
  unfold ev
  rw [h]; rfl
theorem l_lst {es : Es} {ds : List D} (h : evs Δ es ρ st = .ok ds st') (hl : ds.length ≤ line) : evL Δ (.lst es) ρ st = .ok ds st' := by
  unfold evL
  rw [h, Rs.bind_ok, if_pos hl]
theorem i_rng {a : E} {j : Int} (h : ev Δ a ρ st = .ok (.py (.int j)) st') (hf : fit j = true) : evI Δ (.rng a) ρ st = .ok (rangeD 0 j) st' := by
  unfold evI
  rw [h, Rs.bind_ok]
  simp only [hf, if_true]
theorem i_rng2 {a b : E} {i j : Int} {st1 : Store} (h : ev Δ a ρ st = .ok (.py (.int i)) st1) (h' : ev Δ b ρ st1 = .ok (.py (.int j)) st') (hf : fit i = true) (hf' : fit j = true) : evI Δ (.rng2 a b) ρ st = .ok (rangeD i j) st' := by
  unfold evI
  rw [h, Rs.bind_ok, h', Rs.bind_ok]
  simp only [hf, hf', Bool.and_self, if_true]
theorem i_e {a : E} {l : List PD} (h : ev Δ a ρ st = .ok (.py (.list l)) st') : evI Δ (.e a) ρ st = .ok (l.map .py) st' := by
  unfold evI
  rw [h]; rfl
theorem i_t {a : E} {l : List PD} (h : ev Δ a ρ st = .ok (.py (.tuple l)) st') : evI Δ (.e a) ρ st = .ok (l.map .py) st' := by
  unfold evI
  rw [h]; rfl
theorem l_lc {elt : E} {tg : Tg} {own : List Nat} {it : It} {t : T} {ds xs : List D} {st1 : Store} (h : evI Δ it ρ st = .ok ds st1) (h2 : lcLoop (lcTurn (ev Δ elt) (evT Δ t) tg (wipe ρ own)) [] ds st1 = .ok xs st') : evL Δ (.lc elt tg own it t) ρ st = .ok xs st' := by
  unfold evL
  rw [h, Rs.bind_ok, h2]
theorem s_app {a v : E} {x z : D} {st1 st2 : Store} (h1 : ev Δ a ρ st = .ok x st1) (h2 : isLst st1 x = true) (h3 : ev Δ v ρ st1 = .ok z st2) (h4 : appD st2 x z = some st') : ex Δ fu (.app a v) ρ st = .go .nx ρ st' := by
  unfold ex
  rw [h1, Rs.to_ok, if_pos h2, h3, Rs.to_ok, h4]
theorem s_swp {i j : Nat} {a b : E} {x y : D} {st1 : Store} (h1 : ev Δ a ρ st = .ok x st1) (h2 : ev Δ b ρ st1 = .ok y st') : ex Δ fu (.swp i j a b) ρ st = .go .nx ((ρ.set i (some x)).set j (some y)) st' := by
  unfold ex
  rw [h1, Rs.to_ok, h2]; rfl
theorem s_asg {t : Tg} {a : E} {x : D} (h1 : ev Δ a ρ st = .ok x st') (h2 : asg t st' x ρ = some ρ') : ex Δ fu (.asg t a) ρ st = .go .nx ρ' st' := by
  unfold ex
  rw [h1, Rs.to_ok]
  unfold bindT
  rw [h2]
theorem s_aug {i : Nat} {op : BOp} {a : E} {x y z : D} (h0 : ρ[i]? = some (some x)) (h1 : ev Δ a ρ st = .ok y st') (h2 : augI op x y = some z) : ex Δ fu (.aug i op a) ρ st = .go .nx (ρ.set i (some z)) st' := by
  unfold ex
  rw [h0]
  simp only
  rw [h1, Rs.to_ok, h2]
end
/-- a loop that runs through -/
theorem for_inv {f : D → EnvD → Store → RS} (I : Nat → EnvD → Store → Prop) : ∀ (ds : List D) (i : Nat) {ρ : EnvD} {st : Store}, (∀ j d ρ st, ds[j]? = some d → I (i + j) ρ st → ∃ ρ' st', f d ρ st = .go .nx ρ' st' ∧ I (i + j + 1) ρ' st') → I i ρ st → ∃ ρ' st', forLoop f ds ρ st = .go .nx ρ' st' ∧ I (i + ds.length) ρ' st'
  | [], i, ρ, st, _, h0 => ⟨ρ, st, rfl, h0⟩
  | d :: ds, i, ρ, st, h, h0 => by
    obtain ⟨ρ1, st1, e1, h1⟩ := h 0 d ρ st rfl h0
    obtain ⟨ρ2, st2, e2, h2⟩ := for_inv I ds (i + 1) (ρ := ρ1) (st := st1) (fun j d' ρ' st' hd hI => by
      obtain ⟨ρ3, st3, e3, h3⟩ := h (j + 1) d' ρ' st' hd (by rw [show i + (j + 1) = i + 1 + j by omega]; exact hI)
      exact ⟨ρ3, st3, e3, by rw [show i + 1 + j + 1 = i + (j + 1) + 1 by omega]; exact h3⟩) h1
    refine ⟨ρ2, st2, ?_, by rw [List.length_cons, show i + (ds.length + 1) = i + 1 + ds.length by omega]; exact h2⟩
    show (f d ρ st).turn _ = _
    rw [e1]
    exact e2
theorem rangeD_len (lo hi : Int) : (rangeD lo hi).length = (hi - lo).toNat := by simp [rangeD]
theorem rangeD_at {lo hi : Int} {j : Nat} {d : D} (h : (rangeD lo hi)[j]? = some d) : j < (hi - lo).toNat ∧ d = .py (.int (lo + j)) := rangeD_get lo hi j d h
theorem bind_nm {i : Nat} {st : Store} {d : D} {ρ : EnvD} {k : EnvD → Store → RS} : bindT (.nm i) st d ρ k = k (ρ.set i (some d)) st := rfl
theorem frz_ints {st : Store} {l : List Int} : frzD 6 (st ++ [.lst (l.map fun i => .py (.int i))]) (.ref st.length) = some (.list (l.map .int), st ++ [.frz (.list (l.map .int))]) := by
  have go : ∀ (k : Nat) (l : List Int) (acc : List PD) (s : Store), (l.map fun i => D.py (.int i)).foldlM (fun (p : List PD × Store) d => (frzD k p.2 d).map fun q => (p.1 ++ [q.1], q.2)) (acc, s) = some (acc ++ l.map .int, s) := by
    intro k l
    induction l with
    | nil => intro acc s; simp
    | cons a r ih =>
      intro acc s
      simp only [List.map_cons, List.foldlM_cons]
      have e : frzD k s (.py (.int a)) = some (.int a, s) := by cases k <;> rfl
      rw [e]
      show List.foldlM _ (acc ++ [.int a], s) _ = _
      rw [ih]
      simp
  unfold frzD
  rw [get_last]
  simp only
  rw [go 5 l [] _]
  simp
theorem e_frz_ints {Δ : Dn} {a : E} {ρ : EnvD} {st0 st : Store} {l : List Int} (h : ev Δ a ρ st0 = .ok (.ref st.length) (st ++ [.lst (l.map fun i => .py (.int i))])) : ev Δ (.frz a) ρ st0 = .ok (.py (.list (l.map .int))) (st ++ [.frz (.list (l.map .int))]) := by
  unfold ev
  rw [h, Rs.bind_ok, frz_ints]
theorem app_last {st : Store} {l : List Int} {z : Int} (h : l.length < line) : appD (st ++ [.lst (l.map fun i => .py (.int i))]) (.ref st.length) (.py (.int z)) = some (st ++ [.lst ((l ++ [z]).map fun i => .py (.int i))]) := by
  unfold appD
  simp only [get_last, List.length_map]
  rw [if_pos h, set_last]
  simp
theorem isLst_last {st : Store} {l : List D} : isLst (st ++ [.lst l]) (.ref st.length) = true := by
  unfold isLst
  simp only [get_last]
theorem len_last {st : Store} {l : List D} : bi (st ++ [.lst l]) .len [.ref st.length] = some (.py (.int l.length)) := by
  simp only [bi, get_last]
theorem len_py {st : Store} {l : List PD} : bi st .len [.py (.list l)] = some (.py (.int l.length)) := by simp [bi, seqOf, Ev.listOf]
section
variable {Δ : Dn} {ρ : EnvD} {st st' : Store}
theorem b_add {i j : Int} : bop st .add (.py (.int i)) (.py (.int j)) = some (.py (.int (i + j))) := rfl
theorem b_sub {i j : Int} : bop st .sub (.py (.int i)) (.py (.int j)) = some (.py (.int (i - j))) := rfl
theorem b_ladd {x y : List PD} (h : x.length + y.length ≤ line) : bop st .add (.py (.list x)) (.py (.list y)) = some (.py (.list (x ++ y))) := by
  show (if x.length + y.length ≤ line then _ else _) = _
  rw [if_pos h]
theorem b_tadd {x y : List PD} (h : x.length + y.length ≤ line) : bop st .add (.py (.tuple x)) (.py (.tuple y)) = some (.py (.tuple (x ++ y))) := by
  show (if x.length + y.length ≤ line then _ else _) = _
  rw [if_pos h]
theorem c_lt {i j : Int} : cop st .lt (.py (.int i)) (.py (.int j)) = some (decide (i < j)) := rfl
theorem c_le {i j : Int} : cop st .le (.py (.int i)) (.py (.int j)) = some (decide (i ≤ j)) := rfl
theorem c_gt {i j : Int} : cop st .gt (.py (.int i)) (.py (.int j)) = some (decide (j < i)) := rfl
theorem c_ge {i j : Int} : cop st .ge (.py (.int i)) (.py (.int j)) = some (decide (j ≤ i)) := rfl
theorem c_eqI {i j : Int} : cop st .eq (.py (.int i)) (.py (.int j)) = some (decide (i = j)) := by
  show (if (SeqAt.shaped (.int i) && SeqAt.shaped (.int j)) = true then some (PyData.eqv (.int i) (.int j)) else none) = _
  rw [if_pos (by rfl)]
  simp only [PyData.eqv]
  rfl
theorem c_neI {i j : Int} : cop st .ne (.py (.int i)) (.py (.int j)) = some (!decide (i = j)) := by
  show (if (SeqAt.shaped (.int i) && SeqAt.shaped (.int j)) = true then some (!PyData.eqv (.int i) (.int j)) else none) = _
  rw [if_pos (by rfl)]
  simp only [PyData.eqv]
  rfl
theorem n_int {i : Int} : bi st .int [.py (.int i)] = some (.py (.int i)) := rfl
theorem n_abs {i : Int} : bi st .abs [.py (.int i)] = some (.py (.int (if i < 0 then -i else i))) := rfl
theorem n_max2 {i j : Int} : bi st .max2 [.py (.int i), .py (.int j)] = some (.py (.int (if j > i then j else i))) := rfl
theorem n_min2 {i j : Int} : bi st .min2 [.py (.int i), .py (.int j)] = some (.py (.int (if j < i then j else i))) := rfl
theorem n_lenT {l : List PD} : bi st .len [.py (.tuple l)] = some (.py (.int l.length)) := by simp [bi, seqOf, Ev.listOf, tupOf]
theorem e_ix2 {a b : E} {x y z : D} {st1 : Store} (h1 : ev Δ a ρ st = .ok x st1) (h2 : ev Δ b ρ st1 = .ok y st') (h3 : getix st' x y = some z) : ev Δ (.ix a b) ρ st = .ok z st' := e_ix h1 h2 h3
end
theorem b_pow {st : Store} {i j : Int} {k : Nat} (h1 : j = (k : Int)) (h2 : k ≤ 1000000) (h3 : small i = true) : bop st .pow (.py (.int i)) (.py (.int j)) = some (.py (.int (i ^ k))) := by
  subst h1
  show (if (decide (0 ≤ (k : Int)) && decide ((k : Int) ≤ 1000000) && small i) = true then some (D.py (.int (i ^ (k : Int).toNat))) else none) = _
  rw [if_pos (by rw [decide_eq_true (by omega), decide_eq_true (by omega), h3]; rfl)]
  rfl
theorem ten18 {st : Store} : bop st .pow (.py (.int 10)) (.py (.int 18)) = some (.py (.int 1000000000000000000)) := b_pow (k := 18) rfl (by omega) (small_of (by omega) (by omega))
def RS.out : RS → Option (Fl × Store)
  | .go f _ st => some (f, st)
  | .bad => none
theorem run_out {Δ : Dn} {fu ar sl : Nat} {b : Ss} {ds : List D} {st st' : Store} {d : D} {ρ0 : EnvD} (hl : ds.length = ar) (e0 : ds.map some ++ List.replicate (sl - ar) none = ρ0) (h : (exs Δ fu b ρ0 st).out = some (.rt d, st')) {st2 : Store} (ht : trim st.length d st' = st2) : runFn Δ fu ar sl b ds st = .ok d st2 := by
  subst e0
  cases e : exs Δ fu b (ds.map some ++ List.replicate (sl - ar) none) st with
  | bad => rw [e] at h; cases h
  | go f ρ s =>
    rw [e] at h
    cases h
    exact run_any hl e ht
/-- a loop that looks for the first -/
theorem for_first {α : Type} {f : D → EnvD → Store → RS} {st : Store} (e : α → D) (P : α → Bool) (R : α → D) (I : EnvD → Prop) : ∀ (l : List α) (ρ : EnvD), I ρ → (∀ x ∈ l, ∀ ρ, I ρ → (P x = true → ∃ ρ', f (e x) ρ st = .go (.rt (R x)) ρ' st) ∧ (P x = false → ∃ ρ', f (e x) ρ st = .go .nx ρ' st ∧ I ρ')) →
    (∀ x, l.find? P = some x → ∃ ρ', forLoop f (l.map e) ρ st = .go (.rt (R x)) ρ' st) ∧ (l.find? P = none → ∃ ρ', forLoop f (l.map e) ρ st = .go .nx ρ' st ∧ I ρ')
  | [], ρ, h0, _ => ⟨fun x h => (by cases h), fun _ => ⟨ρ, rfl, h0⟩⟩
  | y :: l, ρ, h0, h => by
    obtain ⟨h1, h2⟩ := h y List.mem_cons_self ρ h0
    rw [List.map_cons, List.find?_cons]
    cases hp : P y with
    | true =>
      obtain ⟨ρ', e1⟩ := h1 hp
      refine ⟨fun x hx => ?_, fun hx => (by cases hx)⟩
      cases hx
      refine ⟨ρ', ?_⟩
      show (f (e y) ρ st).turn _ = _
      rw [e1]; rfl
    | false =>
      obtain ⟨ρ', e1, h3⟩ := h2 hp
      obtain ⟨k1, k2⟩ := for_first e P R I l ρ' h3 fun x hx => h x (List.mem_cons_of_mem _ hx)
      have q : forLoop f (e y :: l.map e) ρ st = forLoop f (l.map e) ρ' st := by
        show (f (e y) ρ st).turn _ = _
        rw [e1]; rfl
      rw [q]
      exact ⟨k1, k2⟩
theorem e_trng {Δ : Dn} {a : E} {ρ : EnvD} {st st' : Store} {m : Nat} (h : ev Δ a ρ st = .ok (.py (.int m)) st') (hm : m ≤ 1000) : ev Δ (.trng a) ρ st = .ok (.py (.tuple ((List.range m).map fun (i : Nat) => .int i))) st' := by
  unfold ev
  rw [h, Rs.bind_ok]
  simp only
  rw [if_pos (by rw [decide_eq_true (by omega), decide_eq_true (by omega)]; rfl), Int.toNat_natCast]
theorem run_at {Δ : Dn} {fu ar sl : Nat} {b : Ss} {ds : List D} {st st' : Store} {ρ ρ0 : EnvD} {d : D} (hl : ds.length = ar) (e0 : ds.map some ++ List.replicate (sl - ar) none = ρ0) (h : exs Δ fu b ρ0 st = .go (.rt d) ρ st') {st2 : Store} (ht : trim st.length d st' = st2) : runFn Δ fu ar sl b ds st = .ok d st2 := by
  subst e0
  exact run_any hl h ht
theorem lcLoop_A {α : Type} {f : D → Store → Rs (Option D)} {st : Store} {e : α → D} {g : α → Option D} : ∀ (xs : List α) (acc : List D), (∀ x ∈ xs, f (e x) st = .ok (g x) st) → acc.length + xs.length ≤ line → lcLoop f acc (xs.map e) st = .ok (acc ++ xs.filterMap g) st
  | [], acc, _, _ => by simp [lcLoop]
  | x :: xs, acc, h, hl => by
    rw [List.map_cons]
    unfold lcLoop
    rw [h x List.mem_cons_self, Rs.bind_ok]
    rw [List.length_cons] at hl
    cases q : g x with
    | none =>
      simp only
      rw [lcLoop_A xs acc (fun y hy => h y (List.mem_cons_of_mem _ hy)) (by omega), List.filterMap_cons, q]
    | some d =>
      simp only
      rw [if_pos (by omega), lcLoop_A xs (acc ++ [d]) (fun y hy => h y (List.mem_cons_of_mem _ hy)) (by rw [List.length_append]; simp; omega), List.filterMap_cons, q]
      simp
theorem filterMap_some {α β : Type} (g : α → β) (l : List α) : l.filterMap (fun x => some (g x)) = l.map g := by
  induction l with
  | nil => rfl
  | cons a r ih => simp
/-- a comprehension over one name -/
theorem l_lcm {α : Type} {Δ : Dn} {elt : E} {i : Nat} {it : It} {ρ : EnvD} {st st0 : Store} (xs : List α) (e g : α → D) (hI : evI Δ it ρ st0 = .ok (xs.map e) st) (hE : ∀ x ∈ xs, ev Δ elt ((wipe ρ [i]).set i (some (e x))) st = .ok (g x) st) (hl : xs.length ≤ line) : evL Δ (.lc elt (.nm i) [i] it .yes) ρ st0 = .ok (xs.map g) st := by
  refine l_lc hI ?_
  rw [lcLoop_A (g := fun x => some (g x)) xs [] (fun x hx => ?_) (by simpa using hl), filterMap_some]
  · rfl
  · unfold lcTurn
    simp only [asg]
    rw [t_yes]
    simp only [Rs.noex_ok, Rs.bind_ok, if_true]
    rw [hE x hx]; rfl
theorem l_lcf {α : Type} {Δ : Dn} {elt : E} {i : Nat} {it : It} {t : T} {ρ : EnvD} {st st0 : Store} (xs : List α) (e g : α → D) (p : α → Bool) (hI : evI Δ it ρ st0 = .ok (xs.map e) st) (hT : ∀ x ∈ xs, evT Δ t ((wipe ρ [i]).set i (some (e x))) st = .ok (p x) st)
    (hE : ∀ x ∈ xs, p x = true → ev Δ elt ((wipe ρ [i]).set i (some (e x))) st = .ok (g x) st) (hl : xs.length ≤ line) : evL Δ (.lc elt (.nm i) [i] it t) ρ st0 = .ok ((xs.filter p).map g) st := by
  refine l_lc hI ?_
  rw [lcLoop_A (g := fun x => if p x = true then some (g x) else none) xs [] (fun x hx => ?_) (by simpa using hl)]
  · rw [List.nil_append]
    congr 1
    clear hI hT hE hl
    induction xs with
    | nil => rfl
    | cons a r ih =>
      rw [List.filterMap_cons, List.filter_cons]
      cases p a <;> simp [ih]
  · unfold lcTurn
    simp only [asg]
    rw [hT x hx]
    simp only [Rs.noex_ok, Rs.bind_ok]
    cases q : p x with
    | true => simp only [if_true]; rw [hE x hx q]; rfl
    | false => rfl
end Ev
set_option maxHeartbeats 1000000
namespace Ev
open PySem
mutual
def sm : PD → Bool
  | .none => true
  | .bool _ => true
  | .int i => decide (i.natAbs < 1000000000)
  | .str _ => false
  | .list xs => smAll xs
  | .tuple xs => smAll xs
  | .dict _ => false
def smAll : List PD → Bool
  | [] => true
  | x :: xs => sm x && smAll xs
end
mutual
def nods : PD → Nat
  | .none => 1
  | .bool _ => 1
  | .int _ => 1
  | .str _ => 1
  | .list xs => 1 + nodsAll xs
  | .tuple xs => 1 + nodsAll xs
  | .dict _ => 1
def nodsAll : List PD → Nat
  | [] => 0
  | x :: xs => nods x + nodsAll xs
end
theorem log_lt {n : Nat} (h : n < 1000000000) : n.log2 < 30 := by
  by_cases h0 : n = 0
  · subst h0; decide
  · exact (Nat.log2_lt h0).mpr (Nat.lt_of_lt_of_le h (by decide))
mutual
theorem sm_ok : ∀ d : PD, sm d = true → d.canLay0 = true ∧ d.showable = true ∧ d.leavesShort 13 = true ∧ d.weight + 1 ≤ 32 * nods d
  | .none, _ => ⟨rfl, rfl, rfl, by decide⟩
  | .bool _, _ => ⟨rfl, rfl, rfl, by simp [PyData.weight, nods]⟩
  | .int i, h => by
    have h1 : i.natAbs < 1000000000 := by simpa only [sm, decide_eq_true_eq] using h
    have h2 := log_lt h1
    refine ⟨rfl, ?_, ?_, ?_⟩
    · simp only [PyData.showable, decide_eq_true_eq]; omega
    · simp only [PyData.leavesShort, decide_eq_true_eq]
      exact PyData.shown_int_le (Nat.lt_of_lt_of_le h1 (by decide))
    · simp only [PyData.weight, nods]
      split <;> omega
  | .str _, h => by simp [sm] at h
  | .list xs, h => by
    obtain ⟨a, b, c, d⟩ := smAll_ok xs (by simpa only [sm] using h)
    exact ⟨by simpa only [PyData.canLay0] using a, by simpa only [PyData.showable] using b, by simpa only [PyData.leavesShort] using c, by simp only [PyData.weight, nods]; omega⟩
  | .tuple xs, h => by
    obtain ⟨a, b, c, d⟩ := smAll_ok xs (by simpa only [sm] using h)
    exact ⟨by simpa only [PyData.canLay0] using a, by simpa only [PyData.showable] using b, by simpa only [PyData.leavesShort] using c, by simp only [PyData.weight, nods]; omega⟩
  | .dict _, h => by simp [sm] at h
theorem smAll_ok : ∀ xs : List PD, smAll xs = true → PyData.canLayAll0 xs = true ∧ PyData.showableAll xs = true ∧ PyData.leavesShortAll 13 xs = true ∧ PyData.weightAll xs ≤ 32 * nodsAll xs
  | [], _ => ⟨rfl, rfl, rfl, by simp [PyData.weightAll, nodsAll]⟩
  | x :: xs, h => by
    have h' : sm x = true ∧ smAll xs = true := by simpa only [smAll, Bool.and_eq_true] using h
    obtain ⟨a, b, c, d⟩ := sm_ok x h'.1
    obtain ⟨a', b', c', d'⟩ := smAll_ok xs h'.2
    refine ⟨?_, ?_, ?_, ?_⟩
    · simp only [PyData.canLayAll0, a, a', Bool.and_self]
    · simp only [PyData.showableAll, b, b', Bool.and_self]
    · simp only [PyData.leavesShortAll, c, c', Bool.and_self]
    · simp only [PyData.weightAll, nodsAll]; omega
end
theorem okShow_of {d : PD} (h : sm d = true) (hd : d.depth ≤ 64) (hn : nods d ≤ 30000) : okShow d = true := by
  obtain ⟨a, b, c, e⟩ := sm_ok d h
  unfold okShow SeqAt.shaped
  have f := PyData.shown_fits (B := 13) (by omega) (by omega) c (show d.weight ≤ 2 ^ 20 by omega)
  rw [a, b, decide_eq_true hd, decide_eq_true (show d.shown.length ≤ line from f)]
  rfl
theorem same_refl {Δ : Dn} {a b : E} {ρ : EnvD} {st st1 st' : Store} {p : PD} (h1 : ev Δ a ρ st = .ok (.py p) st1) (h2 : ev Δ b ρ st1 = .ok (.py p) st') (h : okShow p = true) : ev Δ (.same a b) ρ st = .ok (.py (.bool true)) st' := by
  have e : ∀ s : Store, shw s (.py p) = some p := fun s => by
    unfold shw
    show (valF 6 s (.py p)).bind _ = _
    rw [valF_py, Option.bind_some, if_pos h]
  unfold ev
  rw [h1, Rs.bind_ok, e, Rs.of_some, Rs.bind_ok, h2, Rs.bind_ok, e, Rs.of_some, Rs.bind_ok]
  unfold sameP
  rw [if_pos rfl]; rfl
end Ev
set_option maxHeartbeats 0
namespace La
open PySem PySem.Spec PyProof.Rows L2 Ev
def top (i : Nat) : Stmt := PySem.Challenge.pw_larderdays_k48_stable_shares.main.body.getD i (.Pass ⟨0, 0, 0, 0⟩)
/-- common_divisor -/
abbrev c0b0 : Ss := (.cons (.swp 2 3 (.var 3) (.bin .mod (.var 2) (.var 3))) .nil)
def c0 : Ss := (.cons (.swp 2 3 (.bi .abs (.cons (.var 0) .nil)) (.bi .abs (.cons (.var 1) .nil))) (.cons (.whl (.v (.cmp .gt (.var 3) (.con (.int 0)))) c0b0) (.cons (.ret (.var 2)) .nil)))
def T0 : FE := ⟨["first", "second"], ["first", "second", "one", "rest"], c0⟩
/-- divided -/
def c1 : Ss := (.cons (.set 2 (.call 0 (.cons (.var 0) (.cons (.var 1) .nil)))) (.cons (.ret (.tup (.cons (.bin .fdiv (.var 0) (.var 2)) (.cons (.bin .fdiv (.var 1) (.var 2)) .nil)))) .nil))
def T1 : FE := ⟨["number", "other"], ["number", "other", "share"], c1⟩
/-- is_less -/
def c2 : Ss := (.cons (.ret (.cmp .lt (.bin .mul (.ix (.var 0) (.con (.int 0))) (.ix (.var 1) (.con (.int 1)))) (.bin .mul (.ix (.var 1) (.con (.int 0))) (.ix (.var 0) (.con (.int 1)))))) .nil)
def T2 : FE := ⟨["first", "second"], ["first", "second"], c2⟩
/-- added -/
def c3 : Ss := (.cons (.ret (.call 1 (.cons (.bin .add (.bin .mul (.ix (.var 0) (.con (.int 0))) (.ix (.var 1) (.con (.int 1)))) (.bin .mul (.ix (.var 1) (.con (.int 0))) (.ix (.var 0) (.con (.int 1))))) (.cons (.bin .mul (.ix (.var 0) (.con (.int 1))) (.ix (.var 1) (.con (.int 1)))) .nil)))) .nil)
def T3 : FE := ⟨["first", "second"], ["first", "second"], c3⟩
/-- groups -/
abbrev c4b0 : Ss := (.cons (.set 3 (.ix (.var 1) (.var 2))) (.cons (.ext 1 (.li (.lc (.bin .add (.var 3) (.tup (.cons (.var 4) .nil))) (.nm 4) [4] (.rng2 (.bin .add (.ix (.var 3) (.neg (.con (.int 1)))) (.con (.int 1))) (.var 0)) .yes))) (.cons (.aug 2 .add (.con (.int 1))) .nil)))
def c4 : Ss := (.cons (.set 1 (.cell (.lc (.tup (.cons (.var 4) .nil)) (.nm 4) [4] (.rng (.var 0)) .yes))) (.cons (.set 2 (.con (.int 0))) (.cons (.whl (.v (.cmp .lt (.var 2) (.bi .len (.cons (.var 1) .nil)))) c4b0) (.cons (.ret (.frz (.var 1))) .nil))))
def T4 : FE := ⟨["many"], ["many", "found", "place", "group", "one"], c4⟩
/-- is_stable -/
abbrev c5b0 : Ss := (.cons (.set 4 (.call 3 (.cons (.var 4) (.cons (.ix (.var 2) (.var 5)) .nil)))) .nil)
abbrev c5b1 : Ss := (.cons (.ret (.con (.bool false))) .nil)
abbrev c5b2 : Ss := (.cons (.ret (.con (.bool false))) .nil)
abbrev c5b3 : Ss := (.cons (.set 4 (.tup (.cons (.con (.int 0)) (.cons (.con (.int 1)) .nil)))) (.cons (.for (.nm 5) (.e (.var 3)) c5b0) (.cons (.ife (.v (.call 2 (.cons (.tup (.cons (.ix (.var 0) (.var 3)) (.cons (.con (.int 1)) .nil))) (.cons (.var 4) .nil)))) c5b1 .nil) (.cons (.ife (.and (.v (.cmp .eq (.bi .len (.cons (.var 3) .nil)) (.var 1))) (.v (.cmp .ne (.var 4) (.tup (.cons (.ix (.var 0) (.var 3)) (.cons (.con (.int 1)) .nil)))))) c5b2 .nil) .nil))))
def c5 : Ss := (.cons (.for (.nm 3) (.e (.call 4 (.cons (.var 1) .nil))) c5b3) (.cons (.ret (.con (.bool true))) .nil))
def T5 : FE := ⟨["costs", "many", "shares"], ["costs", "many", "shares", "group", "total", "one"], c5⟩
/-- balanced_rows -/
abbrev c6b0 : Ss := (.cons (.set 3 (.bi .tuple (.cons (.li (.lc (.var 4) (.nm 4) [4] (.rng (.con (.int 3))) (.v (.cmp .ne (.var 4) (.var 2))))) .nil))) (.cons (.app (.var 1) (.li (.lst (.cons (.tup (.cons (.tup (.cons (.var 2) .nil)) (.cons (.tup (.cons (.con (.int 1)) (.cons (.con (.int 1)) .nil))) .nil))) (.cons (.tup (.cons (.var 3) (.cons (.tup (.cons (.con (.int 1)) (.cons (.con (.int 1)) .nil))) .nil))) .nil))))) .nil))
abbrev c6b1 : Ss := (.cons (.for (.nm 2) (.rng (.con (.int 3))) c6b0) (.cons (.app (.var 1) (.li (.lst (.cons (.tup (.cons (.tup (.cons (.con (.int 0)) (.cons (.con (.int 1)) .nil))) (.cons (.tup (.cons (.con (.int 1)) (.cons (.con (.int 2)) .nil))) .nil))) (.cons (.tup (.cons (.tup (.cons (.con (.int 0)) (.cons (.con (.int 2)) .nil))) (.cons (.tup (.cons (.con (.int 1)) (.cons (.con (.int 2)) .nil))) .nil))) (.cons (.tup (.cons (.tup (.cons (.con (.int 1)) (.cons (.con (.int 2)) .nil))) (.cons (.tup (.cons (.con (.int 1)) (.cons (.con (.int 2)) .nil))) .nil))) .nil)))))) .nil))
def c6 : Ss := (.cons (.set 1 (.cell (.lst (.cons (.li (.lc (.tup (.cons (.tup (.cons (.var 2) .nil)) (.cons (.tup (.cons (.con (.int 1)) (.cons (.con (.int 1)) .nil))) .nil))) (.nm 2) [2] (.rng (.var 0)) .yes)) .nil)))) (.cons (.ife (.v (.cmp .eq (.var 0) (.con (.int 3)))) c6b1 .nil) (.cons (.ret (.frz (.var 1))) .nil)))
def T6 : FE := ⟨["many"], ["many", "found", "one", "rest", "other"], c6⟩
/-- unstable_paper -/
abbrev c7b0 : Ss := (.cons (.set 4 (.call 3 (.cons (.var 4) (.cons (.call 1 (.cons (.bin .mul (.ix (.var 0) (.var 5)) (.ix (.var 6) (.con (.int 0)))) (.cons (.ix (.var 6) (.con (.int 1))) .nil))) .nil)))) .nil)
abbrev c7b1 : Ss := (.cons (.ret (.var 3)) .nil)
abbrev c7b2 : Ss := (.cons (.set 4 (.tup (.cons (.con (.int 0)) (.cons (.con (.int 1)) .nil)))) (.cons (.for (.two (.nm 5) (.nm 6)) (.e (.var 3)) c7b0) (.cons (.ife (.v (.call 2 (.cons (.var 4) (.cons (.tup (.cons (.var 2) (.cons (.con (.int 1)) .nil))) .nil)))) c7b1 .nil) .nil)))
def c7 : Ss := (.cons (.set 2 (.ix (.var 0) (.trng (.var 1)))) (.cons (.for (.nm 3) (.e (.call 6 (.cons (.var 1) .nil))) c7b2) (.cons (.ret (.con .none)) .nil)))
def T7 : FE := ⟨["costs", "many"], ["costs", "many", "whole", "row", "total", "group", "weight"], c7⟩
/-- stable_shares -/
abbrev c8b0 : Ss := (.cons (.ret (.con .none)) .nil)
abbrev c8b1 : Ss := (.cons (.ret (.li (.lst (.cons (.tup (.cons (.var 2) (.cons (.con (.int 1)) .nil))) .nil)))) .nil)
abbrev c8b2 : Ss := (.cons (.ret (.li (.lst (.cons (.tup (.cons (.bin .sub (.var 2) (.ix (.var 0) (.tup (.cons (.con (.int 1)) .nil)))) (.cons (.con (.int 1)) .nil))) (.cons (.tup (.cons (.ix (.var 0) (.tup (.cons (.con (.int 1)) .nil))) (.cons (.con (.int 1)) .nil))) .nil))))) .nil)
def c8 : Ss := (.cons (.ife (.v (.isc .none true (.call 7 (.cons (.var 0) (.cons (.var 1) .nil))))) c8b0 .nil) (.cons (.set 2 (.ix (.var 0) (.trng (.var 1)))) (.cons (.ife (.v (.cmp .eq (.var 1) (.con (.int 1)))) c8b1 .nil) (.cons (.ife (.v (.cmp .eq (.var 1) (.con (.int 2)))) c8b2 .nil) (.cons (.set 3 (.bi .max2 (.cons (.bin .sub (.var 2) (.ix (.var 0) (.tup (.cons (.con (.int 1)) (.cons (.con (.int 2)) .nil))))) (.cons (.bin .sub (.bin .sub (.var 2) (.ix (.var 0) (.tup (.cons (.con (.int 1)) .nil)))) (.ix (.var 0) (.tup (.cons (.con (.int 2)) .nil)))) .nil)))) (.cons (.set 4 (.bi .max2 (.cons (.bin .sub (.var 2) (.ix (.var 0) (.tup (.cons (.con (.int 0)) (.cons (.con (.int 2)) .nil))))) (.cons (.bin .sub (.bin .sub (.var 2) (.var 3)) (.ix (.var 0) (.tup (.cons (.con (.int 2)) .nil)))) .nil)))) (.cons (.ret (.li (.lst (.cons (.tup (.cons (.var 3) (.cons (.con (.int 1)) .nil))) (.cons (.tup (.cons (.var 4) (.cons (.con (.int 1)) .nil))) (.cons (.tup (.cons (.bin .sub (.bin .sub (.var 2) (.var 3)) (.var 4)) (.cons (.con (.int 1)) .nil))) .nil)))))) .nil)))))))
def T8 : FE := ⟨["costs", "many"], ["costs", "many", "whole", "first", "second"], c8⟩
/-- _law_cell -/
abbrev c9b0 : Ss := (.cons (.ret (.ix (.var 0) (.var 1))) .nil)
def c9 : Ss := (.cons (.ife (.v (.cmp .lt (.var 1) (.bi .len (.cons (.var 0) .nil)))) c9b0 .nil) (.cons (.ret (.con (.int 0))) .nil))
def T9 : FE := ⟨["_law_script", "_law_k"], ["_law_script", "_law_k"], c9⟩
/-- _law_row -/
abbrev c10b0 : Ss := (.cons (.set 0 (.bin .sub (.con (.int 1)) (.bin .mul (.con (.int 2)) (.var 0)))) .nil)
abbrev c10b1 : Ss := (.cons (.app (.var 3) (.bin .mod (.bi .int (.cons (.var 0) .nil)) (.con (.int 1000)))) (.cons (.set 0 (.bin .fdiv (.var 0) (.con (.int 1000)))) .nil))
abbrev c10b2 : Ss := (.cons (.ife (.and (.v (.cmp .gt (.var 0) (.con (.int 0)))) (.v (.cmp .lt (.bi .len (.cons (.var 3) .nil)) (.var 2)))) c10b1 .nil) .nil)
abbrev c10b3 : Ss := (.cons (.for (.nm 5) (.rng (.con (.int 60))) c10b2) (.cons (.ret (.frz (.var 3))) .nil))
abbrev c10b4 : Ss := (.cons (.set 4 (.bin .mod (.bi .int (.cons (.bin .add (.bin .add (.bin .mul (.var 4) (.con (.int 16807))) (.bin .mul (.con (.int 7)) (.var 5))) (.con (.int 1))) .nil)) (.con (.int 2147483647)))) (.cons (.app (.var 3) (.bin .mod (.bi .int (.cons (.bin .fdiv (.var 4) (.con (.int 997))) .nil)) (.con (.int 1000)))) .nil))
def c10 : Ss := (.cons (.set 3 (.cell (.lst .nil))) (.cons (.ife (.v (.cmp .lt (.var 0) (.con (.int 0)))) c10b0 .nil) (.cons (.ife (.v (.cmp .ge (.var 0) (.bin .pow (.con (.int 10)) (.con (.int 18))))) c10b3 .nil) (.cons (.set 4 (.bin .mod (.bi .int (.cons (.bin .add (.bin .add (.bin .mul (.var 0) (.con (.int 48271))) (.bin .mul (.var 1) (.con (.int 69621)))) (.con (.int 11))) .nil)) (.con (.int 2147483647)))) (.cons (.for (.nm 5) (.rng (.var 2)) c10b4) (.cons (.ret (.frz (.var 3))) .nil))))))
def T10 : FE := ⟨["_law_cell_here", "_law_k", "_law_many"], ["_law_cell_here", "_law_k", "_law_many", "_law_row_here", "_law_seed", "_law_turn"], c10⟩
/-- _law_box -/
abbrev c11b0 : Ss := (.cons (.set 3 (.bin .add (.var 3) (.call 10 (.cons (.call 9 (.cons (.var 0) (.cons (.var 4) .nil))) (.cons (.var 4) (.cons (.con (.int 12)) .nil)))))) .nil)
def c11 : Ss := (.cons (.set 3 (.li (.lst .nil))) (.cons (.for (.nm 4) (.rng2 (.var 1) (.var 2)) c11b0) (.cons (.ret (.cell (.lst (.cons (.var 3) (.cons (.con (.int 0)) .nil))))) .nil)))
def T11 : FE := ⟨["_law_script", "_law_first", "_law_last"], ["_law_script", "_law_first", "_law_last", "_law_row_here", "_law_k"], c11⟩
/-- _law_draw -/
abbrev c12b0 : Ss := (.cons (.ret (.bin .mod (.bi .int (.cons (.ix (.ix (.var 0) (.con (.int 0))) (.var 2)) .nil)) (.var 1))) .nil)
def c12 : Ss := (.cons (.set 2 (.ix (.var 0) (.con (.int 1)))) (.cons (.stI (.var 0) (.con (.int 1)) (.bin .add (.var 2) (.con (.int 1)))) (.cons (.ife (.v (.cmp .lt (.var 2) (.bi .len (.cons (.ix (.var 0) (.con (.int 0))) .nil)))) c12b0 .nil) (.cons (.ret (.bin .mod (.bi .int (.cons (.bin .add (.bin .mul (.var 2) (.con (.int 7))) (.con (.int 3))) .nil)) (.var 1))) .nil))))
def T12 : FE := ⟨["_law_box_here", "_law_many"], ["_law_box_here", "_law_many", "_law_at"], c12⟩
/-- _law_same -/
def c13 : Ss := (.cons (.ret (.same (.var 0) (.var 1))) .nil)
def T13 : FE := ⟨["_law_one", "_law_other"], ["_law_one", "_law_other"], c13⟩
/-- _law_groups -/
abbrev c14b0 : Ss := (.cons (.set 5 (.bin .add (.var 5) (.li (.lc (.bin .add (.var 6) (.tup (.cons (.var 7) .nil))) (.nm 7) [7] (.rng (.var 0)) (.or (.v (.cmp .eq (.var 6) (.tup .nil))) (.v (.cmp .gt (.var 7) (.ix (.var 6) (.neg (.con (.int 1))))))))))) .nil)
abbrev c14b1 : Ss := (.cons (.set 5 (.li (.lst .nil))) (.cons (.for (.nm 6) (.e (.var 3)) c14b0) (.cons (.set 3 (.var 5)) .nil)))
abbrev c14b2 : Ss := (.cons (.set 3 (.li (.lst (.cons (.tup .nil) .nil)))) (.cons (.for (.nm 4) (.rng (.var 2)) c14b1) (.cons (.set 1 (.bin .add (.var 1) (.var 3))) .nil)))
def c14 : Ss := (.cons (.set 1 (.li (.lst .nil))) (.cons (.for (.nm 2) (.rng2 (.con (.int 1)) (.bin .add (.var 0) (.con (.int 1)))) c14b2) (.cons (.ret (.var 1)) .nil)))
def T14 : FE := ⟨["_law_many"], ["_law_many", "_law_found", "_law_size", "_law_rows", "_law_turn", "_law_longer", "_law_row_here", "_law_one"], c14⟩
/-- _law_fraction -/
abbrev c15b0 : Ss := (.cons (.swp 2 3 (.var 3) (.bin .mod (.bi .int (.cons (.var 2) .nil)) (.var 3))) .nil)
def c15 : Ss := (.cons (.set 2 (.bi .abs (.cons (.var 0) .nil))) (.cons (.set 3 (.var 1)) (.cons (.whl (.v (.cmp .ne (.var 3) (.con (.int 0)))) c15b0) (.cons (.ret (.tup (.cons (.bin .fdiv (.var 0) (.var 2)) (.cons (.bin .fdiv (.var 1) (.var 2)) .nil)))) .nil))))
def T15 : FE := ⟨["_law_top", "_law_bottom"], ["_law_top", "_law_bottom", "_law_one", "_law_other"], c15⟩
/-- _law_costs -/
abbrev c16b0 : Ss := (.cons (.stI (.var 3) (.var 4) (.bi .max (.cons (.li (.lst (.cons (.con (.int 0)) (.cons (.bin .add (.bin .sub (.ix (.var 3) (.var 4)) (.call 12 (.cons (.var 0) (.cons (.con (.int 4)) .nil)))) (.call 12 (.cons (.var 0) (.cons (.con (.int 2)) .nil)))) .nil)))) .nil))) .nil)
abbrev c16b1 : Ss := (.cons (.stI (.var 3) (.var 4) (.call 12 (.cons (.var 0) (.cons (.con (.int 20)) .nil)))) .nil)
abbrev c16b2 : Ss := (.cons (.stI (.var 3) (.var 4) (.bi .sum (.cons (.li (.lc (.ix (.var 2) (.var 5)) (.nm 5) [5] (.e (.var 4)) .yes)) .nil))) (.cons (.ife (.v (.cmp .gt (.bi .len (.cons (.var 4) .nil)) (.con (.int 1)))) c16b0 .nil) (.cons (.ife (.and (.v (.cmp .gt (.bi .len (.cons (.var 4) .nil)) (.con (.int 0)))) (.v (.cmp .eq (.call 12 (.cons (.var 0) (.cons (.con (.int 9)) .nil))) (.con (.int 0))))) c16b1 .nil) .nil)))
def c16 : Ss := (.cons (.set 2 (.li (.lc (.call 12 (.cons (.var 0) (.cons (.con (.int 9)) .nil))) (.nm 5) [5] (.rng (.var 1)) .yes))) (.cons (.set 3 .dnew) (.cons (.for (.nm 4) (.e (.call 14 (.cons (.var 1) .nil))) c16b2) (.cons (.ret (.var 3)) .nil))))
def T16 : FE := ⟨["_law_box_here", "_law_many"], ["_law_box_here", "_law_many", "_law_single", "_law_costs_here", "_law_group", "_law_one"], c16⟩
/-- _law_balanced -/
abbrev c17b0 : Ss := (.cons (.ret (.li (.lst (.cons (.var 3) .nil)))) .nil)
def c17 : Ss := (.cons (.set 1 (.tup (.cons (.con (.int 1)) (.cons (.con (.int 2)) .nil)))) (.cons (.set 2 (.tup (.cons (.con (.int 1)) (.cons (.con (.int 1)) .nil)))) (.cons (.set 3 (.li (.lc (.tup (.cons (.tup (.cons (.var 5) .nil)) (.cons (.var 2) .nil))) (.nm 5) [5] (.rng (.var 0)) .yes))) (.cons (.ife (.v (.cmp .lt (.var 0) (.con (.int 3)))) c17b0 .nil) (.cons (.set 4 (.li (.lst (.cons (.li (.lst (.cons (.tup (.cons (.tup (.cons (.con (.int 0)) .nil)) (.cons (.var 2) .nil))) (.cons (.tup (.cons (.tup (.cons (.con (.int 1)) (.cons (.con (.int 2)) .nil))) (.cons (.var 2) .nil))) .nil)))) (.cons (.li (.lst (.cons (.tup (.cons (.tup (.cons (.con (.int 1)) .nil)) (.cons (.var 2) .nil))) (.cons (.tup (.cons (.tup (.cons (.con (.int 0)) (.cons (.con (.int 2)) .nil))) (.cons (.var 2) .nil))) .nil)))) (.cons (.li (.lst (.cons (.tup (.cons (.tup (.cons (.con (.int 2)) .nil)) (.cons (.var 2) .nil))) (.cons (.tup (.cons (.tup (.cons (.con (.int 0)) (.cons (.con (.int 1)) .nil))) (.cons (.var 2) .nil))) .nil)))) .nil)))))) (.cons (.ret (.bin .add (.bin .add (.li (.lst (.cons (.var 3) .nil))) (.var 4)) (.li (.lst (.cons (.li (.lst (.cons (.tup (.cons (.tup (.cons (.con (.int 0)) (.cons (.con (.int 1)) .nil))) (.cons (.var 1) .nil))) (.cons (.tup (.cons (.tup (.cons (.con (.int 0)) (.cons (.con (.int 2)) .nil))) (.cons (.var 1) .nil))) (.cons (.tup (.cons (.tup (.cons (.con (.int 1)) (.cons (.con (.int 2)) .nil))) (.cons (.var 1) .nil))) .nil))))) .nil))))) .nil))))))
def T17 : FE := ⟨["_law_many"], ["_law_many", "_law_half", "_law_one", "_law_alone", "_law_pairs", "_law_customer"], c17⟩
/-- _law_barred -/
abbrev c18b0 : Ss := (.cons (.ret (.var 2)) .nil)
abbrev c18b1 : Ss := (.cons (.set 3 (.bi .sum (.cons (.li (.lc (.bi .int (.cons (.bin .fdiv (.bin .mul (.bin .mul (.con (.int 2)) (.ix (.var 0) (.var 4))) (.ix (.var 5) (.con (.int 0)))) (.ix (.var 5) (.con (.int 1)))) .nil)) (.two (.nm 4) (.nm 5)) [4, 5] (.e (.var 2)) .yes)) .nil))) (.cons (.ife (.v (.cmp .lt (.var 3) (.bin .mul (.con (.int 2)) (.ix (.var 0) (.trng (.var 1)))))) c18b0 .nil) .nil))
def c18 : Ss := (.cons (.for (.nm 2) (.e (.call 17 (.cons (.var 1) .nil))) c18b1) (.cons (.ret (.con .none)) .nil))
def T18 : FE := ⟨["_law_costs_here", "_law_many"], ["_law_costs_here", "_law_many", "_law_row_here", "_law_twice", "_law_group", "_law_weight"], c18⟩
/-- _law_stable -/
abbrev c19b0 : Ss := (.cons (.set 3 (.bin .mul (.var 3) (.ix (.var 4) (.con (.int 1))))) .nil)
abbrev c19b1 : Ss := (.cons (.ret (.con (.bool false))) .nil)
abbrev c19b2 : Ss := (.cons (.ret (.con (.bool false))) .nil)
abbrev c19b3 : Ss := (.cons (.ife (.v (.cmp .gt (.bi .sum (.cons (.li (.lc (.ix (.var 5) (.var 7)) (.nm 7) [7] (.e (.var 6)) .yes)) .nil)) (.bin .mul (.ix (.var 0) (.var 6)) (.var 3)))) c19b2 .nil) .nil)
def c19 : Ss := (.cons (.set 3 (.con (.int 1))) (.cons (.for (.nm 4) (.e (.var 2)) c19b0) (.cons (.set 5 (.li (.lc (.bin .mul (.ix (.var 4) (.con (.int 0))) (.bin .fdiv (.var 3) (.ix (.var 4) (.con (.int 1))))) (.nm 4) [4] (.e (.var 2)) .yes))) (.cons (.ife (.v (.cmp .ne (.bi .sum (.cons (.var 5) .nil)) (.bin .mul (.ix (.var 0) (.trng (.var 1))) (.var 3)))) c19b1 .nil) (.cons (.for (.nm 6) (.e (.call 14 (.cons (.var 1) .nil))) c19b3) (.cons (.ret (.con (.bool true))) .nil))))))
def T19 : FE := ⟨["_law_costs_here", "_law_many", "_law_shares"], ["_law_costs_here", "_law_many", "_law_shares", "_law_common", "_law_share", "_law_parts", "_law_group", "_law_one"], c19⟩
/-- _law_least_shares -/
abbrev c20b0 : Ss := (.cons (.set 7 (.bin .add (.var 7) (.li (.lc (.bin .add (.var 5) (.tup (.cons (.var 9) .nil))) (.nm 9) [9] (.rng2 (.bin .sub (.var 2) (.ix (.var 0) (.var 6))) (.bin .add (.ix (.var 0) (.tup (.cons (.var 4) .nil))) (.con (.int 1)))) .yes)))) .nil)
abbrev c20b1 : Ss := (.cons (.set 6 (.bi .tuple (.cons (.li (.lc (.var 10) (.nm 10) [10] (.rng (.var 1)) (.v (.cmp .ne (.var 10) (.var 4))))) .nil))) (.cons (.set 7 (.li (.lst .nil))) (.cons (.for (.nm 5) (.e (.var 3)) c20b0) (.cons (.set 3 (.var 7)) .nil))))
abbrev c20b2 : Ss := (.cons (.ret (.var 8)) .nil)
abbrev c20b3 : Ss := (.cons (.set 8 (.li (.lc (.tup (.cons (.var 9) (.cons (.con (.int 1)) .nil))) (.nm 9) [9] (.e (.bin .add (.var 5) (.tup (.cons (.bin .sub (.var 2) (.bi .sum (.cons (.var 5) .nil))) .nil)))) .yes))) (.cons (.ife (.v (.call 19 (.cons (.var 0) (.cons (.var 1) (.cons (.var 8) .nil))))) c20b2 .nil) .nil))
def c20 : Ss := (.cons (.set 2 (.ix (.var 0) (.trng (.var 1)))) (.cons (.set 3 (.li (.lst (.cons (.tup .nil) .nil)))) (.cons (.for (.nm 4) (.rng (.bin .sub (.var 1) (.con (.int 1)))) c20b1) (.cons (.for (.nm 5) (.e (.var 3)) c20b3) (.cons (.ret (.con .none)) .nil)))))
def T20 : FE := ⟨["_law_costs_here", "_law_many"], ["_law_costs_here", "_law_many", "_law_total", "_law_rows", "_law_one", "_law_row_here", "_law_rest", "_law_longer", "_law_shares", "_law_share", "_law_other"], c20⟩
/-- _law_offered -/
abbrev c21b0 : Ss := (.cons (.set 6 (.call 15 (.cons (.bin .sub (.bin .mul (.con (.int 3)) (.ix (.var 1) (.tup (.cons (.var 5) .nil)))) (.call 12 (.cons (.var 0) (.cons (.con (.int 14)) .nil)))) (.cons (.con (.int 3)) .nil)))) .nil)
abbrev c21b1 : Ss := (.cons (.set 6 (.call 15 (.cons (.bin .add (.bin .sub (.bin .mul (.con (.int 2)) (.ix (.var 1) (.tup (.cons (.var 5) .nil)))) (.call 12 (.cons (.var 0) (.cons (.con (.int 9)) .nil)))) (.call 12 (.cons (.var 0) (.cons (.con (.int 2)) .nil)))) (.cons (.con (.int 2)) .nil)))) (.cons (.ife (.v (.cmp .eq (.call 12 (.cons (.var 0) (.cons (.con (.int 3)) .nil))) (.con (.int 0)))) c21b0 .nil) (.cons (.app (.var 3) (.var 6)) (.cons (.set 4 (.call 15 (.cons (.bin .sub (.bin .mul (.ix (.var 4) (.con (.int 0))) (.ix (.var 6) (.con (.int 1)))) (.bin .mul (.ix (.var 6) (.con (.int 0))) (.ix (.var 4) (.con (.int 1))))) (.cons (.bin .mul (.ix (.var 4) (.con (.int 1))) (.ix (.var 6) (.con (.int 1)))) .nil)))) .nil))))
abbrev c21b2 : Ss := (.cons (.set 4 (.call 15 (.cons (.bin .sub (.bin .mul (.ix (.var 4) (.con (.int 0))) (.con (.int 2))) (.ix (.var 4) (.con (.int 1)))) (.cons (.bin .mul (.ix (.var 4) (.con (.int 1))) (.con (.int 2))) .nil)))) .nil)
def c21 : Ss := (.cons (.set 3 (.cell (.lst .nil))) (.cons (.set 4 (.call 15 (.cons (.ix (.var 1) (.trng (.var 2))) (.cons (.con (.int 1)) .nil)))) (.cons (.for (.nm 5) (.rng (.bin .sub (.var 2) (.con (.int 1)))) c21b1) (.cons (.ife (.v (.cmp .eq (.call 12 (.cons (.var 0) (.cons (.con (.int 5)) .nil))) (.con (.int 0)))) c21b2 .nil) (.cons (.ret (.bin .add (.frz (.var 3)) (.li (.lst (.cons (.var 4) .nil))))) .nil)))))
def T21 : FE := ⟨["_law_box_here", "_law_costs_here", "_law_many"], ["_law_box_here", "_law_costs_here", "_law_many", "_law_found", "_law_left", "_law_one", "_law_share"], c21⟩
/-- law -/
abbrev c22b0 : Ss := (.cons (.ret (.con (.bool false))) .nil)
abbrev c22b1 : Ss := (.cons (.ret (.con (.bool false))) .nil)
abbrev c22b2 : Ss := (.cons (.set 3 (.bin .add (.con (.int 1)) (.call 12 (.cons (.var 1) (.cons (.con (.int 3)) .nil))))) (.cons (.set 4 (.call 16 (.cons (.var 1) (.cons (.var 3) .nil)))) (.cons (.set 5 (.call 18 (.cons (.var 4) (.cons (.var 3) .nil)))) (.cons (.set 6 (.call 20 (.cons (.var 4) (.cons (.var 3) .nil)))) (.cons (.ife (.or (.nt (.v (.call 13 (.cons (.call 6 (.cons (.var 3) .nil)) (.cons (.call 17 (.cons (.var 3) .nil)) .nil))))) (.nt (.v (.call 13 (.cons (.call 7 (.cons (.var 4) (.cons (.var 3) .nil))) (.cons (.var 5) .nil)))))) c22b0 .nil) (.cons (.ife (.or (.nt (.v (.call 13 (.cons (.call 8 (.cons (.var 4) (.cons (.var 3) .nil))) (.cons (.var 6) .nil))))) (.v (.cmp .ne (.isc .none false (.var 6)) (.isc .none true (.var 5))))) c22b1 .nil) .nil))))))
abbrev c22b3 : Ss := (.cons (.ret (.con (.bool false))) .nil)
abbrev c22b4 : Ss := (.cons (.set 8 (.call 21 (.cons (.var 1) (.cons (.var 4) (.cons (.var 3) .nil))))) (.cons (.ife (.nt (.v (.call 13 (.cons (.call 5 (.cons (.var 4) (.cons (.var 3) (.cons (.var 8) .nil)))) (.cons (.call 19 (.cons (.var 4) (.cons (.var 3) (.cons (.var 8) .nil)))) .nil))))) c22b3 .nil) .nil))
abbrev c22b5 : Ss := (.cons (.set 3 (.bin .add (.con (.int 1)) (.call 12 (.cons (.var 1) (.cons (.con (.int 4)) .nil))))) (.cons (.set 4 (.call 16 (.cons (.var 1) (.cons (.var 3) .nil)))) (.cons (.for (.nm 7) (.rng (.con (.int 3))) c22b4) .nil)))
def c22 : Ss := (.cons (.set 1 (.call 11 (.cons (.var 0) (.cons (.con (.int 0)) (.cons (.con (.int 20)) .nil))))) (.cons (.for (.nm 2) (.rng (.con (.int 4))) c22b2) (.cons (.for (.nm 2) (.rng (.con (.int 4))) c22b5) (.cons (.ret (.con (.bool true))) .nil))))
def T22 : FE := ⟨["_law_script"], ["_law_script", "_law_box_here", "_law_turn", "_law_many", "_law_costs_here", "_law_barred_here", "_law_due", "_law_k", "_law_shares"], c22⟩
def T : List FE := [T0, T1, T2, T3, T4, T5, T6, T7, T8, T9, T10, T11, T12, T13, T14, T15, T16, T17, T18, T19, T20, T21, T22]
def ds : DL1 := [("common_divisor", top 1), ("divided", top 2), ("is_less", top 3), ("added", top 4), ("groups", top 6), ("is_stable", top 7), ("balanced_rows", top 8), ("unstable_paper", top 9), ("stable_shares", top 10), ("_law_cell", top 12), ("_law_row", top 13), ("_law_box", top 14), ("_law_draw", top 15), ("_law_same", top 16), ("_law_groups", top 17), ("_law_fraction", top 18), ("_law_costs", top 19), ("_law_balanced", top 20), ("_law_barred", top 21), ("_law_stable", top 22), ("_law_least_shares", top 23), ("_law_offered", top 24), ("law", top 25)]
theorem b0 : BindB ("common_divisor", top 1) T0.ps := fun _ _ _ _ _ _ us hl => match us, hl with | [_, _], _ => rfl
theorem b1 : BindB ("divided", top 2) T1.ps := fun _ _ _ _ _ _ us hl => match us, hl with | [_, _], _ => rfl
theorem b2 : BindB ("is_less", top 3) T2.ps := fun _ _ _ _ _ _ us hl => match us, hl with | [_, _], _ => rfl
theorem b3 : BindB ("added", top 4) T3.ps := fun _ _ _ _ _ _ us hl => match us, hl with | [_, _], _ => rfl
theorem b4 : BindB ("groups", top 6) T4.ps := fun _ _ _ _ _ _ us hl => match us, hl with | [_], _ => rfl
theorem b5 : BindB ("is_stable", top 7) T5.ps := fun _ _ _ _ _ _ us hl => match us, hl with | [_, _, _], _ => rfl
theorem b6 : BindB ("balanced_rows", top 8) T6.ps := fun _ _ _ _ _ _ us hl => match us, hl with | [_], _ => rfl
theorem b7 : BindB ("unstable_paper", top 9) T7.ps := fun _ _ _ _ _ _ us hl => match us, hl with | [_, _], _ => rfl
theorem b8 : BindB ("stable_shares", top 10) T8.ps := fun _ _ _ _ _ _ us hl => match us, hl with | [_, _], _ => rfl
theorem b9 : BindB ("_law_cell", top 12) T9.ps := fun _ _ _ _ _ _ us hl => match us, hl with | [_, _], _ => rfl
theorem b10 : BindB ("_law_row", top 13) T10.ps := fun _ _ _ _ _ _ us hl => match us, hl with | [_, _, _], _ => rfl
theorem b11 : BindB ("_law_box", top 14) T11.ps := fun _ _ _ _ _ _ us hl => match us, hl with | [_, _, _], _ => rfl
theorem b12 : BindB ("_law_draw", top 15) T12.ps := fun _ _ _ _ _ _ us hl => match us, hl with | [_, _], _ => rfl
theorem b13 : BindB ("_law_same", top 16) T13.ps := fun _ _ _ _ _ _ us hl => match us, hl with | [_, _], _ => rfl
theorem b14 : BindB ("_law_groups", top 17) T14.ps := fun _ _ _ _ _ _ us hl => match us, hl with | [_], _ => rfl
theorem b15 : BindB ("_law_fraction", top 18) T15.ps := fun _ _ _ _ _ _ us hl => match us, hl with | [_, _], _ => rfl
theorem b16 : BindB ("_law_costs", top 19) T16.ps := fun _ _ _ _ _ _ us hl => match us, hl with | [_, _], _ => rfl
theorem b17 : BindB ("_law_balanced", top 20) T17.ps := fun _ _ _ _ _ _ us hl => match us, hl with | [_], _ => rfl
theorem b18 : BindB ("_law_barred", top 21) T18.ps := fun _ _ _ _ _ _ us hl => match us, hl with | [_, _], _ => rfl
theorem b19 : BindB ("_law_stable", top 22) T19.ps := fun _ _ _ _ _ _ us hl => match us, hl with | [_, _, _], _ => rfl
theorem b20 : BindB ("_law_least_shares", top 23) T20.ps := fun _ _ _ _ _ _ us hl => match us, hl with | [_, _], _ => rfl
theorem b21 : BindB ("_law_offered", top 24) T21.ps := fun _ _ _ _ _ _ us hl => match us, hl with | [_, _, _], _ => rfl
theorem b22 : BindB ("law", top 25) T22.ps := fun _ _ _ _ _ _ us hl => match us, hl with | [_], _ => rfl
theorem bAll : AllB ds T := ⟨b0, b1, b2, b3, b4, b5, b6, b7, b8, b9, b10, b11, b12, b13, b14, b15, b16, b17, b18, b19, b20, b21, b22, trivial⟩
theorem k0 : okF (sgL ds T) T0 (top 1) = true := by decide +kernel
theorem k1 : okF (sgL ds T) T1 (top 2) = true := by decide +kernel
theorem k2 : okF (sgL ds T) T2 (top 3) = true := by decide +kernel
theorem k3 : okF (sgL ds T) T3 (top 4) = true := by decide +kernel
theorem k4 : okF (sgL ds T) T4 (top 6) = true := by decide +kernel
theorem k5 : okF (sgL ds T) T5 (top 7) = true := by decide +kernel
theorem k6 : okF (sgL ds T) T6 (top 8) = true := by decide +kernel
theorem k7 : okF (sgL ds T) T7 (top 9) = true := by decide +kernel
theorem k8 : okF (sgL ds T) T8 (top 10) = true := by decide +kernel
theorem k9 : okF (sgL ds T) T9 (top 12) = true := by decide +kernel
theorem k10 : okF (sgL ds T) T10 (top 13) = true := by decide +kernel
theorem k11 : okF (sgL ds T) T11 (top 14) = true := by decide +kernel
theorem k12 : okF (sgL ds T) T12 (top 15) = true := by decide +kernel
theorem k13 : okF (sgL ds T) T13 (top 16) = true := by decide +kernel
theorem k14 : okF (sgL ds T) T14 (top 17) = true := by decide +kernel
theorem k15 : okF (sgL ds T) T15 (top 18) = true := by decide +kernel
theorem k16 : okF (sgL ds T) T16 (top 19) = true := by decide +kernel
theorem k17 : okF (sgL ds T) T17 (top 20) = true := by decide +kernel
theorem k18 : okF (sgL ds T) T18 (top 21) = true := by decide +kernel
theorem k19 : okF (sgL ds T) T19 (top 22) = true := by decide +kernel
theorem k20 : okF (sgL ds T) T20 (top 23) = true := by decide +kernel
theorem k21 : okF (sgL ds T) T21 (top 24) = true := by decide +kernel
theorem k22 : okF (sgL ds T) T22 (top 25) = true := by decide +kernel
theorem kAll : okL (sgL ds T) ds T = true := by decide +kernel
def loose : List PySem.Str := (["common_divisor", "divided", "is_less", "added", "groups", "is_stable", "balanced_rows", "unstable_paper", "stable_shares", "_law_cell", "_law_row", "_law_box", "_law_draw", "_law_same", "_law_groups", "_law_fraction", "_law_costs", "_law_balanced", "_law_barred", "_law_stable", "_law_least_shares", "_law_offered"] : List PySem.Str)
abbrev R : PySem.W.OpenRow := PySem.W.OpenLaw.row PySem.Challenge.rw_larderdays_k48_stable_shares
abbrev hk : PySem.W.Hook := He.hookD 6 (faL ds) (fnL ds)
def ob (s : PySem.W.SharedT) : He.AlD := He.obsDG 6 (faL ds) (fnL ds) (HandSHeadRun.getT s)
theorem ob_eq (s : PySem.W.SharedT) : ob s = hk.obs s.abs := He.obsDG_eq (HandSHeadRun.getT_eq s)
theorem run (w : World) : HandSHeadRun.RunEq R (PySem.W.view R.prog [25]) hk ob 20000 loose w := by
  intro os
  kernel_rfl
end La
set_option maxHeartbeats 1000000
namespace La
open PySem Ev
local macro_rules | `(tactic| walk_at "ev") => `(tactic| repeat' (with_reducible first
  | exact es_nil | exact e_con | exact e_var rfl | exact t_yes
  | (exact e_ref rfl (by assumption) (by intro p z; cases z))
  | apply es_cons | apply e_ix | apply e_bi | apply e_cmp | apply e_bin | apply e_tup | apply e_isc
  | apply t_b | apply t_and | apply t_or | apply t_nt
  | exact b_add | exact b_sub | (apply b_mulR; apply small_of <;> omega) | (apply b_mulL; apply small_of <;> omega) | (apply b_fdiv <;> omega) | (apply b_mod; omega)
  | exact c_lt | exact c_le | exact c_gt | exact c_ge | exact c_eqI | exact c_neI | exact n_int | exact n_abs | exact n_max2 | exact n_min2 | exact len_py | exact n_lenT))
def dv (row : List Int) (a : Nat) (m : Int) : Int := if a < row.length then row.getD a 0 % m else ((a : Int) * 7 + 3) % m
abbrev boxC (row : List Int) (a : Nat) : Cell := .lst [.py (.list (row.map .int)), .py (.int a)]
theorem draw_ok {n fu b : Nat} {st : Store} {row : List Int} {a : Nat} {m : Int} (hst : st[b]? = some (boxC row a)) (wf : WF st) (hm : 0 < m) :
    lvl T fu (n + 1) 12 [.ref b, .py (.int m)] st = .ok (.py (.int (dv row a m))) (st.set b (boxC row (a + 1))) := by
  have hb : b < st.length := (List.getElem?_eq_some_iff.mp hst).1
  have hst2 : (st.set b (boxC row (a + 1)))[b]? = some (boxC row (a + 1)) := List.getElem?_set_self hb
  refine run_ret (ar := 2) (sl := 3) (b := c12) (ρ := [some (.ref b), some (.py (.int m)), some (.py (.int a))]) rfl ?_ (trim_set wf rfl)
  unfold c12
  show exs (lvl T fu n) fu _ [some (.ref b), some (.py (.int m)), none] st = _
  refine Eq.trans (st_nx (ρ' := [some (.ref b), some (.py (.int m)), some (.py (.int a))]) (st' := st) ?_) ?_
  · refine s_set (d := .py (.int a)) ?_
    refine e_ix (e_ref rfl hst (by intro p z; cases z)) e_con ?_
    simp only [getix, hst]
    rfl
  refine Eq.trans (st_nx (st' := st.set b (boxC row (a + 1))) (ρ' := [some (.ref b), some (.py (.int m)), some (.py (.int a))]) ?_) ?_
  · refine s_stI (z := .py (.int ((a : Int) + 1))) (st1 := st) ?_ (e_ref rfl hst (by intro p z; cases z)) e_con ?_
    · walk_at "ev"
    · simp only [setix, hst]
      rfl
  have hbox : ev (lvl T fu n) (.ix (.var 0) (.con (.int 0))) [some (D.ref b), some (D.py (.int m)), some (D.py (.int a))] (st.set b (boxC row (a + 1))) = .ok (.py (.list (row.map .int))) (st.set b (boxC row (a + 1))) := by
    refine e_ix (e_ref rfl hst2 (by intro p z; cases z)) e_con ?_
    simp only [getix, hst2]
    rfl
  have hlen : bi (st.set b (boxC row (a + 1))) .len [.py (.list (row.map .int))] = some (.py (.int row.length)) := by simp [bi, seqOf, Ev.listOf]
  by_cases h : a < row.length
  · refine st_fl (f := .rt _) ?_ (fun z => by cases z)
    refine (s_ift (st' := st.set b (boxC row (a + 1))) ?_).trans ?_
    · refine t_b (e_cmp (e_var rfl) (e_bi (es_cons hbox es_nil) hlen) ?_)
      show some (decide ((a : Int) < (row.length : Int))) = _
      simp [h]
    · refine st_fl (s_ret ?_) (fun z => by cases z)
      refine e_bin (e_bi (es_cons (e_ix hbox (e_var rfl) (z := .py (.int (row.getD a 0))) ?_) es_nil) rfl) (e_var rfl) ?_
      · simp only [getix, intOf, Option.bind_some, List.length_map, ixN_nat h, List.getElem?_map]
        simp [List.getElem?_eq_getElem h]
      · unfold dv
        rw [if_pos h]
        exact b_mod hm
  · refine Eq.trans (st_nx (st' := st.set b (boxC row (a + 1))) (ρ' := [some (.ref b), some (.py (.int m)), some (.py (.int a))]) ((s_iff (st' := st.set b (boxC row (a + 1))) ?_).trans s_nil)) ?_
    · refine t_b (e_cmp (e_var rfl) (e_bi (es_cons hbox es_nil) hlen) ?_)
      show some (decide ((a : Int) < (row.length : Int))) = _
      simp; omega
    refine st_fl (s_ret ?_) (fun z => by cases z)
    unfold dv
    rw [if_neg h]
    exact e_bin (e_bi (es_cons (e_bin (e_bin (e_var rfl) e_con (b_mulR (small_of (by omega) (by omega)))) e_con rfl) es_nil) rfl) (e_var rfl) (b_mod hm)
theorem cell_ok {n fu : Nat} {st : Store} {ns : List Int} {k : Nat} (wf : WF st) : lvl T fu (n + 1) 9 [.scr ns, .py (.int k)] st = .ok (.py (.int (ns.getD k 0))) st := by
  have hlen : bi st .len [.scr ns] = some (.py (.int ns.length)) := rfl
  have ev0 : ∀ {ρ : EnvD}, ρ[0]? = some (some (.scr ns)) → ev (lvl T fu n) (.var 0) ρ st = .ok (.scr ns) st := fun {ρ} h => by
    unfold ev
    rw [h]
  refine run_ret (ar := 2) (sl := 2) (b := c9) (ρ := [some (.scr ns), some (.py (.int k))]) rfl ?_ (trim_py0 wf)
  unfold c9
  by_cases h : k < ns.length
  · refine st_fl (f := .rt _) ((s_ift (st' := st) ?_).trans (st_fl (s_ret ?_) (fun z => by cases z))) (fun z => by cases z)
    · refine t_b (e_cmp (e_var rfl) (e_bi (es_cons (ev0 rfl) es_nil) hlen) ?_)
      show some (decide ((k : Int) < (ns.length : Int))) = _
      simp [h]
    · refine e_ix (ev0 rfl) (e_var rfl) ?_
      simp only [getix, intOf, Option.bind_some, ixN_nat h]
      simp [List.getElem?_eq_getElem h]
  · refine Eq.trans (st_nx (st' := st) (ρ' := [some (.scr ns), some (.py (.int k))]) ((s_iff (st' := st) ?_).trans s_nil)) ?_
    · refine t_b (e_cmp (e_var rfl) (e_bi (es_cons (ev0 rfl) es_nil) hlen) ?_)
      show some (decide ((k : Int) < (ns.length : Int))) = _
      simp; omega
    · rw [show ns.getD k 0 = 0 by rw [List.getD_eq_getElem?_getD, List.getElem?_eq_none (by omega)]; rfl]
      exact st_fl (s_ret e_con) (fun z => by cases z)
def dig (l : List Int) : Prop := l.length ≤ 60 ∧ ∀ x ∈ l, 0 ≤ x ∧ x < 1000
abbrev lstI (l : List Int) : Cell := .lst (l.map fun i => .py (.int i))
theorem row_ok {n fu : Nat} {st : Store} {c : Int} {k : Nat} (wf : WF st) : ∃ l : List Int, lvl T fu (n + 1) 10 [.py (.int c), .py (.int k), .py (.int 12)] st = .ok (.py (.list (l.map .int))) st ∧ dig l := by
  have ref3 : ∀ {ρ : EnvD} {l : List Int}, ρ[3]? = some (some (.ref st.length)) → ev (lvl T fu n) (.var 3) ρ (st ++ [lstI l]) = .ok (.ref st.length) (st ++ [lstI l]) := fun {ρ l} h => e_ref h (get_last _ _) (by intro p z; cases z)
  have fin : ∀ {l : List Int} {ρ : EnvD}, exs (lvl T fu n) fu c10 [some (.py (.int c)), some (.py (.int k)), some (.py (.int 12)), none, none, none] st = .go (.rt (.py (.list (l.map .int)))) ρ (st ++ [.frz (.list (l.map .int))]) → dig l →
      ∃ l : List Int, lvl T fu (n + 1) 10 [.py (.int c), .py (.int k), .py (.int 12)] st = .ok (.py (.list (l.map .int))) st ∧ dig l := fun {l ρ} h hd => ⟨l, run_ret (ar := 3) (sl := 6) (b := c10) rfl h (trim_py _ wf), hd⟩
  -- one more digit
  have push : ∀ {ρ : EnvD} {l : List Int} {e : E} {z : Int} {r : Ss}, ρ[3]? = some (some (.ref st.length)) → dig l → l.length < 60 → ev (lvl T fu n) e ρ (st ++ [lstI l]) = .ok (.py (.int z)) (st ++ [lstI l]) → 0 ≤ z → z < 1000 →
      exs (lvl T fu n) fu (.cons (.app (.var 3) e) r) ρ (st ++ [lstI l]) = exs (lvl T fu n) fu r ρ (st ++ [lstI (l ++ [z])]) ∧ dig (l ++ [z]) := fun {ρ l e z r} h3 hd hl he h0 h1 => by
    refine ⟨st_nx (s_app (ref3 h3) isLst_last he (app_last (show l.length < 16777216 by omega))), ?_, ?_⟩
    · rw [List.length_append]; simp; omega
    · intro x hx
      rcases List.mem_append.mp hx with hx | hx
      · exact hd.2 x hx
      · rw [List.mem_singleton.mp hx]; exact ⟨h0, h1⟩
  have e1 : ∃ c' : Int, ex (lvl T fu n) fu (.ife (.v (.cmp .lt (.var 0) (.con (.int 0)))) c10b0 .nil) [some (.py (.int c)), some (.py (.int k)), some (.py (.int 12)), some (.ref st.length), none, none] (st ++ [lstI []])
      = .go .nx [some (.py (.int c')), some (.py (.int k)), some (.py (.int 12)), some (.ref st.length), none, none] (st ++ [lstI []]) := by
    by_cases h : c < 0
    · refine ⟨1 - 2 * c, (s_ift (st' := st ++ [lstI []]) (t_b (e_cmp (e_var rfl) e_con (by rw [c_lt, decide_eq_true h])))).trans ?_⟩
      refine (st_nx (s_set ?_)).trans s_nil
      walk_at "ev"
    · exact ⟨c, (s_iff (st' := st ++ [lstI []]) (t_b (e_cmp (e_var rfl) e_con (by rw [c_lt, decide_eq_false h])))).trans s_nil⟩
  obtain ⟨c', e1⟩ := e1
  have ge : ∀ {b : Bool}, decide ((1000000000000000000 : Int) ≤ c') = b → evT (lvl T fu n) (.v (.cmp .ge (.var 0) (.bin .pow (.con (.int 10)) (.con (.int 18))))) [some (.py (.int c')), some (.py (.int k)), some (.py (.int 12)), some (.ref st.length), none, none] (st ++ [lstI []]) = .ok b (st ++ [lstI []]) := fun {b} h => by
    refine t_b (e_cmp (e_var rfl) (e_bin e_con e_con ten18) ?_)
    rw [c_ge, h]
  by_cases h : (1000000000000000000 : Int) ≤ c'
  · -- by digits
    have lp := for_inv (f := fun d ρ st => bindT (.nm 5) st d ρ (exs (lvl T fu n) fu c10b2))
      (fun i ρ s => ∃ (a : Int) (l : List Int) (x : Option D), ρ = [some (.py (.int a)), some (.py (.int k)), some (.py (.int 12)), some (.ref st.length), none, x] ∧ s = st ++ [lstI l] ∧ dig l ∧ l.length ≤ i) (rangeD 0 60) 0
      (ρ := [some (.py (.int c')), some (.py (.int k)), some (.py (.int 12)), some (.ref st.length), none, none]) (st := st ++ [lstI []]) (fun j d ρ s hj ⟨a, l, x, e1, e2, hd, hlj⟩ => by
        obtain ⟨hj, rfl⟩ := rangeD_at hj
        subst e1 e2
        rw [bind_nm]
        simp only [List.set_cons_succ, List.set_cons_zero]
        have tst : ∀ {b b' : Bool}, decide (0 < a) = b → decide ((l.length : Int) < 12) = b' → evT (lvl T fu n) (.and (.v (.cmp .gt (.var 0) (.con (.int 0)))) (.v (.cmp .lt (.bi .len (.cons (.var 3) .nil)) (.var 2)))) [some (.py (.int a)), some (.py (.int k)), some (.py (.int 12)), some (.ref st.length), none, some (.py (.int (0 + j)))] (st ++ [lstI l]) = .ok (b && b') (st ++ [lstI l]) := fun {b b'} h1 h2 => by
          refine t_and (t_b (e_cmp (e_var rfl) e_con (by rw [c_gt, h1]))) (fun _ => t_b (e_cmp (e_bi (es_cons (ref3 rfl) es_nil) len_last) (e_var rfl) (by rw [c_lt, List.length_map, h2]))) fun _ => rfl
        by_cases q : 0 < a ∧ (l.length : Int) < 12
        · obtain ⟨q1, q2⟩ := push (ρ := [some (.py (.int a)), some (.py (.int k)), some (.py (.int 12)), some (.ref st.length), none, some (.py (.int (0 + j)))]) (l := l) (e := .bin .mod (.bi .int (.cons (.var 0) .nil)) (.con (.int 1000))) (z := a % 1000) (r := .cons (.set 0 (.bin .fdiv (.var 0) (.con (.int 1000)))) .nil) rfl hd (by omega) (by walk_at "ev") (by omega) (by omega)
          refine ⟨_, _, (st_nx ((s_ift ((tst (decide_eq_true q.1) (decide_eq_true q.2)).trans rfl)).trans (q1.trans ((st_nx (s_set (by walk_at "ev"))).trans s_nil)))).trans s_nil, a / 1000, l ++ [a % 1000], _, rfl, rfl, q2, by rw [List.length_append]; simp; omega⟩
        · refine ⟨_, _, (st_nx ((s_iff ((tst rfl rfl).trans ?_)).trans s_nil)).trans s_nil, a, l, _, rfl, rfl, hd, by omega⟩
          rw [← Bool.decide_and, decide_eq_false q]) ⟨c', [], none, rfl, rfl, ⟨by decide, by simp⟩, by simp⟩
    obtain ⟨ρ', st', hl, a, l, x, rfl, rfl, hd, _⟩ := lp
    refine fin (l := l) (ρ := [some (.py (.int a)), some (.py (.int k)), some (.py (.int 12)), some (.ref st.length), none, x]) ?_ hd
    refine (st_nx (s_set (e_cell (l_lst es_nil (by decide))))).trans ((st_nx e1).trans (st_fl (f := .rt _) ((s_ift (ge (decide_eq_true h))).trans ((st_nx ((s_for (i_rng e_con (by decide))).trans hl)).trans (st_fl (s_ret (e_frz_ints (ref3 rfl))) (fun z => by cases z)))) (fun z => by cases z)))
  · have lp := for_inv (f := fun d ρ st => bindT (.nm 5) st d ρ (exs (lvl T fu n) fu c10b4))
      (fun i ρ s => ∃ (a : Int) (l : List Int) (x : Option D), ρ = [some (.py (.int c')), some (.py (.int k)), some (.py (.int 12)), some (.ref st.length), some (.py (.int a)), x] ∧ s = st ++ [lstI l] ∧ dig l ∧ l.length ≤ i) (rangeD 0 12) 0
      (ρ := [some (.py (.int c')), some (.py (.int k)), some (.py (.int 12)), some (.ref st.length), some (.py (.int ((c' * 48271 + k * 69621 + 11) % 2147483647))), none]) (st := st ++ [lstI []]) (fun j d ρ s hj ⟨a, l, x, e1, e2, hd, hlj⟩ => by
        obtain ⟨hj, rfl⟩ := rangeD_at hj
        subst e1 e2
        rw [bind_nm]
        simp only [List.set_cons_succ, List.set_cons_zero]
        obtain ⟨q1, q2⟩ := push (ρ := [some (.py (.int c')), some (.py (.int k)), some (.py (.int 12)), some (.ref st.length), some (.py (.int ((a * 16807 + 7 * (0 + j) + 1) % 2147483647))), some (.py (.int (0 + j)))]) (l := l) (e := .bin .mod (.bi .int (.cons (.bin .fdiv (.var 4) (.con (.int 997))) .nil)) (.con (.int 1000))) (z := ((a * 16807 + 7 * (0 + j) + 1) % 2147483647) / 997 % 1000) (r := .nil) rfl hd (by omega) (by walk_at "ev") (by omega) (by omega)
        exact ⟨_, _, (st_nx (s_set (by walk_at "ev"))).trans (q1.trans s_nil), (a * 16807 + 7 * (0 + j) + 1) % 2147483647, l ++ [_], _, rfl, rfl, q2, by rw [List.length_append]; simp; omega⟩) ⟨_, [], none, rfl, rfl, ⟨by decide, by simp⟩, by simp⟩
    obtain ⟨ρ', st', hl, a, l, x, rfl, rfl, hd, _⟩ := lp
    refine fin (l := l) (ρ := [some (.py (.int c')), some (.py (.int k)), some (.py (.int 12)), some (.ref st.length), some (.py (.int a)), x]) ?_ hd
    refine (st_nx (s_set (e_cell (l_lst es_nil (by decide))))).trans ((st_nx e1).trans ((st_nx ((s_iff (ge (decide_eq_false h))).trans s_nil)).trans ((st_nx (s_set (d := .py (.int ((c' * 48271 + k * 69621 + 11) % 2147483647))) ?_)).trans ((st_nx ((s_for (i_rng (e_var rfl) (by decide))).trans hl)).trans (st_fl (s_ret (e_frz_ints (ref3 rfl))) (fun z => by cases z))))))
    walk_at "ev"
/-- the drawn digits -/
theorem box_ok {n fu : Nat} {st : Store} {ns : List Int} (wf : WF st) : ∃ l : List Int, lvl T fu (n + 2) 11 [.scr ns, .py (.int 0), .py (.int 20)] st = .ok (.ref st.length) (st ++ [boxC l 0]) ∧ (∀ x ∈ l, 0 ≤ x ∧ x < 1000) := by
  have ev0 : ∀ {ρ : EnvD} {s : Store}, ρ[0]? = some (some (.scr ns)) → ev (lvl T fu (n + 1)) (.var 0) ρ s = .ok (.scr ns) s := fun {ρ s} h => by
    unfold ev
    rw [h]
  have lp := for_inv (f := fun d ρ st => bindT (.nm 4) st d ρ (exs (lvl T fu (n + 1)) fu c11b0))
    (fun i ρ s => ∃ (l : List Int) (x : Option D), ρ = [some (.scr ns), some (.py (.int 0)), some (.py (.int 20)), some (.py (.list (l.map .int))), x] ∧ s = st ∧ l.length ≤ 60 * i ∧ ∀ x ∈ l, 0 ≤ x ∧ x < 1000) (rangeD 0 20) 0
    (ρ := [some (.scr ns), some (.py (.int 0)), some (.py (.int 20)), some (.py (.list [])), none]) (st := st) (fun j d ρ s hj ⟨l, x, e1, e2, hl, hx⟩ => by
      obtain ⟨hj', rfl⟩ := rangeD_at hj
      subst e1 e2
      rw [bind_nm]
      simp only [List.set_cons_succ, List.set_cons_zero]
      obtain ⟨l', h1, h2, h3⟩ := row_ok (n := n) (fu := fu) (c := ns.getD j 0) (k := j) wf
      have hj2 : j < 20 := by simpa using hj'
      have z : (0 + (j : Int)) = (j : Int) := Int.zero_add _
      rw [z]
      refine ⟨_, _, (st_nx (s_set (e_bin (e_var rfl) (e_call (es_cons (e_call (es_cons (ev0 rfl) (es_cons (e_var rfl) es_nil)) (cell_ok wf)) (es_cons (e_var rfl) (es_cons e_con es_nil))) h1) (b_ladd ?_)))).trans s_nil, l ++ l', some (.py (.int j)), by simp, rfl, by rw [List.length_append]; omega, ?_⟩
      · rw [List.length_map, List.length_map]
        show _ ≤ 16777216
        omega
      · intro y hy
        exact (List.mem_append.mp hy).elim (hx y) (h3 y)) ⟨[], none, rfl, rfl, by simp, by simp⟩
  obtain ⟨ρ', st', hl, l, x, e1, e2, _, hx⟩ := lp
  rw [e1, e2] at hl
  refine ⟨l, ?_, hx⟩
  exact run_any (ar := 3) (sl := 5) (b := c11) rfl ((st_nx (s_set (e_li (l_lst es_nil (by decide)) rfl))).trans ((st_nx ((s_for (i_rng2 (e_var rfl) (e_var rfl) (by decide) (by decide))).trans hl)).trans (st_fl (s_ret (e_cell (l_lst (es_cons (e_var rfl) (es_cons e_con es_nil)) (show 2 ≤ 16777216 by decide)))) (fun z => by cases z)))) trim_ref
end La
set_option maxHeartbeats 1000000
namespace La
open PySem Ev
local macro_rules | `(tactic| walk_at "ev") => `(tactic| repeat' (with_reducible first
  | exact es_nil | exact e_con | exact e_var rfl | exact t_yes
  | (exact e_ref rfl (by assumption) (by intro p z; cases z))
  | apply es_cons | apply e_ix | apply e_bi | apply e_cmp | apply e_bin | apply e_tup | apply e_isc
  | apply t_b | apply t_and | apply t_or | apply t_nt
  | exact b_add | exact b_sub | (apply b_mulR; apply small_of <;> omega) | (apply b_mulL; apply small_of <;> omega) | (apply b_fdiv <;> omega) | (apply b_mod; omega)
  | exact c_lt | exact c_le | exact c_gt | exact c_ge | exact c_eqI | exact c_neI | exact n_int | exact n_abs | exact n_max2 | exact n_min2 | exact len_py | exact n_lenT))
theorem gcd_loop {Δ : Dn} {fu : Nat} {st : Store} {a b : D} : ∀ (y x k : Nat), y < k → ∃ ρ', whlLoop (evT Δ (.v (.cmp .gt (.var 3) (.con (.int 0))))) (exs Δ fu c0b0) k [some a, some b, some (.py (.int x)), some (.py (.int y))] st = .go .nx ρ' st ∧ ρ'[2]? = some (some (.py (.int (Nat.gcd x y)))) := by
  intro y
  induction y using Nat.strongRecOn with
  | _ y ih =>
    intro x k hk
    obtain ⟨k, rfl⟩ : ∃ k', k = k' + 1 := ⟨k - 1, by omega⟩
    have ht : evT Δ (.v (.cmp .gt (.var 3) (.con (.int 0)))) [some a, some b, some (.py (.int x)), some (.py (.int y))] st = .ok (decide ((0 : Int) < (y : Int))) st := t_b (e_cmp (e_var rfl) e_con c_gt)
    by_cases h : y = 0
    · subst h
      refine ⟨[some a, some b, some (.py (.int x)), some (.py (.int 0))], ?_, by rw [Nat.gcd_zero_right]; rfl⟩
      unfold whlLoop
      rw [ht]
      rfl
    · have hx : (x : Int) % (y : Int) = ((x % y : Nat) : Int) := by simp
      obtain ⟨ρ', h1, h2⟩ := ih (x % y) (Nat.mod_lt _ (by omega)) y k (by have := Nat.mod_lt x (show 0 < y by omega); omega)
      refine ⟨ρ', ?_, by rw [h2, Nat.gcd_comm x y, Nat.gcd_rec y x, Nat.gcd_comm (x % y) y]⟩
      unfold whlLoop
      rw [ht, decide_eq_true (by omega)]
      have hb : exs Δ fu c0b0 [some a, some b, some (.py (.int x)), some (.py (.int y))] st = .go .nx [some a, some b, some (.py (.int y)), some (.py (.int ((x % y : Nat) : Int)))] st := by
        refine (st_nx (s_swp (x := .py (.int y)) (y := .py (.int ((x : Int) % (y : Int)))) (e_var rfl) (e_bin (e_var rfl) (e_var rfl) (b_mod (by omega))))).trans ?_
        rw [hx]
        exact s_nil
      simp only [Rs.to_ok, if_true]
      rw [hb]
      exact h1
theorem gcd_ok {n fu : Nat} {st : Store} {a b : Int} (wf : WF st) (hf : b.natAbs < fu) : lvl T fu (n + 1) 0 [.py (.int a), .py (.int b)] st = .ok (.py (.int (Int.gcd a b))) st := by
  obtain ⟨ρ', h1, h2⟩ := gcd_loop (Δ := lvl T fu n) (fu := fu) (st := st) (a := .py (.int a)) (b := .py (.int b)) b.natAbs a.natAbs fu hf
  refine run_ret (ar := 2) (sl := 4) (b := c0) (ρ := ρ') rfl ?_ (trim_py0 wf)
  unfold c0
  have ab : ∀ x : Int, (if x < 0 then -x else x) = ((x.natAbs : Nat) : Int) := fun x => by split <;> omega
  refine (st_nx (s_swp (x := .py (.int a.natAbs)) (y := .py (.int b.natAbs)) (e_bi (es_cons (e_var rfl) es_nil) ?_) (e_bi (es_cons (e_var rfl) es_nil) ?_))).trans ?_
  · rw [n_abs, ab]
  · rw [n_abs, ab]
  refine (st_nx (ρ' := ρ') (st' := st) ?_).trans ?_
  · exact h1
  · exact st_fl (s_ret (e_var h2)) (fun z => by cases z)
/-- a fraction's two parts -/
abbrev fr (p q : Int) : D := .py (.tuple [.int p, .int q])
theorem fr_ix0 {st : Store} {p q : Int} : getix st (fr p q) (.py (.int 0)) = some (.py (.int p)) := rfl
theorem fr_ix1 {st : Store} {p q : Int} : getix st (fr p q) (.py (.int 1)) = some (.py (.int q)) := rfl
theorem divided_ok {n fu : Nat} {st : Store} {a b : Int} (wf : WF st) (hf : b.natAbs < fu) (hb : 0 < b) (hb2 : b < 100000000) : lvl T fu (n + 2) 1 [.py (.int a), .py (.int b)] st = .ok (fr (a / Int.gcd a b) (b / Int.gcd a b)) st := by
  have hg : 0 < (Int.gcd a b : Int) := by
    have := Int.gcd_pos_of_ne_zero_right a (show b ≠ 0 by omega)
    omega
  have hg2 : (Int.gcd a b : Int) ≤ b := Int.le_of_dvd hb (Int.gcd_dvd_right a b)
  refine run_ret (ar := 2) (sl := 3) (b := c1) (ρ := [some (.py (.int a)), some (.py (.int b)), some (.py (.int (Int.gcd a b)))]) rfl ?_ (trim_py0 wf)
  unfold c1
  refine (st_nx (s_set (e_call (es_cons (e_var rfl) (es_cons (e_var rfl) es_nil)) (gcd_ok wf hf)))).trans ?_
  exact st_fl (s_ret (e_tup (es_cons (e_bin (e_var rfl) (e_var rfl) (b_fdiv hg (by omega))) (es_cons (e_bin (e_var rfl) (e_var rfl) (b_fdiv hg (by omega))) es_nil)))) (fun z => by cases z)
theorem is_less_ok {n fu : Nat} {st : Store} {p q r s : Int} (wf : WF st) (hq : 0 < q ∧ q < 100000000) (hs : 0 < s ∧ s < 100000000) : lvl T fu (n + 1) 2 [fr p q, fr r s] st = .ok (.py (.bool (decide (p * s < r * q)))) st := by
  refine run_ret (ar := 2) (sl := 2) (b := c2) (ρ := [some (fr p q), some (fr r s)]) rfl ?_ (trim_py0 wf)
  unfold c2
  exact st_fl (s_ret (e_cmp (e_bin (e_ix (e_var rfl) e_con fr_ix0) (e_ix (e_var rfl) e_con fr_ix1) (b_mulR (small_of (by omega) (by omega)))) (e_bin (e_ix (e_var rfl) e_con fr_ix0) (e_ix (e_var rfl) e_con fr_ix1) (b_mulR (small_of (by omega) (by omega)))) c_lt)) (fun z => by cases z)
theorem added_ok {n fu : Nat} {st : Store} {p q r s : Int} (wf : WF st) (hq : 0 < q) (hs : 0 < s) (hqs : q * s < 100000000) (hq2 : q < 100000000) (hs2 : s < 100000000) (hf : (q * s).natAbs < fu) :
    lvl T fu (n + 3) 3 [fr p q, fr r s] st = .ok (fr ((p * s + r * q) / Int.gcd (p * s + r * q) (q * s)) (q * s / Int.gcd (p * s + r * q) (q * s))) st := by
  refine run_ret (ar := 2) (sl := 2) (b := c3) (ρ := [some (fr p q), some (fr r s)]) rfl ?_ (trim_py0 wf)
  unfold c3
  exact st_fl (s_ret (e_call (es_cons (e_bin (e_bin (e_ix (e_var rfl) e_con fr_ix0) (e_ix (e_var rfl) e_con fr_ix1) (b_mulR (small_of (by omega) (by omega)))) (e_bin (e_ix (e_var rfl) e_con fr_ix0) (e_ix (e_var rfl) e_con fr_ix1) (b_mulR (small_of (by omega) (by omega)))) b_add)
    (es_cons (e_bin (e_ix (e_var rfl) e_con fr_ix1) (e_ix (e_var rfl) e_con fr_ix1) (b_mulR (small_of (by omega) (by omega)))) es_nil)) (divided_ok wf hf (Int.mul_pos hq hs) hqs))) (fun z => by cases z)
end La
set_option maxHeartbeats 1000000
namespace La
open PySem Ev
def grps : Nat → List (List Int)
  | 1 => [[0]]
  | 2 => [[0], [1], [0, 1]]
  | 3 => [[0], [1], [2], [0, 1], [0, 2], [1, 2], [0, 1, 2]]
  | 4 => [[0], [1], [2], [3], [0, 1], [0, 2], [0, 3], [1, 2], [1, 3], [2, 3], [0, 1, 2], [0, 1, 3], [0, 2, 3], [1, 2, 3], [0, 1, 2, 3]]
  | _ => []
def gT (g : List Int) : PD := .tuple (g.map .int)
theorem lg1 {Δ : Dn} {fu : Nat} {st : Store} : (exs Δ fu c14 [some (.py (.int 1)), none, none, none, none, none, none, none] st).out = some (.rt (.py (.list ((grps 1).map gT))), st) := by kernel_rfl
theorem lg2 {Δ : Dn} {fu : Nat} {st : Store} : (exs Δ fu c14 [some (.py (.int 2)), none, none, none, none, none, none, none] st).out = some (.rt (.py (.list ((grps 2).map gT))), st) := by kernel_rfl
theorem lg3 {Δ : Dn} {fu : Nat} {st : Store} : (exs Δ fu c14 [some (.py (.int 3)), none, none, none, none, none, none, none] st).out = some (.rt (.py (.list ((grps 3).map gT))), st) := by kernel_rfl
theorem lg4 {Δ : Dn} {fu : Nat} {st : Store} : (exs Δ fu c14 [some (.py (.int 4)), none, none, none, none, none, none, none] st).out = some (.rt (.py (.list ((grps 4).map gT))), st) := by kernel_rfl
theorem lgroups_ok {n fu m : Nat} {st : Store} (wf : WF st) (hm : m = 1 ∨ m = 2 ∨ m = 3 ∨ m = 4) : lvl T fu (n + 1) 14 [.py (.int m)] st = .ok (.py (.list ((grps m).map gT))) st := by
  rcases hm with rfl | rfl | rfl | rfl
  · show runFn (lvl T fu n) fu 1 8 c14 [.py (.int 1)] st = _
    exact run_out (Δ := lvl T fu n) (fu := fu) (b := c14) (ds := [.py (.int 1)]) (ar := 1) (sl := 8) (ρ0 := [some (.py (.int 1)), none, none, none, none, none, none, none]) rfl rfl lg1 (trim_py0 wf)
  · show runFn (lvl T fu n) fu 1 8 c14 [.py (.int 2)] st = _
    exact run_out (Δ := lvl T fu n) (fu := fu) (b := c14) (ds := [.py (.int 2)]) (ar := 1) (sl := 8) (ρ0 := [some (.py (.int 2)), none, none, none, none, none, none, none]) rfl rfl lg2 (trim_py0 wf)
  · show runFn (lvl T fu n) fu 1 8 c14 [.py (.int 3)] st = _
    exact run_out (Δ := lvl T fu n) (fu := fu) (b := c14) (ds := [.py (.int 3)]) (ar := 1) (sl := 8) (ρ0 := [some (.py (.int 3)), none, none, none, none, none, none, none]) rfl rfl lg3 (trim_py0 wf)
  · show runFn (lvl T fu n) fu 1 8 c14 [.py (.int 4)] st = _
    exact run_out (Δ := lvl T fu n) (fu := fu) (b := c14) (ds := [.py (.int 4)]) (ar := 1) (sl := 8) (ρ0 := [some (.py (.int 4)), none, none, none, none, none, none, none]) rfl rfl lg4 (trim_py0 wf)
end La
set_option maxHeartbeats 1000000
namespace La
open PySem Ev
theorem gr1 {Δ : Dn} {fu : Nat} : ∀ (st : Store), st.length < 10 → (exs Δ (fu + 40) c4 [some (.py (.int 1)), none, none, none, none] st).out = some (.rt (.py (.list ((grps 1).map gT))), st ++ [.frz (.list ((grps 1).map gT))])
  | [], _ => by kernel_rfl
  | [x0], _ => by kernel_rfl
  | [x0, x1], _ => by kernel_rfl
  | [x0, x1, x2], _ => by kernel_rfl
  | [x0, x1, x2, x3], _ => by kernel_rfl
  | [x0, x1, x2, x3, x4], _ => by kernel_rfl
  | [x0, x1, x2, x3, x4, x5], _ => by kernel_rfl
  | [x0, x1, x2, x3, x4, x5, x6], _ => by kernel_rfl
  | [x0, x1, x2, x3, x4, x5, x6, x7], _ => by kernel_rfl
  | [x0, x1, x2, x3, x4, x5, x6, x7, x8], _ => by kernel_rfl
  | _ :: _ :: _ :: _ :: _ :: _ :: _ :: _ :: _ :: _ :: _, h => by simp at h; omega
theorem gr2 {Δ : Dn} {fu : Nat} : ∀ (st : Store), st.length < 10 → (exs Δ (fu + 40) c4 [some (.py (.int 2)), none, none, none, none] st).out = some (.rt (.py (.list ((grps 2).map gT))), st ++ [.frz (.list ((grps 2).map gT))])
  | [], _ => by kernel_rfl
  | [x0], _ => by kernel_rfl
  | [x0, x1], _ => by kernel_rfl
  | [x0, x1, x2], _ => by kernel_rfl
  | [x0, x1, x2, x3], _ => by kernel_rfl
  | [x0, x1, x2, x3, x4], _ => by kernel_rfl
  | [x0, x1, x2, x3, x4, x5], _ => by kernel_rfl
  | [x0, x1, x2, x3, x4, x5, x6], _ => by kernel_rfl
  | [x0, x1, x2, x3, x4, x5, x6, x7], _ => by kernel_rfl
  | [x0, x1, x2, x3, x4, x5, x6, x7, x8], _ => by kernel_rfl
  | _ :: _ :: _ :: _ :: _ :: _ :: _ :: _ :: _ :: _ :: _, h => by simp at h; omega
theorem gr3 {Δ : Dn} {fu : Nat} : ∀ (st : Store), st.length < 10 → (exs Δ (fu + 40) c4 [some (.py (.int 3)), none, none, none, none] st).out = some (.rt (.py (.list ((grps 3).map gT))), st ++ [.frz (.list ((grps 3).map gT))])
  | [], _ => by kernel_rfl
  | [x0], _ => by kernel_rfl
  | [x0, x1], _ => by kernel_rfl
  | [x0, x1, x2], _ => by kernel_rfl
  | [x0, x1, x2, x3], _ => by kernel_rfl
  | [x0, x1, x2, x3, x4], _ => by kernel_rfl
  | [x0, x1, x2, x3, x4, x5], _ => by kernel_rfl
  | [x0, x1, x2, x3, x4, x5, x6], _ => by kernel_rfl
  | [x0, x1, x2, x3, x4, x5, x6, x7], _ => by kernel_rfl
  | [x0, x1, x2, x3, x4, x5, x6, x7, x8], _ => by kernel_rfl
  | _ :: _ :: _ :: _ :: _ :: _ :: _ :: _ :: _ :: _ :: _, h => by simp at h; omega
theorem gr4 {Δ : Dn} {fu : Nat} : ∀ (st : Store), st.length < 10 → (exs Δ (fu + 40) c4 [some (.py (.int 4)), none, none, none, none] st).out = some (.rt (.py (.list ((grps 4).map gT))), st ++ [.frz (.list ((grps 4).map gT))])
  | [], _ => by kernel_rfl
  | [x0], _ => by kernel_rfl
  | [x0, x1], _ => by kernel_rfl
  | [x0, x1, x2], _ => by kernel_rfl
  | [x0, x1, x2, x3], _ => by kernel_rfl
  | [x0, x1, x2, x3, x4], _ => by kernel_rfl
  | [x0, x1, x2, x3, x4, x5], _ => by kernel_rfl
  | [x0, x1, x2, x3, x4, x5, x6], _ => by kernel_rfl
  | [x0, x1, x2, x3, x4, x5, x6, x7], _ => by kernel_rfl
  | [x0, x1, x2, x3, x4, x5, x6, x7, x8], _ => by kernel_rfl
  | _ :: _ :: _ :: _ :: _ :: _ :: _ :: _ :: _ :: _ :: _, h => by simp at h; omega
end La
set_option maxHeartbeats 1000000
namespace La
open PySem Ev
abbrev Rw := List (List Int × Int × Int)
def xT (x : List Int × Int × Int) : PD := .tuple [gT x.1, .tuple [.int x.2.1, .int x.2.2]]
def rwT (r : Rw) : PD := .list (r.map xT)
def bal : Nat → List Rw
  | 1 => [[([0], 1, 1)]]
  | 2 => [[([0], 1, 1), ([1], 1, 1)]]
  | 3 => [[([0], 1, 1), ([1], 1, 1), ([2], 1, 1)], [([0], 1, 1), ([1, 2], 1, 1)], [([1], 1, 1), ([0, 2], 1, 1)], [([2], 1, 1), ([0, 1], 1, 1)], [([0, 1], 1, 2), ([0, 2], 1, 2), ([1, 2], 1, 2)]]
  | _ => []
def balT (m : Nat) : PD := .list ((bal m).map rwT)
theorem br1 {Δ : Dn} {fu : Nat} : ∀ (st : Store), st.length < 10 → (exs Δ fu c6 [some (.py (.int 1)), none, none, none, none] st).out = some (.rt (.py (balT 1)), st ++ [.frz (balT 1)])
  | [], _ => by kernel_rfl
  | [x0], _ => by kernel_rfl
  | [x0, x1], _ => by kernel_rfl
  | [x0, x1, x2], _ => by kernel_rfl
  | [x0, x1, x2, x3], _ => by kernel_rfl
  | [x0, x1, x2, x3, x4], _ => by kernel_rfl
  | [x0, x1, x2, x3, x4, x5], _ => by kernel_rfl
  | [x0, x1, x2, x3, x4, x5, x6], _ => by kernel_rfl
  | [x0, x1, x2, x3, x4, x5, x6, x7], _ => by kernel_rfl
  | [x0, x1, x2, x3, x4, x5, x6, x7, x8], _ => by kernel_rfl
  | _ :: _ :: _ :: _ :: _ :: _ :: _ :: _ :: _ :: _ :: _, h => by simp at h; omega
theorem br2 {Δ : Dn} {fu : Nat} : ∀ (st : Store), st.length < 10 → (exs Δ fu c6 [some (.py (.int 2)), none, none, none, none] st).out = some (.rt (.py (balT 2)), st ++ [.frz (balT 2)])
  | [], _ => by kernel_rfl
  | [x0], _ => by kernel_rfl
  | [x0, x1], _ => by kernel_rfl
  | [x0, x1, x2], _ => by kernel_rfl
  | [x0, x1, x2, x3], _ => by kernel_rfl
  | [x0, x1, x2, x3, x4], _ => by kernel_rfl
  | [x0, x1, x2, x3, x4, x5], _ => by kernel_rfl
  | [x0, x1, x2, x3, x4, x5, x6], _ => by kernel_rfl
  | [x0, x1, x2, x3, x4, x5, x6, x7], _ => by kernel_rfl
  | [x0, x1, x2, x3, x4, x5, x6, x7, x8], _ => by kernel_rfl
  | _ :: _ :: _ :: _ :: _ :: _ :: _ :: _ :: _ :: _ :: _, h => by simp at h; omega
theorem br3 {Δ : Dn} {fu : Nat} : ∀ (st : Store), st.length < 10 → (exs Δ fu c6 [some (.py (.int 3)), none, none, none, none] st).out = some (.rt (.py (balT 3)), st ++ [.frz (balT 3)])
  | [], _ => by kernel_rfl
  | [x0], _ => by kernel_rfl
  | [x0, x1], _ => by kernel_rfl
  | [x0, x1, x2], _ => by kernel_rfl
  | [x0, x1, x2, x3], _ => by kernel_rfl
  | [x0, x1, x2, x3, x4], _ => by kernel_rfl
  | [x0, x1, x2, x3, x4, x5], _ => by kernel_rfl
  | [x0, x1, x2, x3, x4, x5, x6], _ => by kernel_rfl
  | [x0, x1, x2, x3, x4, x5, x6, x7], _ => by kernel_rfl
  | [x0, x1, x2, x3, x4, x5, x6, x7, x8], _ => by kernel_rfl
  | _ :: _ :: _ :: _ :: _ :: _ :: _ :: _ :: _ :: _ :: _, h => by simp at h; omega
theorem bal_ok {n fu m : Nat} {st : Store} (wf : WF st) (hs : st.length < 10) (hm : m = 1 ∨ m = 2 ∨ m = 3) : lvl T fu (n + 1) 6 [.py (.int m)] st = .ok (.py (balT m)) st := by
  rcases hm with rfl | rfl | rfl
  · show runFn (lvl T fu n) fu 1 5 c6 [.py (.int 1)] st = _
    exact run_out (Δ := lvl T fu n) (fu := fu) (b := c6) (ds := [.py (.int 1)]) (ar := 1) (sl := 5) (ρ0 := [some (.py (.int 1)), none, none, none, none]) rfl rfl (br1 st hs) (trim_py _ wf)
  · show runFn (lvl T fu n) fu 1 5 c6 [.py (.int 2)] st = _
    exact run_out (Δ := lvl T fu n) (fu := fu) (b := c6) (ds := [.py (.int 2)]) (ar := 1) (sl := 5) (ρ0 := [some (.py (.int 2)), none, none, none, none]) rfl rfl (br2 st hs) (trim_py _ wf)
  · show runFn (lvl T fu n) fu 1 5 c6 [.py (.int 3)] st = _
    exact run_out (Δ := lvl T fu n) (fu := fu) (b := c6) (ds := [.py (.int 3)]) (ar := 1) (sl := 5) (ρ0 := [some (.py (.int 3)), none, none, none, none]) rfl rfl (br3 st hs) (trim_py _ wf)
theorem lb1 {Δ : Dn} {fu : Nat} {st : Store} : (exs Δ fu c17 [some (.py (.int 1)), none, none, none, none, none] st).out = some (.rt (.py (balT 1)), st) := by kernel_rfl
theorem lb2 {Δ : Dn} {fu : Nat} {st : Store} : (exs Δ fu c17 [some (.py (.int 2)), none, none, none, none, none] st).out = some (.rt (.py (balT 2)), st) := by kernel_rfl
theorem lb3 {Δ : Dn} {fu : Nat} {st : Store} : (exs Δ fu c17 [some (.py (.int 3)), none, none, none, none, none] st).out = some (.rt (.py (balT 3)), st) := by kernel_rfl
theorem lbal_ok {n fu m : Nat} {st : Store} (wf : WF st) (hm : m = 1 ∨ m = 2 ∨ m = 3) : lvl T fu (n + 1) 17 [.py (.int m)] st = .ok (.py (balT m)) st := by
  rcases hm with rfl | rfl | rfl
  · show runFn (lvl T fu n) fu 1 6 c17 [.py (.int 1)] st = _
    exact run_out (Δ := lvl T fu n) (fu := fu) (b := c17) (ds := [.py (.int 1)]) (ar := 1) (sl := 6) (ρ0 := [some (.py (.int 1)), none, none, none, none, none]) rfl rfl lb1 (trim_py0 wf)
  · show runFn (lvl T fu n) fu 1 6 c17 [.py (.int 2)] st = _
    exact run_out (Δ := lvl T fu n) (fu := fu) (b := c17) (ds := [.py (.int 2)]) (ar := 1) (sl := 6) (ρ0 := [some (.py (.int 2)), none, none, none, none, none]) rfl rfl lb2 (trim_py0 wf)
  · show runFn (lvl T fu n) fu 1 6 c17 [.py (.int 3)] st = _
    exact run_out (Δ := lvl T fu n) (fu := fu) (b := c17) (ds := [.py (.int 3)]) (ar := 1) (sl := 6) (ρ0 := [some (.py (.int 3)), none, none, none, none, none]) rfl rfl lb3 (trim_py0 wf)
structure Cost (st : Store) (c m : Nat) (C : List Int → Int) : Prop where
  at_ : ∃ kvs, st[c]? = some (.dct kvs) ∧ ∀ g ∈ grps m, valK kvs g = some (.py (.int (C g)))
  bd : ∀ g ∈ grps m, 0 ≤ C g ∧ C g ≤ 60
theorem keyOf_g (g : List Int) : keyOf (.py (gT g)) = some g := intsOf_map g
section
variable {Δ : Dn} {fu : Nat} {ρ : EnvD} {st st1 : Store} {c m : Nat} {C : List Int → Int}
theorem Cost.ev (h : Cost st c m C) {i : Nat} (hi : ρ[i]? = some (some (.ref c))) : ev Δ (.var i) ρ st = .ok (.ref c) st := by
  obtain ⟨kvs, h1, _⟩ := h.at_
  exact e_ref hi h1 (by intro p z; cases z)
theorem Cost.ix (h : Cost st c m C) {g : List Int} (hg : g ∈ grps m) : getix st (.ref c) (.py (gT g)) = some (.py (.int (C g))) := by
  obtain ⟨kvs, h1, h2⟩ := h.at_
  simp only [getix, h1, keyOf_g, Option.bind_some]
  exact h2 g hg
end
def wt (C : List Int → Int) (x : List Int × Int × Int) : Int := 2 * C x.1 * x.2.1 / x.2.2
def tw (C : List Int → Int) (r : Rw) : Int := (r.map (wt C)).sum
/-- a row's items: groups of m, weights 1 and 1/2 -/
def okR (m : Nat) (r : Rw) : Prop := r.length ≤ 3 ∧ ∀ x ∈ r, x.1 ∈ grps m ∧ x.2.1 = 1 ∧ (x.2.2 = 1 ∨ x.2.2 = 2)
theorem okR_bal {m : Nat} (hm : m = 1 ∨ m = 2 ∨ m = 3) : ∀ r ∈ bal m, okR m r := by
  unfold okR
  rcases hm with rfl | rfl | rfl <;> decide
theorem gcd_div {a b T : Int} (hb : 0 < b) (h : 2 * a = T * b) : 2 * (a / Int.gcd a b) = T * (b / Int.gcd a b) ∧ 0 < b / Int.gcd a b ∧ b / Int.gcd a b ≤ b := by
  have hg : 0 < (Int.gcd a b : Int) := by
    have := Int.gcd_pos_of_ne_zero_right a (show b ≠ 0 by omega)
    omega
  obtain ⟨a', ha⟩ := Int.gcd_dvd_left a b
  obtain ⟨b', hb'⟩ := Int.gcd_dvd_right a b
  have e1 : a / Int.gcd a b = a' := by rw [Int.ediv_eq_of_eq_mul_right (by omega) ha]
  have e2 : b / Int.gcd a b = b' := by rw [Int.ediv_eq_of_eq_mul_right (by omega) hb']
  rw [e1, e2]
  generalize (Int.gcd a b : Int) = g at *
  refine ⟨?_, ?_, ?_⟩
  · have : g * (2 * a') = g * (T * b') := by rw [Int.mul_left_comm, ← ha, h, hb']; rw [Int.mul_left_comm]
    exact Int.eq_of_mul_eq_mul_left (by omega) this
  · rcases Int.lt_or_le 0 b' with h | h
    · exact h
    · have := Int.mul_nonpos_of_nonneg_of_nonpos (show 0 ≤ g by omega) h
      omega
  · rcases Int.lt_or_le 0 b' with h | h
    · rw [hb']
      have : 1 * b' ≤ g * b' := Int.mul_le_mul_of_nonneg_right (by omega) (by omega)
      omega
    · have := Int.mul_nonpos_of_nonneg_of_nonpos (show 0 ≤ g by omega) h
      omega
theorem tw_app (C : List Int → Int) (r : Rw) (x) : tw C (r ++ [x]) = tw C r + wt C x := by
  unfold tw
  rw [List.map_append, List.sum_append]
  simp
theorem take_succ {α : Type} {l : List α} {j : Nat} {x : α} (h : l[j]? = some x) : l.take (j + 1) = l.take j ++ [x] := by
  obtain ⟨h1, h2⟩ := List.getElem?_eq_some_iff.mp h
  rw [List.take_succ, h]
  rfl
/-- the sum of a row -/
theorem row_sum {n fu c m : Nat} {st : Store} {C : List Int → Int} {w : Int} {r : Rw} (wf : WF st) (hc : Cost st c m C) (hr : okR m r) (hf : 100 < fu) (a b d e : Option D) :
    ∃ (ρ' : EnvD) (p q : Int), forLoop (fun d ρ st => bindT (.two (.nm 5) (.nm 6)) st d ρ (exs (lvl T fu (n + 3)) fu c7b0)) (r.map fun x => .py (xT x)) [some (.ref c), a, some (.py (.int w)), b, some (fr 0 1), d, e] st = .go .nx ρ' st ∧
      ρ' = [some (.ref c), a, some (.py (.int w)), b, some (fr p q), ρ'[5]?.getD none, ρ'[6]?.getD none] ∧ 0 < q ∧ q ≤ 8 ∧ 2 * p = tw C r * q := by
  have lp := for_inv (f := fun d ρ st => bindT (.two (.nm 5) (.nm 6)) st d ρ (exs (lvl T fu (n + 3)) fu c7b0))
    (fun i ρ s => ∃ (p q : Int) (x y : Option D), ρ = [some (.ref c), a, some (.py (.int w)), b, some (fr p q), x, y] ∧ s = st ∧ 0 < q ∧ q ≤ 2 ^ i ∧ 2 * p = tw C (r.take i) * q) (r.map fun x => .py (xT x)) 0
    (ρ := [some (.ref c), a, some (.py (.int w)), b, some (fr 0 1), d, e]) (st := st) (fun j e' ρ s hj ⟨p, q, x, y, e1, e2, hq, hq2, hp⟩ => by
      rw [List.getElem?_map] at hj
      obtain ⟨g, hg, rfl⟩ := Option.map_eq_some_iff.mp hj
      rw [e1, e2]
      obtain ⟨hg1, hg2, hg3⟩ := hr.2 g (List.mem_of_getElem? hg)
      have hjl : j < 3 := by
        have := (List.getElem?_eq_some_iff.mp hg).1
        have := hr.1
        omega
      have hq3 : q ≤ 4 := by
        rw [Nat.zero_add] at hq2
        have : j = 0 ∨ j = 1 ∨ j = 2 := by omega
        rcases this with rfl | rfl | rfl <;> simpa using (by omega : q ≤ 4)
      obtain ⟨gg, w0, w1⟩ := g
      simp only at hg1 hg2 hg3
      subst hg2
      have hw1 : 0 < w1 ∧ w1 ≤ 2 := by omega
      have hC := hc.bd gg hg1
      have hwt : 2 * (C gg * 1) = wt C (gg, 1, w1) * w1 := by
        unfold wt
        rcases hg3 with rfl | rfl <;> simp <;> omega
      obtain ⟨k1, k2, k3⟩ := gcd_div hw1.1 hwt
      generalize hG : (Int.gcd (C gg * 1) w1 : Int) = G at k1 k2 k3
      have hsum : 2 * (p * (w1 / G) + (C gg * 1) / G * q) = (tw C (r.take (0 + j)) + wt C (gg, 1, w1)) * (q * (w1 / G)) := by
        have x1 : 2 * (p * (w1 / G)) = tw C (r.take (0 + j)) * q * (w1 / G) := by rw [← Int.mul_assoc, hp]
        have x2 : 2 * ((C gg * 1) / G * q) = wt C (gg, 1, w1) * (w1 / G) * q := by rw [← Int.mul_assoc, k1]
        rw [Int.mul_add, x1, x2, Int.add_mul]
        congr 1
        · rw [Int.mul_assoc]
        · rw [Int.mul_assoc, Int.mul_comm (w1 / G) q]
      have hpos : 0 < q * (w1 / G) := Int.mul_pos hq k2
      obtain ⟨k4, k5, k6⟩ := gcd_div hpos hsum
      have hle : q * (w1 / G) ≤ q * 2 := Int.mul_le_mul_of_nonneg_left (by omega) (by omega)
      refine ⟨_, _, (st_nx (s_set (e_call (es_cons (e_var rfl) (es_cons (e_call (es_cons (e_bin (e_ix (hc.ev rfl) (e_var rfl) (hc.ix hg1)) (e_ix (e_var rfl) e_con rfl) (b_mulL (small_of (by omega) (by omega)))) (es_cons (e_ix (e_var rfl) e_con rfl) es_nil)) (divided_ok (n := n + 1) wf (by omega) hw1.1 (by omega))) es_nil))
        (added_ok (n := n) wf hq (by rw [hG]; exact k2) (by rw [hG]; omega) (by omega) (by rw [hG]; omega) (by rw [hG]; omega))))).trans s_nil, _, _, _, _, rfl, rfl, ?_, ?_, ?_⟩
      · rw [hG]; exact k5
      · rw [hG]
        have e4 : (2 : Int) ^ (0 + j + 1) = 2 ^ (0 + j) * 2 := Int.pow_succ 2 (0 + j)
        rw [e4]
        have h9 : q * 2 ≤ 2 ^ (0 + j) * 2 := Int.mul_le_mul_of_nonneg_right hq2 (by omega)
        exact Int.le_trans k6 (Int.le_trans hle h9)
      · rw [hG, Nat.zero_add, take_succ hg, tw_app]
        rw [Nat.zero_add] at k4
        exact k4) ⟨0, 1, d, e, rfl, rfl, by omega, by simp, by simp [tw]⟩
  obtain ⟨ρ', st', hl, p, q, x, y, e1, e2, h1, h2, h3⟩ := lp
  rw [e2] at hl
  refine ⟨ρ', p, q, hl, by rw [e1]; rfl, h1, ?_, ?_⟩
  · rw [Nat.zero_add, List.length_map] at h2
    have := hr.1
    have : r.length = 0 ∨ r.length = 1 ∨ r.length = 2 ∨ r.length = 3 := by omega
    rcases this with e | e | e | e <;> rw [e] at h2 <;> simp at h2 <;> omega
  · rw [Nat.zero_add, List.length_map, List.take_length] at h3
    exact h3
end La
set_option maxHeartbeats 1000000
namespace La
open PySem Ev
def allg (m : Nat) : List Int := (List.range m).map fun (i : Nat) => (i : Int)
theorem allg_mem {m : Nat} (hm : m = 1 ∨ m = 2 ∨ m = 3 ∨ m = 4) : allg m ∈ grps m := by
  rcases hm with rfl | rfl | rfl | rfl <;> decide
theorem gT_all (m : Nat) : (PyData.tuple ((List.range m).map fun (i : Nat) => .int i)) = gT (allg m) := by
  unfold gT allg
  rw [List.map_map]; rfl
/-- the first row that costs less than all together -/
def fb (C : List Int → Int) (m : Nat) : Option Rw := (bal m).find? fun r => decide (tw C r < 2 * C (allg m))
def fbT (C : List Int → Int) (m : Nat) : D := match fb C m with
  | some r => .py (rwT r)
  | none => .py .none
section
variable {n fu c m : Nat} {st : Store} {C : List Int → Int}
theorem unstable_ok (wf : WF st) (hs : st.length < 10) (hc : Cost st c m C) (hm : m = 1 ∨ m = 2 ∨ m = 3) (hf : 100 < fu) : lvl T fu (n + 4) 7 [.ref c, .py (.int m)] st = .ok (fbT C m) st := by
  have hm4 : m = 1 ∨ m = 2 ∨ m = 3 ∨ m = 4 := by omega
  have hall := allg_mem hm4
  have hw := hc.bd _ hall
  have e0 : ex (lvl T fu (n + 3)) fu (.set 2 (.ix (.var 0) (.trng (.var 1)))) [some (.ref c), some (.py (.int m)), none, none, none, none, none] st = .go .nx [some (.ref c), some (.py (.int m)), some (.py (.int (C (allg m)))), none, none, none, none] st :=
    s_set (e_ix (hc.ev rfl) (e_trng (e_var rfl) (by omega)) (by rw [gT_all]; exact hc.ix hall))
  have ei : evI (lvl T fu (n + 3)) (.e (.call 6 (.cons (.var 1) .nil))) [some (.ref c), some (.py (.int m)), some (.py (.int (C (allg m)))), none, none, none, none] st = .ok (((bal m).map rwT).map .py) st :=
    i_e (e_call (es_cons (e_var rfl) es_nil) (bal_ok (n := n + 2) wf hs hm))
  rw [List.map_map] at ei
  obtain ⟨k1, k2⟩ := for_first (f := fun d ρ st => bindT (.nm 3) st d ρ (exs (lvl T fu (n + 3)) fu c7b2)) (st := st) (D.py ∘ rwT) (fun r => decide (tw C r < 2 * C (allg m))) (D.py ∘ rwT)
    (fun ρ => ∃ x0 x1 x2 x3, ρ = [some (.ref c), some (.py (.int m)), some (.py (.int (C (allg m)))), x0, x1, x2, x3]) (bal m) [some (.ref c), some (.py (.int m)), some (.py (.int (C (allg m)))), none, none, none, none] ⟨_, _, _, _, rfl⟩ (fun r hr ρ ⟨x0, x1, x2, x3, e1⟩ => by
      subst e1
      rw [bind_nm]
      simp only [List.set_cons_succ, List.set_cons_zero, Function.comp]
      obtain ⟨ρ', p, q, l1, l2, l3, l4, l5⟩ := row_sum (n := n) (fu := fu) (w := C (allg m)) wf hc (okR_bal hm r hr) hf (some (.py (.int m))) (some (.py (rwT r))) x2 (e := x3)
      rw [l2] at l1
      have les : ∀ {b : Bool}, decide (tw C r < 2 * C (allg m)) = b → evT (lvl T fu (n + 3)) (.v (.call 2 (.cons (.var 4) (.cons (.tup (.cons (.var 2) (.cons (.con (.int 1)) .nil))) .nil)))) [some (.ref c), some (.py (.int m)), some (.py (.int (C (allg m)))), some (.py (rwT r)), some (fr p q), ρ'[5]?.getD none, ρ'[6]?.getD none] st = .ok b st := fun {b} hb => by
        have this : (p * 1 < C (allg m) * q) ↔ (tw C r < 2 * C (allg m)) := by
          constructor
          · intro z
            have z2 : tw C r * q < (2 * C (allg m)) * q := by rw [← l5, Int.mul_assoc]; omega
            exact Int.lt_of_mul_lt_mul_right z2 (by omega)
          · intro z
            have z2 := Int.mul_lt_mul_of_pos_right z l3
            rw [← l5, Int.mul_assoc] at z2
            omega
        have il := is_less_ok (n := n + 2) (fu := fu) (st := st) (p := p) (q := q) (r := C (allg m)) (s := 1) wf ⟨l3, by omega⟩ ⟨by omega, by omega⟩
        rw [decide_eq_decide.mpr this, hb] at il
        exact t_b (e_call (es_cons (e_var rfl) (es_cons (e_tup (es_cons (e_var rfl) (es_cons e_con es_nil))) es_nil)) il)
      have go : exs (lvl T fu (n + 3)) fu c7b2 [some (.ref c), some (.py (.int m)), some (.py (.int (C (allg m)))), some (.py (rwT r)), x1, x2, x3] st = exs (lvl T fu (n + 3)) fu (.cons (.ife (.v (.call 2 (.cons (.var 4) (.cons (.tup (.cons (.var 2) (.cons (.con (.int 1)) .nil))) .nil)))) c7b1 .nil) .nil) [some (.ref c), some (.py (.int m)), some (.py (.int (C (allg m)))), some (.py (rwT r)), some (fr p q), ρ'[5]?.getD none, ρ'[6]?.getD none] st :=
        (st_nx (s_set (e_tup (es_cons e_con (es_cons e_con es_nil))))).trans (st_nx ((s_for (i_e (e_var rfl))).trans (by rw [List.map_map]; exact l1)))
      rw [go]
      refine ⟨fun h => ⟨_, st_fl ((s_ift (les h)).trans (st_fl (s_ret (e_var rfl)) (fun z => by cases z))) (fun z => by cases z)⟩, fun h => ⟨_, (st_nx ((s_iff (les h)).trans s_nil)).trans s_nil, _, _, _, _, rfl⟩⟩)
  show runFn (lvl T fu (n + 3)) fu 2 7 c7 [.ref c, .py (.int m)] st = _
  unfold fbT
  cases hfb : fb C m with
  | some r =>
    obtain ⟨ρ', h1⟩ := k1 r hfb
    exact run_any (ar := 2) (sl := 7) (b := c7) rfl ((st_nx e0).trans (st_fl ((s_for ei).trans h1) (fun z => by cases z))) (trim_py0 wf)
  | none =>
    obtain ⟨ρ', h1, _⟩ := k2 hfb
    exact run_any (ar := 2) (sl := 7) (b := c7) rfl ((st_nx e0).trans ((st_nx ((s_for ei).trans h1)).trans (st_fl (s_ret e_con) (fun z => by cases z)))) (trim_py0 wf)
end
end La
set_option maxHeartbeats 1000000
namespace La
open PySem Ev
theorem seqI_list {st : Store} (l : List Int) : seqI st (.py (.list (l.map .int))) = some l := by
  unfold seqI seqPD
  have e : seqOf st (.py (.list (l.map .int))) = some ((l.map .int).map .py) := by simp [seqOf, Ev.listOf]
  rw [e, Option.bind_some, pys_map, Option.bind_some, intsOf_map]
theorem n_sum {st : Store} (l : List Int) : bi st .sum [.py (.list (l.map .int))] = some (.py (.int l.sum)) := by
  simp only [bi, seqI_list, Option.map_some]
theorem pys_ints (l : List Int) : pys (l.map fun i => D.py (.int i)) = some (l.map .int) := by
  have := pys_map (l.map PyData.int)
  rwa [List.map_map] at this
section
variable {n fu c m : Nat} {st : Store} {C : List Int → Int}
theorem barred_ok (wf : WF st) (hc : Cost st c m C) (hm : m = 1 ∨ m = 2 ∨ m = 3) : lvl T fu (n + 2) 18 [.ref c, .py (.int m)] st = .ok (fbT C m) st := by
  have hm4 : m = 1 ∨ m = 2 ∨ m = 3 ∨ m = 4 := by omega
  have hall := allg_mem hm4
  have ei : evI (lvl T fu (n + 1)) (.e (.call 17 (.cons (.var 1) .nil))) [some (.ref c), some (.py (.int m)), none, none, none, none] st = .ok (((bal m).map rwT).map .py) st :=
    i_e (e_call (es_cons (e_var rfl) es_nil) (lbal_ok (n := n) wf hm))
  rw [List.map_map] at ei
  obtain ⟨k1, k2⟩ := for_first (f := fun d ρ st => bindT (.nm 2) st d ρ (exs (lvl T fu (n + 1)) fu c18b1)) (st := st) (D.py ∘ rwT) (fun r => decide (tw C r < 2 * C (allg m))) (D.py ∘ rwT)
    (fun ρ => ∃ x0 x1 x2 x3, ρ = [some (.ref c), some (.py (.int m)), x0, x1, x2, x3]) (bal m) [some (.ref c), some (.py (.int m)), none, none, none, none] ⟨_, _, _, _, rfl⟩ (fun r hr ρ ⟨x0, x1, x2, x3, e1⟩ => by
      subst e1
      rw [bind_nm]
      simp only [List.set_cons_succ, List.set_cons_zero, Function.comp]
      have okr := okR_bal hm r hr
      have hsum : ev (lvl T fu (n + 1)) (.bi .sum (.cons (.li (.lc (.bi .int (.cons (.bin .fdiv (.bin .mul (.bin .mul (.con (.int 2)) (.ix (.var 0) (.var 4))) (.ix (.var 5) (.con (.int 0)))) (.ix (.var 5) (.con (.int 1)))) .nil)) (.two (.nm 4) (.nm 5)) [4, 5] (.e (.var 2)) .yes)) .nil)) [some (.ref c), some (.py (.int m)), some (.py (rwT r)), x1, x2, x3] st = .ok (.py (.int (tw C r))) st := by
        refine e_bi (es_cons (e_li (l_lc (i_e (e_var rfl)) (lcLoop_map (g := fun d => match d with
          | .py (.tuple [.tuple g, .tuple [.int w0, .int w1]]) => .py (.int (2 * C ((intsOf g).getD []) * w0 / w1))
          | d => d) _ (fun d hd => ?_) ?_)) (ps := (r.map (wt C)).map .int) ?_) es_nil) ?_
        · obtain ⟨p, hp, rfl⟩ := List.mem_map.mp hd
          obtain ⟨x, hx, rfl⟩ := List.mem_map.mp hp
          obtain ⟨hg1, hg2, hg3⟩ := okr.2 x hx
          obtain ⟨gg, w0, w1⟩ := x
          simp only at hg1 hg2 hg3
          subst hg2
          have hC := hc.bd gg hg1
          show (match some ([some (.ref c), some (.py (.int m)), some (.py (rwT r)), x1, some (.py (gT gg)), some (.py (.tuple [.int 1, .int w1]))] : EnvD) with
            | some ρ' => (evT (lvl T fu (n + 1)) .yes ρ' st).noex.bind fun b st => if b = true then (ev (lvl T fu (n + 1)) _ ρ' st).noex.bind fun x st => Rs.ok (some x) st else .ok none st
            | none => .bad) = _
          simp only
          rw [t_yes]
          simp only [Rs.noex_ok, Rs.bind_ok, if_true]
          rw [e_bi (z := .py (.int (2 * C gg * 1 / w1))) (es_cons (e_bin (e_bin (e_bin e_con (e_ix (hc.ev rfl) (e_var rfl) (hc.ix hg1)) (b_mulL (small_of (by omega) (by omega)))) (e_ix (e_var rfl) e_con rfl) (b_mulR (small_of (by omega) (by omega)))) (e_ix (e_var rfl) e_con rfl) (b_fdiv (by omega) (by omega))) es_nil) rfl]
          simp only [Rs.noex_ok, Rs.bind_ok]
          show Rs.ok (some _) st = Rs.ok (some (D.py (.int (2 * C ((intsOf (gg.map .int)).getD []) * 1 / w1)))) st
          rw [intsOf_map]; rfl
        · rw [List.length_map, List.length_map]
          show _ ≤ 16777216
          have := okr.1
          omega
        · refine (congrArg pys ?_).trans (pys_ints _)
          rw [List.map_map, List.map_map, List.map_map]
          refine List.map_congr_left fun x _ => ?_
          obtain ⟨gg, w0, w1⟩ := x
          show D.py (.int (2 * C ((intsOf (gg.map .int)).getD []) * w0 / w1)) = _
          rw [intsOf_map]; rfl
        · rw [n_sum]; rfl
      have les : ∀ {b : Bool}, decide (tw C r < 2 * C (allg m)) = b → evT (lvl T fu (n + 1)) (.v (.cmp .lt (.var 3) (.bin .mul (.con (.int 2)) (.ix (.var 0) (.trng (.var 1)))))) [some (.ref c), some (.py (.int m)), some (.py (rwT r)), some (.py (.int (tw C r))), x2, x3] st = .ok b st := fun {b} hb =>
        t_b (e_cmp (e_var rfl) (e_bin e_con (e_ix (hc.ev rfl) (e_trng (e_var rfl) (by omega)) (by rw [gT_all]; exact hc.ix hall)) (b_mulL (small_of (by omega) (by omega)))) (by rw [c_lt, hb]))
      have go : exs (lvl T fu (n + 1)) fu c18b1 [some (.ref c), some (.py (.int m)), some (.py (rwT r)), x1, x2, x3] st = exs (lvl T fu (n + 1)) fu (.cons (.ife (.v (.cmp .lt (.var 3) (.bin .mul (.con (.int 2)) (.ix (.var 0) (.trng (.var 1)))))) c18b0 .nil) .nil) [some (.ref c), some (.py (.int m)), some (.py (rwT r)), some (.py (.int (tw C r))), x2, x3] st := st_nx (s_set hsum)
      rw [go]
      exact ⟨fun h => ⟨_, st_fl ((s_ift (les h)).trans (st_fl (s_ret (e_var rfl)) (fun z => by cases z))) (fun z => by cases z)⟩, fun h => ⟨_, (st_nx ((s_iff (les h)).trans s_nil)).trans s_nil, _, _, _, _, rfl⟩⟩)
  show runFn (lvl T fu (n + 1)) fu 2 6 c18 [.ref c, .py (.int m)] st = _
  unfold fbT
  cases hfb : fb C m with
  | some r =>
    obtain ⟨ρ', h1⟩ := k1 r hfb
    exact run_at (ar := 2) (sl := 6) (b := c18) (ds := [.ref c, .py (.int m)]) (ρ0 := [some (.ref c), some (.py (.int m)), none, none, none, none]) rfl rfl (st_fl ((s_for ei).trans h1) (fun z => by cases z)) (trim_py0 wf)
  | none =>
    obtain ⟨ρ', h1, _⟩ := k2 hfb
    exact run_at (ar := 2) (sl := 6) (b := c18) (ds := [.ref c, .py (.int m)]) (ρ0 := [some (.ref c), some (.py (.int m)), none, none, none, none]) rfl rfl ((st_nx ((s_for ei).trans h1)).trans (st_fl (s_ret e_con) (fun z => by cases z))) (trim_py0 wf)
end
end La
set_option maxHeartbeats 1000000
namespace La
open PySem Ev
def mx (i j : Int) : Int := if j > i then j else i
/-- stable shares, by the program -/
def ss (C : List Int → Int) : Nat → List Int
  | 1 => [C [0]]
  | 2 => [C [0, 1] - C [1], C [1]]
  | _ => [mx (C [0, 1, 2] - C [1, 2]) (C [0, 1, 2] - C [1] - C [2]), mx (C [0, 1, 2] - C [0, 2]) (C [0, 1, 2] - mx (C [0, 1, 2] - C [1, 2]) (C [0, 1, 2] - C [1] - C [2]) - C [2]),
    C [0, 1, 2] - mx (C [0, 1, 2] - C [1, 2]) (C [0, 1, 2] - C [1] - C [2]) - mx (C [0, 1, 2] - C [0, 2]) (C [0, 1, 2] - mx (C [0, 1, 2] - C [1, 2]) (C [0, 1, 2] - C [1] - C [2]) - C [2])]
def shT (l : List Int) : PD := .list (l.map fun s => .tuple [.int s, .int 1])
def ssT (C : List Int → Int) (m : Nat) : D := match fb C m with
  | some _ => .py .none
  | none => .py (shT (ss C m))
section
variable {n fu c m : Nat} {st : Store} {C : List Int → Int}
theorem shares_ok (wf : WF st) (hs : st.length < 10) (hc : Cost st c m C) (hm : m = 1 ∨ m = 2 ∨ m = 3) (hf : 100 < fu) : lvl T fu (n + 5) 8 [.ref c, .py (.int m)] st = .ok (ssT C m) st := by
  have hm4 : m = 1 ∨ m = 2 ∨ m = 3 ∨ m = 4 := by omega
  have hall := allg_mem hm4
  have ht : ∀ {b : Bool}, (fb C m).isSome = b → evT (lvl T fu (n + 4)) (.v (.isc .none true (.call 7 (.cons (.var 0) (.cons (.var 1) .nil))))) [some (.ref c), some (.py (.int m)), none, none, none] st = .ok b st := fun {b} h => by
    have e := e_isc (a := .call 7 (.cons (.var 0) (.cons (.var 1) .nil))) (c := .none) (ng := true) (e_call (es_cons (hc.ev (ρ := [some (.ref c), some (.py (.int m)), none, none, none]) (Δ := lvl T fu (n + 4)) rfl) (es_cons (e_var rfl) es_nil)) (unstable_ok (n := n) wf hs hc hm hf)) (k := !b) (by
      unfold fbT
      cases q : fb C m with
      | some r => rw [q] at h; subst h; rfl
      | none => rw [q] at h; subst h; rfl)
    refine t_b (e.trans ?_)
    cases b <;> rfl
  show runFn (lvl T fu (n + 4)) fu 2 5 c8 [.ref c, .py (.int m)] st = _
  unfold ssT
  cases hfb : fb C m with
  | some r =>
    exact run_at (ar := 2) (sl := 5) (b := c8) (ds := [.ref c, .py (.int m)]) (ρ0 := [some (.ref c), some (.py (.int m)), none, none, none]) rfl rfl (st_fl ((s_ift (ht (by rw [hfb]; rfl))).trans (st_fl (s_ret e_con) (fun z => by cases z))) (fun z => by cases z)) (trim_py0 wf)
  | none =>
    have e0 := (s_iff (a := c8b0) (fu := fu) (ht (b := false) (by rw [hfb]; rfl))).trans (s_nil (Δ := lvl T fu (n + 4)))
    have e1 : ex (lvl T fu (n + 4)) fu (.set 2 (.ix (.var 0) (.trng (.var 1)))) [some (.ref c), some (.py (.int m)), none, none, none] st = .go .nx [some (.ref c), some (.py (.int m)), some (.py (.int (C (allg m)))), none, none] st :=
      s_set (e_ix (hc.ev rfl) (e_trng (e_var rfl) (by omega)) (by rw [gT_all]; exact hc.ix hall))
    have teq : ∀ {k : Int} {b : Bool}, decide ((m : Int) = k) = b → evT (lvl T fu (n + 4)) (.v (.cmp .eq (.var 1) (.con (.int k)))) [some (.ref c), some (.py (.int m)), some (.py (.int (C (allg m)))), none, none] st = .ok b st := fun {k b} h => t_b (e_cmp (e_var rfl) e_con (by rw [c_eqI, h]))
    have key : ∀ {ρ : EnvD} {es : Es} {g : List Int}, ρ[0]? = some (some (.ref c)) → evs (lvl T fu (n + 4)) es ρ st = .ok (g.map fun i => .py (.int i)) st → g ∈ grps m → ev (lvl T fu (n + 4)) (.ix (.var 0) (.tup es)) ρ st = .ok (.py (.int (C g))) st := fun {ρ es g} h0 h1 h2 => by
      have e := e_tup h1
      have e2 : mkTup (g.map fun i => D.py (.int i)) = .py (gT g) := by
        unfold mkTup
        rw [pys_ints]; rfl
      rw [e2] at e
      exact e_ix (hc.ev h0) e (hc.ix h2)
    rcases hm with rfl | rfl | rfl
    · refine run_at (ar := 2) (sl := 5) (b := c8) (ds := [.ref c, .py (.int (1 : Nat))]) (ρ0 := [some (.ref c), some (.py (.int (1 : Nat))), none, none, none]) rfl rfl ((st_nx e0).trans ((st_nx e1).trans (st_fl ((s_ift (teq rfl)).trans (st_fl (s_ret ?_) (fun z => by cases z))) (fun z => by cases z)))) (trim_py0 wf)
      exact e_li (l_lst (es_cons (e_tup (es_cons (e_var rfl) (es_cons e_con es_nil))) es_nil) (show 1 ≤ 16777216 by decide)) rfl
    · refine run_at (ar := 2) (sl := 5) (b := c8) (ds := [.ref c, .py (.int (2 : Nat))]) (ρ0 := [some (.ref c), some (.py (.int (2 : Nat))), none, none, none]) rfl rfl ((st_nx e0).trans ((st_nx e1).trans ((st_nx ((s_iff (teq rfl)).trans s_nil)).trans (st_fl ((s_ift (teq rfl)).trans (st_fl (s_ret ?_) (fun z => by cases z))) (fun z => by cases z))))) (trim_py0 wf)
      exact e_li (l_lst (es_cons (e_tup (es_cons (e_bin (e_var rfl) (key (g := [1]) rfl (es_cons e_con es_nil) (by decide)) b_sub) (es_cons e_con es_nil))) (es_cons (e_tup (es_cons (key (g := [1]) rfl (es_cons e_con es_nil) (by decide)) (es_cons e_con es_nil))) es_nil)) (show 2 ≤ 16777216 by decide)) rfl
    · refine run_at (ar := 2) (sl := 5) (b := c8) (ds := [.ref c, .py (.int (3 : Nat))]) (ρ0 := [some (.ref c), some (.py (.int (3 : Nat))), none, none, none]) rfl rfl ((st_nx e0).trans ((st_nx e1).trans ((st_nx ((s_iff (teq rfl)).trans s_nil)).trans ((st_nx ((s_iff (teq rfl)).trans s_nil)).trans ((st_nx (st' := st) (s_set (d := .py (.int (mx (C (allg 3) - C [1, 2]) (C (allg 3) - C [1] - C [2])))) ?_)).trans ((st_nx (st' := st) (s_set (d := .py (.int (mx (C (allg 3) - C [0, 2]) (C (allg 3) - mx (C (allg 3) - C [1, 2]) (C (allg 3) - C [1] - C [2]) - C [2])))) ?_)).trans (st_fl (s_ret ?_) (fun z => by cases z)))))))) (trim_py0 wf)
      rotate_left 2
      · exact e_li (l_lst (es_cons (e_tup (es_cons (e_var rfl) (es_cons e_con es_nil))) (es_cons (e_tup (es_cons (e_var rfl) (es_cons e_con es_nil))) (es_cons (e_tup (es_cons (e_bin (e_bin (e_var rfl) (e_var rfl) b_sub) (e_var rfl) b_sub) (es_cons e_con es_nil))) es_nil))) (show 3 ≤ 16777216 by decide)) rfl
      · exact e_bi (es_cons (e_bin (e_var rfl) (key (g := [1, 2]) rfl (es_cons e_con (es_cons e_con es_nil)) (by decide)) b_sub) (es_cons (e_bin (e_bin (e_var rfl) (key (g := [1]) rfl (es_cons e_con es_nil) (by decide)) b_sub) (key (g := [2]) rfl (es_cons e_con es_nil) (by decide)) b_sub) es_nil)) n_max2
      · exact e_bi (es_cons (e_bin (e_var rfl) (key (g := [0, 2]) rfl (es_cons e_con (es_cons e_con es_nil)) (by decide)) b_sub) (es_cons (e_bin (e_bin (e_var rfl) (e_var rfl) b_sub) (key (g := [2]) rfl (es_cons e_con es_nil) (by decide)) b_sub) es_nil)) n_max2
end
end La
set_option maxHeartbeats 1000000
namespace La
open PySem Ev
abbrev Fr := List (Int × Int)
def frP (s : Int × Int) : PD := .tuple [.int s.1, .int s.2]
def com (sh : Fr) : Int := (sh.map (·.2)).foldl (· * ·) 1
def parts (sh : Fr) : List Int := sh.map fun s => s.1 * (com sh / s.2)
def gsum (ps : List Int) (g : List Int) : Int := (g.map fun i => ps.getD i.toNat 0).sum
def lst (C : List Int → Int) (m : Nat) (sh : Fr) : Bool := decide ((parts sh).sum = C (allg m) * com sh) && (grps m).all fun g => decide (gsum (parts sh) g ≤ C g * com sh)
theorem grps_ix {m : Nat} (hm : m = 1 ∨ m = 2 ∨ m = 3 ∨ m = 4) : ∀ g ∈ grps m, g.length ≤ 4 ∧ ∀ i ∈ g, 0 ≤ i ∧ i < m := by
  rcases hm with rfl | rfl | rfl | rfl <;> decide
section
variable {n fu c m : Nat} {st : Store} {C : List Int → Int}
theorem lstable_ok (wf : WF st) (hc : Cost st c m C) (hm : m = 1 ∨ m = 2 ∨ m = 3 ∨ m = 4) {sh : Fr} (hl : sh.length = m) (hd : ∀ s ∈ sh, 0 < s.2 ∧ s.2 ≤ 100) : lvl T fu (n + 2) 19 [.ref c, .py (.int m), .py (.list (sh.map frP))] st = .ok (.py (.bool (lst C m sh))) st := by
  have hall := allg_mem hm
  have hm4 : m ≤ 4 := by omega
  -- the common denominator
  have lp := for_inv (f := fun d ρ st => bindT (.nm 4) st d ρ (exs (lvl T fu (n + 1)) fu c19b0))
    (fun i ρ s => ∃ x, ρ = [some (.ref c), some (.py (.int m)), some (.py (.list (sh.map frP))), some (.py (.int (com (sh.take i)))), x, none, none, none] ∧ s = st ∧ 0 < com (sh.take i) ∧ com (sh.take i) ≤ 100 ^ i) (sh.map fun s => .py (frP s)) 0
    (ρ := [some (.ref c), some (.py (.int m)), some (.py (.list (sh.map frP))), some (.py (.int 1)), none, none, none, none]) (st := st) (fun j d ρ s hj ⟨x, e1, e2, h1, h2⟩ => by
      rw [List.getElem?_map] at hj
      obtain ⟨q, hq, rfl⟩ := Option.map_eq_some_iff.mp hj
      rw [e1, e2, bind_nm]
      simp only [List.set_cons_succ, List.set_cons_zero]
      rw [Nat.zero_add] at h1 h2 ⊢
      have hq2 := hd q (List.mem_of_getElem? hq)
      have ec : com (sh.take (j + 1)) = com (sh.take j) * q.2 := by
        unfold com
        rw [take_succ hq, List.map_append, List.foldl_append]; rfl
      refine ⟨_, _, (st_nx (s_set (e_bin (e_var rfl) (e_ix (e_var rfl) e_con rfl) (b_mulR (small_of (by omega) (by omega)))))).trans s_nil, _, by rw [ec]; rfl, rfl, by rw [ec]; exact Int.mul_pos h1 hq2.1, ?_⟩
      rw [ec, Int.pow_succ]
      exact Int.le_trans (Int.mul_le_mul_of_nonneg_right h2 (by omega)) (Int.mul_le_mul_of_nonneg_left hq2.2 (Int.pow_nonneg (by omega)))) ⟨none, rfl, rfl, by simp [com], by simp [com]⟩
  obtain ⟨ρ', st', hl1, x, e1, e2, h1, h2⟩ := lp
  rw [Nat.zero_add, List.length_map, List.take_length] at e1 h1 h2
  rw [e1, e2] at hl1
  have hcom : com sh ≤ 100000000 := by
    rw [hl] at h2
    refine Int.le_trans h2 ?_
    rcases hm with rfl | rfl | rfl | rfl <;> decide
  generalize hK : com sh = K at *
  -- the parts
  have hp : ev (lvl T fu (n + 1)) (.li (.lc (.bin .mul (.ix (.var 4) (.con (.int 0))) (.bin .fdiv (.var 3) (.ix (.var 4) (.con (.int 1))))) (.nm 4) [4] (.e (.var 2)) .yes)) [some (.ref c), some (.py (.int m)), some (.py (.list (sh.map frP))), some (.py (.int K)), x, none, none, none] st = .ok (.py (.list ((parts sh).map .int))) st := by
    refine e_li (l_lcm sh (fun s => .py (frP s)) (fun s => .py (.int (s.1 * (K / s.2)))) (i_e (l := sh.map frP) (e_var rfl) |>.trans (by rw [List.map_map]; rfl)) (fun s hs => ?_) (show sh.length ≤ 16777216 by omega)) ?_
    · have h3 := hd s hs
      have h4 : 0 ≤ K / s.2 := Int.ediv_nonneg (by omega) (by omega)
      have h5 : K / s.2 ≤ K := Int.ediv_le_self _ (by omega)
      exact e_bin (e_ix (e_var rfl) e_con rfl) (e_bin (e_var rfl) (e_ix (e_var rfl) e_con rfl) (b_fdiv h3.1 (by omega))) (b_mulR (small_of (by omega) (by omega)))
    · unfold parts
      rw [hK]
      have := pys_ints (sh.map fun s => s.1 * (K / s.2))
      rwa [List.map_map] at this
  have hplen : (parts sh).length = m := by unfold parts; rw [List.length_map, hl]
  have t1 : ∀ {b : Bool}, (!decide ((parts sh).sum = C (allg m) * K)) = b → evT (lvl T fu (n + 1)) (.v (.cmp .ne (.bi .sum (.cons (.var 5) .nil)) (.bin .mul (.ix (.var 0) (.trng (.var 1))) (.var 3)))) [some (.ref c), some (.py (.int m)), some (.py (.list (sh.map frP))), some (.py (.int K)), x, some (.py (.list ((parts sh).map .int))), none, none] st = .ok b st := fun {b} hb =>
    t_b (e_cmp (e_bi (es_cons (e_var rfl) es_nil) (n_sum _)) (e_bin (e_ix (hc.ev rfl) (e_trng (e_var rfl) (by omega)) (by rw [gT_all]; exact hc.ix hall)) (e_var rfl) (b_mulR (small_of (by omega) (by omega)))) (by rw [c_neI, hb]))
  have pre : exs (lvl T fu (n + 1)) fu c19 [some (.ref c), some (.py (.int m)), some (.py (.list (sh.map frP))), none, none, none, none, none] st = exs (lvl T fu (n + 1)) fu (.cons (.ife (.v (.cmp .ne (.bi .sum (.cons (.var 5) .nil)) (.bin .mul (.ix (.var 0) (.trng (.var 1))) (.var 3)))) c19b1 .nil) (.cons (.for (.nm 6) (.e (.call 14 (.cons (.var 1) .nil))) c19b3) (.cons (.ret (.con (.bool true))) .nil)))
      [some (.ref c), some (.py (.int m)), some (.py (.list (sh.map frP))), some (.py (.int K)), x, some (.py (.list ((parts sh).map .int))), none, none] st :=
    (st_nx (s_set e_con)).trans ((st_nx ((s_for (i_e (l := sh.map frP) (e_var rfl))).trans (by rw [List.map_map]; exact hl1))).trans (st_nx (s_set hp)))
  have ei : evI (lvl T fu (n + 1)) (.e (.call 14 (.cons (.var 1) .nil))) [some (.ref c), some (.py (.int m)), some (.py (.list (sh.map frP))), some (.py (.int K)), x, some (.py (.list ((parts sh).map .int))), none, none] st = .ok (((grps m).map gT).map .py) st :=
    i_e (e_call (es_cons (e_var rfl) es_nil) (lgroups_ok (n := n) wf hm))
  rw [List.map_map] at ei
  obtain ⟨k1, k2⟩ := for_first (f := fun d ρ st => bindT (.nm 6) st d ρ (exs (lvl T fu (n + 1)) fu c19b3)) (st := st) (D.py ∘ gT) (fun g => decide (C g * K < gsum (parts sh) g)) (fun _ => .py (.bool false))
    (fun ρ => ∃ x6 x7, ρ = [some (.ref c), some (.py (.int m)), some (.py (.list (sh.map frP))), some (.py (.int K)), x, some (.py (.list ((parts sh).map .int))), x6, x7]) (grps m) _ ⟨none, none, rfl⟩ (fun g hg ρ ⟨x6, x7, e1⟩ => by
      subst e1
      rw [bind_nm]
      simp only [List.set_cons_succ, List.set_cons_zero, Function.comp]
      obtain ⟨g1, g2⟩ := grps_ix hm g hg
      have hC := hc.bd g hg
      have hs : ev (lvl T fu (n + 1)) (.bi .sum (.cons (.li (.lc (.ix (.var 5) (.var 7)) (.nm 7) [7] (.e (.var 6)) .yes)) .nil)) [some (.ref c), some (.py (.int m)), some (.py (.list (sh.map frP))), some (.py (.int K)), x, some (.py (.list ((parts sh).map .int))), some (.py (gT g)), x7] st = .ok (.py (.int (gsum (parts sh) g))) st := by
        refine e_bi (es_cons (e_li (ps := (g.map fun i => (parts sh).getD i.toNat 0).map .int) (l_lcm g (fun i => .py (.int i)) (fun i => .py (.int ((parts sh).getD i.toNat 0))) ((i_t (l := g.map .int) (e_var rfl)).trans (by rw [List.map_map]; rfl)) (fun i hi => ?_) (show g.length ≤ 16777216 by omega)) ?_) es_nil) (n_sum _)
        · obtain ⟨i1, i2⟩ := g2 i hi
          obtain ⟨k, rfl⟩ : ∃ k : Nat, i = (k : Int) := ⟨i.toNat, by omega⟩
          have hlt : k < (parts sh).length := by rw [hplen]; omega
          refine e_ix (e_var rfl) (e_var rfl) ?_
          show getix st (.py (.list ((parts sh).map .int))) (.py (.int (k : Int))) = _
          simp only [getix, intOf, Option.bind_some, List.length_map, ixN_nat hlt, List.getElem?_map, Int.toNat_natCast]
          simp [List.getElem?_eq_getElem hlt]
        · have := pys_ints (g.map fun i => (parts sh).getD i.toNat 0)
          rwa [List.map_map] at this
      have t2 : ∀ {b : Bool}, decide (C g * K < gsum (parts sh) g) = b → evT (lvl T fu (n + 1)) (.v (.cmp .gt (.bi .sum (.cons (.li (.lc (.ix (.var 5) (.var 7)) (.nm 7) [7] (.e (.var 6)) .yes)) .nil)) (.bin .mul (.ix (.var 0) (.var 6)) (.var 3)))) [some (.ref c), some (.py (.int m)), some (.py (.list (sh.map frP))), some (.py (.int K)), x, some (.py (.list ((parts sh).map .int))), some (.py (gT g)), x7] st = .ok b st := fun {b} hb =>
        t_b (e_cmp hs (e_bin (e_ix (hc.ev rfl) (e_var rfl) (hc.ix hg)) (e_var rfl) (b_mulR (small_of (by omega) (by omega)))) (by rw [c_gt, hb]))
      exact ⟨fun h => ⟨_, st_fl ((s_ift (t2 h)).trans (st_fl (s_ret e_con) (fun z => by cases z))) (fun z => by cases z)⟩, fun h => ⟨_, (st_nx ((s_iff (t2 h)).trans s_nil)).trans s_nil, _, _, rfl⟩⟩)
  show runFn (lvl T fu (n + 1)) fu 3 8 c19 [.ref c, .py (.int m), .py (.list (sh.map frP))] st = _
  have fin : ∃ ρ', exs (lvl T fu (n + 1)) fu c19 [some (.ref c), some (.py (.int m)), some (.py (.list (sh.map frP))), none, none, none, none, none] st = .go (.rt (.py (.bool (lst C m sh)))) ρ' st := by
    rw [pre]
    unfold lst
    rw [hK]
    by_cases hS : (parts sh).sum = C (allg m) * K
    · rw [decide_eq_true hS, Bool.true_and]
      have z1 := (s_iff (a := c19b1) (fu := fu) (t1 (b := false) (by rw [decide_eq_true hS]; rfl))).trans s_nil
      cases hf : (grps m).find? fun g => decide (C g * K < gsum (parts sh) g) with
      | some g =>
        obtain ⟨ρ2, h3⟩ := k1 g hf
        have : ((grps m).all fun g => decide (gsum (parts sh) g ≤ C g * K)) = false := by
          have q1 := List.find?_some hf
          have q2 := List.mem_of_find?_eq_some hf
          rw [decide_eq_true_eq] at q1
          rw [List.all_eq_false]
          exact ⟨g, q2, by rw [decide_eq_true_eq]; omega⟩
        rw [this]
        exact ⟨_, (st_nx z1).trans (st_fl ((s_for ei).trans h3) (fun z => by cases z))⟩
      | none =>
        obtain ⟨ρ2, h3, _⟩ := k2 hf
        have : ((grps m).all fun g => decide (gsum (parts sh) g ≤ C g * K)) = true := by
          rw [List.all_eq_true]
          intro g hg
          have q := List.find?_eq_none.mp hf g hg
          rw [decide_eq_true_eq] at q ⊢
          omega
        rw [this]
        exact ⟨_, (st_nx z1).trans ((st_nx ((s_for ei).trans h3)).trans (st_fl (s_ret e_con) (fun z => by cases z)))⟩
    · rw [decide_eq_false hS, Bool.false_and]
      exact ⟨_, st_fl ((s_ift (t1 (b := true) (by rw [decide_eq_false hS]; rfl))).trans (st_fl (s_ret e_con) (fun z => by cases z))) (fun z => by cases z)⟩
  obtain ⟨ρ3, h3⟩ := fin
  exact run_at (ar := 3) (sl := 8) (b := c19) (ds := [.ref c, .py (.int m), .py (.list (sh.map frP))]) (ρ0 := [some (.ref c), some (.py (.int m)), some (.py (.list (sh.map frP))), none, none, none, none, none]) rfl rfl h3 (trim_py0 wf)
end
end La
set_option maxHeartbeats 1000000
namespace La
open PySem Ev
theorem c_neF {st : Store} {a b c d : Int} : cop st .ne (fr a b) (fr c d) = some (!(decide (a = c) && decide (b = d))) := by
  show (if (SeqAt.shaped (.tuple [.int a, .int b]) && SeqAt.shaped (.tuple [.int c, .int d])) = true then some (!PyData.eqv (.tuple [.int a, .int b]) (.tuple [.int c, .int d])) else none) = _
  rw [if_pos (by rfl)]
  simp only [PyData.eqv, PyData.eqvAll, Bool.and_true]
  rfl
theorem com_dvd {sh : Fr} {s : Int × Int} (h : s ∈ sh) : s.2 ∣ com sh := by
  unfold com
  have go : ∀ (l : List Int) (a : Int), (∀ x ∈ l, x ∣ l.foldl (· * ·) a) ∧ a ∣ l.foldl (· * ·) a := by
    intro l
    induction l with
    | nil => intro a; exact ⟨fun x hx => (by cases hx), Int.dvd_refl a⟩
    | cons y l ih =>
      intro a
      obtain ⟨h1, h2⟩ := ih (a * y)
      refine ⟨fun x hx => ?_, Int.dvd_trans (Int.dvd_mul_right a y) h2⟩
      rcases List.mem_cons.mp hx with rfl | hx
      · exact Int.dvd_trans (Int.dvd_mul_left a x) h2
      · exact h1 x hx
  exact (go (sh.map (·.2)) 1).1 _ (List.mem_map.mpr ⟨s, h, rfl⟩)
/-- a reduced fraction of that value -/
theorem red_div {a b S K : Int} (hb : 0 < b) (h : a * K = S * b) : (a / Int.gcd a b) * K = S * (b / Int.gcd a b) ∧ 0 < b / Int.gcd a b ∧ b / Int.gcd a b ≤ b ∧ Int.gcd (a / Int.gcd a b) (b / Int.gcd a b) = 1 := by
  have hg0 := Int.gcd_pos_of_ne_zero_right a (show b ≠ 0 by omega)
  have hcop := Int.gcd_ediv_gcd_ediv_gcd hg0
  have hg : 0 < (Int.gcd a b : Int) := by omega
  obtain ⟨a', ha⟩ := Int.gcd_dvd_left a b
  obtain ⟨b', hb'⟩ := Int.gcd_dvd_right a b
  have e1 : a / Int.gcd a b = a' := by rw [Int.ediv_eq_of_eq_mul_right (by omega) ha]
  have e2 : b / Int.gcd a b = b' := by rw [Int.ediv_eq_of_eq_mul_right (by omega) hb']
  refine ⟨?_, ?_, ?_, hcop⟩
  all_goals rw [e2]
  · rw [e1]
    have : (Int.gcd a b : Int) * (a' * K) = (Int.gcd a b : Int) * (S * b') := by rw [← Int.mul_assoc, ← ha, h, Int.mul_left_comm, ← hb']
    exact Int.eq_of_mul_eq_mul_left (by omega) this
  · rcases Int.lt_or_le 0 b' with h | h
    · exact h
    · have := Int.mul_nonpos_of_nonneg_of_nonpos (show 0 ≤ (Int.gcd a b : Int) by omega) h
      omega
  · rcases Int.lt_or_le 0 b' with h | h
    · have : 1 * b' ≤ (Int.gcd a b : Int) * b' := Int.mul_le_mul_of_nonneg_right (by omega) (by omega)
      omega
    · have := Int.mul_nonpos_of_nonneg_of_nonpos (show 0 ≤ (Int.gcd a b : Int) by omega) h
      omega
theorem gsum_app (ps : List Int) (l : List Int) (i : Int) : gsum ps (l ++ [i]) = gsum ps l + ps.getD i.toNat 0 := by
  unfold gsum
  rw [List.map_append, List.sum_append]
  simp
section
variable {n fu c m : Nat} {st : Store} {C : List Int → Int}
/-- the sum of a group's shares -/
theorem grp_sum (wf : WF st) {sh : Fr} (hl : sh.length = m) (hd : ∀ s ∈ sh, 0 < s.2 ∧ s.2 ≤ 60) (hf : 100000000 < fu) {g : List Int} (hg : g.length ≤ 4 ∧ ∀ i ∈ g, 0 ≤ i ∧ i < m) (hK : 0 < com sh) (a b d e : Option D) :
    ∃ (p q : Int) (x : Option D), forLoop (fun d ρ st => bindT (.nm 5) st d ρ (exs (lvl T fu (n + 4)) fu c5b0)) (g.map fun i => .py (.int i)) [a, b, some (.py (.list (sh.map frP))), d, some (fr 0 1), e] st = .go .nx [a, b, some (.py (.list (sh.map frP))), d, some (fr p q), x] st ∧
      0 < q ∧ q ≤ 20000000 ∧ p * com sh = gsum (parts sh) g * q ∧ (g ≠ [] → Int.gcd p q = 1) := by
  have lp := for_inv (f := fun d ρ st => bindT (.nm 5) st d ρ (exs (lvl T fu (n + 4)) fu c5b0))
    (fun i ρ s => ∃ (p q : Int) (x : Option D), ρ = [a, b, some (.py (.list (sh.map frP))), d, some (fr p q), x] ∧ s = st ∧ 0 < q ∧ q ≤ 60 ^ i ∧ p * com sh = gsum (parts sh) (g.take i) * q ∧ (0 < i → Int.gcd p q = 1)) (g.map fun i => .py (.int i)) 0
    (ρ := [a, b, some (.py (.list (sh.map frP))), d, some (fr 0 1), e]) (st := st) (fun j dd ρ s hj ⟨p, q, x, e1, e2, hq, hq2, hp, _⟩ => by
      rw [List.getElem?_map] at hj
      obtain ⟨i, hi, rfl⟩ := Option.map_eq_some_iff.mp hj
      rw [e1, e2, bind_nm]
      simp only [List.set_cons_succ, List.set_cons_zero]
      rw [Nat.zero_add] at hq2 hp ⊢
      obtain ⟨i1, i2⟩ := hg.2 i (List.mem_of_getElem? hi)
      have hj4 : j < 4 := by
        have := (List.getElem?_eq_some_iff.mp hi).1
        have := hg.1
        omega
      obtain ⟨k, rfl⟩ : ∃ k : Nat, i = (k : Int) := ⟨i.toNat, by omega⟩
      have hk : k < sh.length := by rw [hl]; omega
      have hs := hd sh[k] (List.getElem_mem hk)
      have hq3 : q ≤ 216000 := by
        refine Int.le_trans hq2 ?_
        have : j = 0 ∨ j = 1 ∨ j = 2 ∨ j = 3 := by omega
        rcases this with rfl | rfl | rfl | rfl <;> decide
      have hdv := com_dvd (List.getElem_mem hk)
      have hpk : (parts sh).getD k 0 = sh[k].1 * (com sh / sh[k].2) := by
        unfold parts
        rw [List.getD_eq_getElem?_getD, List.getElem?_map, List.getElem?_eq_getElem hk]
        rfl
      have hix : getix st (.py (.list (sh.map frP))) (.py (.int (k : Int))) = some (fr sh[k].1 sh[k].2) := by
        simp only [getix, intOf, Option.bind_some, List.length_map, ixN_nat hk, List.getElem?_map, List.getElem?_eq_getElem hk]
        rfl
      generalize hsk : sh[k] = s at hs hdv hpk hix
      obtain ⟨s1, s2⟩ := s
      simp only at hs hdv hpk hix
      have hb : 0 < q * s2 := Int.mul_pos hq hs.1
      have hb2 : q * s2 ≤ q * 60 := Int.mul_le_mul_of_nonneg_left hs.2 (by omega)
      have hval : (p * s2 + s1 * q) * com sh = (gsum (parts sh) (g.take j) + s1 * (com sh / s2)) * (q * s2) := by
        have x1 : p * s2 * com sh = gsum (parts sh) (g.take j) * (q * s2) := by rw [Int.mul_right_comm, hp, Int.mul_assoc]
        have x2 : s1 * q * com sh = s1 * (com sh / s2) * (q * s2) := by
          have : com sh / s2 * s2 = com sh := Int.ediv_mul_cancel hdv
          calc s1 * q * com sh = s1 * q * (com sh / s2 * s2) := by rw [this]
            _ = s1 * (com sh / s2) * (q * s2) := by
              rw [Int.mul_assoc, Int.mul_assoc]
              congr 1
              rw [Int.mul_left_comm]
        rw [Int.add_mul, x1, x2, Int.add_mul]
      obtain ⟨r1, r2, r3, r4⟩ := red_div hb hval
      refine ⟨_, _, (st_nx (s_set (e_call (es_cons (e_var rfl) (es_cons (e_ix (e_var rfl) (e_var rfl) hix) es_nil)) (added_ok (n := n + 1) wf hq hs.1 (by omega) (by omega) (by omega) (by omega))))).trans s_nil, _, _, _, rfl, rfl, r2, ?_, ?_, fun _ => r4⟩
      · rw [Int.pow_succ]
        exact Int.le_trans r3 (Int.le_trans hb2 (Int.mul_le_mul_of_nonneg_right hq2 (by omega)))
      · rw [take_succ hi, gsum_app, Int.toNat_natCast, hpk]
        exact r1) ⟨0, 1, e, rfl, rfl, by omega, by simp, by simp [gsum], by omega⟩
  obtain ⟨ρ', st', hl1, p, q, x, e1, e2, h1, h2, h3, h4⟩ := lp
  rw [Nat.zero_add, List.length_map] at h2 h3 h4
  rw [List.take_length] at h3
  rw [e1, e2] at hl1
  refine ⟨p, q, x, hl1, h1, ?_, h3, fun hne => h4 (List.length_pos_iff.mpr hne)⟩
  refine Int.le_trans h2 ?_
  have := hg.1
  have : g.length = 0 ∨ g.length = 1 ∨ g.length = 2 ∨ g.length = 3 ∨ g.length = 4 := by omega
  rcases this with q | q | q | q | q <;> rw [q] <;> decide
theorem groups_ok {k : Nat} (wf : WF st) (hs : st.length < 10) (hm : m = 1 ∨ m = 2 ∨ m = 3 ∨ m = 4) : lvl T (k + 40) (n + 1) 4 [.py (.int m)] st = .ok (.py (.list ((grps m).map gT))) st := by
  rcases hm with rfl | rfl | rfl | rfl
  · show runFn (lvl T (k + 40) n) (k + 40) 1 5 c4 [.py (.int 1)] st = _
    exact run_out (Δ := lvl T (k + 40) n) (fu := k + 40) (b := c4) (ds := [.py (.int 1)]) (ar := 1) (sl := 5) (ρ0 := [some (.py (.int 1)), none, none, none, none]) rfl rfl (gr1 st hs) (trim_py _ wf)
  · show runFn (lvl T (k + 40) n) (k + 40) 1 5 c4 [.py (.int 2)] st = _
    exact run_out (Δ := lvl T (k + 40) n) (fu := k + 40) (b := c4) (ds := [.py (.int 2)]) (ar := 1) (sl := 5) (ρ0 := [some (.py (.int 2)), none, none, none, none]) rfl rfl (gr2 st hs) (trim_py _ wf)
  · show runFn (lvl T (k + 40) n) (k + 40) 1 5 c4 [.py (.int 3)] st = _
    exact run_out (Δ := lvl T (k + 40) n) (fu := k + 40) (b := c4) (ds := [.py (.int 3)]) (ar := 1) (sl := 5) (ρ0 := [some (.py (.int 3)), none, none, none, none]) rfl rfl (gr3 st hs) (trim_py _ wf)
  · show runFn (lvl T (k + 40) n) (k + 40) 1 5 c4 [.py (.int 4)] st = _
    exact run_out (Δ := lvl T (k + 40) n) (fu := k + 40) (b := c4) (ds := [.py (.int 4)]) (ar := 1) (sl := 5) (ρ0 := [some (.py (.int 4)), none, none, none, none]) rfl rfl (gr4 st hs) (trim_py _ wf)
theorem grps_len {m : Nat} (hm : m = 1 ∨ m = 2 ∨ m = 3 ∨ m = 4) : ∀ g ∈ grps m, g ≠ [] ∧ (g.length = m → g = allg m) := by
  rcases hm with rfl | rfl | rfl | rfl <;> decide
theorem gsum_all {ps : List Int} (h : ps.length = m) : gsum ps (allg m) = ps.sum := by
  unfold gsum allg
  rw [List.map_map]
  congr 1
  subst h
  apply List.ext_getElem
  · simp
  · intro i h1 h2
    simp [List.getElem?_eq_getElem h2]
theorem stable_ok {k : Nat} (wf : WF st) (hs : st.length < 10) (hc : Cost st c m C) (hm : m = 1 ∨ m = 2 ∨ m = 3 ∨ m = 4) {sh : Fr} (hl : sh.length = m) (hd : ∀ s ∈ sh, 0 < s.2 ∧ s.2 ≤ 60) (hK : 0 < com sh) (hf : 100000000 < k) :
    lvl T (k + 40) (n + 5) 5 [.ref c, .py (.int m), .py (.list (sh.map frP))] st = .ok (.py (.bool (lst C m sh))) st := by
  have ei : evI (lvl T (k + 40) (n + 4)) (.e (.call 4 (.cons (.var 1) .nil))) [some (.ref c), some (.py (.int m)), some (.py (.list (sh.map frP))), none, none, none] st = .ok (((grps m).map gT).map .py) st :=
    i_e (e_call (es_cons (e_var rfl) es_nil) (groups_ok (n := n + 3) wf hs hm))
  rw [List.map_map] at ei
  have hplen : (parts sh).length = m := by unfold parts; rw [List.length_map, hl]
  let Pg : List Int → Bool := fun g => decide (C g * com sh < gsum (parts sh) g) || (decide (g.length = m) && !decide (gsum (parts sh) g = C g * com sh))
  obtain ⟨k1, k2⟩ := for_first (f := fun d ρ st => bindT (.nm 3) st d ρ (exs (lvl T (k + 40) (n + 4)) (k + 40) c5b3)) (st := st) (D.py ∘ gT) Pg (fun _ => .py (.bool false))
    (fun ρ => ∃ x3 x4 x5, ρ = [some (.ref c), some (.py (.int m)), some (.py (.list (sh.map frP))), x3, x4, x5]) (grps m) [some (.ref c), some (.py (.int m)), some (.py (.list (sh.map frP))), none, none, none] ⟨none, none, none, rfl⟩ (fun g hg ρ ⟨x3, x4, x5, e1⟩ => by
      subst e1
      rw [bind_nm]
      simp only [List.set_cons_succ, List.set_cons_zero, Function.comp]
      obtain ⟨g1, g2⟩ := grps_ix hm g hg
      obtain ⟨g3, g4⟩ := grps_len hm g hg
      have hC := hc.bd g hg
      obtain ⟨p, q, x, l1, l2, l3, l4, l5⟩ := grp_sum (n := n) (fu := k + 40) wf hl hd (by omega) ⟨g1, g2⟩ hK (some (.ref c)) (some (.py (.int m))) (some (.py (gT g))) x5
      have l6 := l5 g3
      have lt_iff : (C g * q < p * 1) ↔ (C g * com sh < gsum (parts sh) g) := by
        constructor
        · intro z
          have z2 := Int.mul_lt_mul_of_pos_right z hK
          rw [Int.mul_one, l4, Int.mul_right_comm] at z2
          exact Int.lt_of_mul_lt_mul_right z2 (by omega)
        · intro z
          have z2 := Int.mul_lt_mul_of_pos_right z l2
          rw [← l4, Int.mul_right_comm] at z2
          have := Int.lt_of_mul_lt_mul_right z2 (by omega)
          omega
      have eq_iff : (p = C g ∧ q = 1) ↔ gsum (parts sh) g = C g * com sh := by
        constructor
        · rintro ⟨rfl, rfl⟩
          rw [Int.mul_one] at l4
          exact l4.symm
        · intro z
          have z2 : p * com sh = C g * q * com sh := by rw [l4, z]; exact Int.mul_right_comm _ _ _
          have z3 : p = C g * q := Int.eq_of_mul_eq_mul_right (by omega) z2
          have z4 : q ∣ p := ⟨C g, by rw [z3, Int.mul_comm]⟩
          have z5 : q ∣ (Int.gcd p q : Int) := Int.dvd_coe_gcd z4 (Int.dvd_refl q)
          rw [l6] at z5
          have z6 : q = 1 := by
            have := Int.le_of_dvd (by decide) z5
            omega
          exact ⟨by rw [z3, z6, Int.mul_one], z6⟩
      have ic : ev (lvl T (k + 40) (n + 4)) (.tup (.cons (.ix (.var 0) (.var 3)) (.cons (.con (.int 1)) .nil))) [some (.ref c), some (.py (.int m)), some (.py (.list (sh.map frP))), some (.py (gT g)), some (fr p q), x] st = .ok (fr (C g) 1) st :=
        e_tup (es_cons (e_ix (hc.ev rfl) (e_var rfl) (hc.ix hg)) (es_cons e_con es_nil))
      have t1 : ∀ {b : Bool}, decide (C g * com sh < gsum (parts sh) g) = b → evT (lvl T (k + 40) (n + 4)) (.v (.call 2 (.cons (.tup (.cons (.ix (.var 0) (.var 3)) (.cons (.con (.int 1)) .nil))) (.cons (.var 4) .nil)))) [some (.ref c), some (.py (.int m)), some (.py (.list (sh.map frP))), some (.py (gT g)), some (fr p q), x] st = .ok b st := fun {b} hb => by
        have il := is_less_ok (n := n + 3) (fu := k + 40) (st := st) (p := C g) (q := 1) (r := p) (s := q) wf ⟨by omega, by omega⟩ ⟨l2, by omega⟩
        rw [decide_eq_decide.mpr lt_iff, hb] at il
        exact t_b (e_call (es_cons ic (es_cons (e_var rfl) es_nil)) il)
      have t2 : evT (lvl T (k + 40) (n + 4)) (.and (.v (.cmp .eq (.bi .len (.cons (.var 3) .nil)) (.var 1))) (.v (.cmp .ne (.var 4) (.tup (.cons (.ix (.var 0) (.var 3)) (.cons (.con (.int 1)) .nil)))))) [some (.ref c), some (.py (.int m)), some (.py (.list (sh.map frP))), some (.py (gT g)), some (fr p q), x] st = .ok (decide (g.length = m) && !decide (gsum (parts sh) g = C g * com sh)) st := by
        refine t_and (t_b (e_cmp (e_bi (es_cons (e_var rfl) es_nil) n_lenT) (e_var rfl) ?_)) (fun _ => t_b (e_cmp (e_var rfl) ic ?_)) fun _ => rfl
        · rw [c_eqI, List.length_map, decide_eq_decide.mpr (show ((g.length : Nat) : Int) = (m : Int) ↔ g.length = m by omega)]
        · rw [c_neF, ← Bool.decide_and, decide_eq_decide.mpr eq_iff]
      have go : exs (lvl T (k + 40) (n + 4)) (k + 40) c5b3 [some (.ref c), some (.py (.int m)), some (.py (.list (sh.map frP))), some (.py (gT g)), x4, x5] st = exs (lvl T (k + 40) (n + 4)) (k + 40) (.cons (.ife (.v (.call 2 (.cons (.tup (.cons (.ix (.var 0) (.var 3)) (.cons (.con (.int 1)) .nil))) (.cons (.var 4) .nil)))) c5b1 .nil) (.cons (.ife (.and (.v (.cmp .eq (.bi .len (.cons (.var 3) .nil)) (.var 1))) (.v (.cmp .ne (.var 4) (.tup (.cons (.ix (.var 0) (.var 3)) (.cons (.con (.int 1)) .nil)))))) c5b2 .nil) .nil)) [some (.ref c), some (.py (.int m)), some (.py (.list (sh.map frP))), some (.py (gT g)), some (fr p q), x] st :=
        (st_nx (s_set (e_tup (es_cons e_con (es_cons e_con es_nil))))).trans (st_nx ((s_for (i_t (l := g.map .int) (e_var rfl))).trans (by rw [List.map_map]; exact l1)))
      rw [go]
      cases hb1 : decide (C g * com sh < gsum (parts sh) g) with
      | true =>
        have hP : Pg g = true := by show (_ || _) = true; rw [hb1]; rfl
        rw [hP]
        exact ⟨fun _ => ⟨_, st_fl ((s_ift (t1 hb1)).trans (st_fl (s_ret e_con) (fun z => by cases z))) (fun z => by cases z)⟩, fun z => by cases z⟩
      | false =>
        have hP : Pg g = (decide (g.length = m) && !decide (gsum (parts sh) g = C g * com sh)) := by show (_ || _) = _; rw [hb1]; rfl
        rw [hP]
        refine ⟨fun h => ⟨_, (st_nx ((s_iff (t1 hb1)).trans s_nil)).trans (st_fl ((s_ift (t2.trans (by rw [h]))).trans (st_fl (s_ret e_con) (fun z => by cases z))) (fun z => by cases z))⟩, fun h => ⟨_, (st_nx ((s_iff (t1 hb1)).trans s_nil)).trans ((st_nx ((s_iff (t2.trans (by rw [h]))).trans s_nil)).trans s_nil), _, _, _, rfl⟩⟩)
  have fin : ∃ ρ', exs (lvl T (k + 40) (n + 4)) (k + 40) c5 [some (.ref c), some (.py (.int m)), some (.py (.list (sh.map frP))), none, none, none] st = .go (.rt (.py (.bool (lst C m sh)))) ρ' st := by
    have main : lst C m sh = ((grps m).find? Pg).isNone := by
      rw [Bool.eq_iff_iff, Option.isNone_iff_eq_none, List.find?_eq_none]
      unfold lst
      rw [Bool.and_eq_true, decide_eq_true_eq, List.all_eq_true]
      constructor
      · rintro ⟨q1, q2⟩ g hg hP
        have q3 := q2 g hg
        rw [decide_eq_true_eq] at q3
        rcases Bool.or_eq_true_iff.mp hP with h | h
        · rw [decide_eq_true_eq] at h; omega
        · rw [Bool.and_eq_true, decide_eq_true_eq] at h
          have e9 := (grps_len hm g hg).2 h.1
          rw [e9, gsum_all hplen, q1, decide_eq_true rfl] at h
          cases h.2
      · intro q
        refine ⟨?_, fun g hg => ?_⟩
        · have q3 := q (allg m) (allg_mem hm)
          have hlen : (allg m).length = m := by unfold allg; simp
          by_cases z : (parts sh).sum = C (allg m) * com sh
          · exact z
          · exfalso
            apply q3
            show (_ || (decide ((allg m).length = m) && !decide (gsum (parts sh) (allg m) = C (allg m) * com sh))) = true
            rw [gsum_all hplen, decide_eq_true hlen, decide_eq_false z]
            simp
        · have q3 := q g hg
          rw [decide_eq_true_eq]
          rcases Int.lt_or_le (C g * com sh) (gsum (parts sh) g) with z | z
          · exfalso
            apply q3
            show (decide (C g * com sh < gsum (parts sh) g) || _) = true
            rw [decide_eq_true z]; rfl
          · exact z
    rw [main]
    cases hf2 : (grps m).find? Pg with
    | some g =>
      obtain ⟨ρ2, h3⟩ := k1 g hf2
      exact ⟨_, st_fl ((s_for ei).trans h3) (fun z => by cases z)⟩
    | none =>
      obtain ⟨ρ2, h3, _⟩ := k2 hf2
      exact ⟨_, (st_nx ((s_for ei).trans h3)).trans (st_fl (s_ret e_con) (fun z => by cases z))⟩
  obtain ⟨ρ3, h3⟩ := fin
  exact run_at (ar := 3) (sl := 6) (b := c5) (ds := [.ref c, .py (.int m), .py (.list (sh.map frP))]) (ρ0 := [some (.ref c), some (.py (.int m)), some (.py (.list (sh.map frP))), none, none, none]) rfl rfl h3 (trim_py0 wf)
end
end La
set_option maxHeartbeats 1000000
namespace La
open PySem Ev
/-- the ints from lo to below hi -/
def irg (lo hi : Int) : List Int := (List.range (hi - lo).toNat).map fun (i : Nat) => lo + i
theorem rangeD_irg (lo hi : Int) : rangeD lo hi = (irg lo hi).map fun i => .py (.int i) := by
  unfold rangeD irg
  rw [List.map_map]; rfl
theorem irg_len (lo hi : Int) : (irg lo hi).length = (hi - lo).toNat := by simp [irg]
theorem mem_irg {lo hi x : Int} : x ∈ irg lo hi ↔ lo ≤ x ∧ x < hi := by
  unfold irg
  rw [List.mem_map]
  constructor
  · rintro ⟨i, hi', rfl⟩
    rw [List.mem_range] at hi'
    omega
  · rintro ⟨h1, h2⟩
    exact ⟨(x - lo).toNat, by rw [List.mem_range]; omega, by omega⟩
/-- the others of m -/
def oth (m : Nat) (o : Int) : List Int := (allg m).filter fun x => !decide (x = o)
/-- rows by one more share -/
def stp (C : List Int → Int) (m : Nat) (o : Int) (rows : List (List Int)) : List (List Int) := rows.flatMap fun r => (irg (C (allg m) - C (oth m o)) (C [o] + 1)).map fun s => r ++ [s]
def rws (C : List Int → Int) (m : Nat) : Nat → List (List Int)
  | 0 => [[]]
  | k + 1 => stp C m k (rws C m k)
def shr (C : List Int → Int) (m : Nat) (r : List Int) : Fr := (r ++ [C (allg m) - r.sum]).map fun s => (s, 1)
def ls (C : List Int → Int) (m : Nat) : Option (List Int) := (rws C m (m - 1)).find? fun r => lst C m (shr C m r)
def lsT (C : List Int → Int) (m : Nat) : D := match ls C m with
  | some r => .py (.list ((shr C m r).map frP))
  | none => .py .none
theorem com_one (l : List Int) : com (l.map fun s => (s, 1)) = 1 := by
  unfold com
  rw [List.map_map]
  have : ∀ l : List Int, (l.map (Prod.snd ∘ fun s => (s, (1 : Int)))).foldl (· * ·) 1 = 1 := by
    intro l
    induction l with
    | nil => rfl
    | cons a r ih => simp only [List.map_cons, List.foldl_cons, Function.comp, Int.mul_one] at ih ⊢; exact ih
  exact this l
theorem parts_one (l : List Int) : parts (l.map fun s => (s, 1)) = l := by
  unfold parts
  rw [com_one, List.map_map]
  have : (fun s : Int × Int => s.1 * (1 / s.2)) ∘ (fun s : Int => (s, (1 : Int))) = id := by
    funext s
    simp
  rw [this, List.map_id]
theorem irg_split {lo hi x : Int} (h1 : lo ≤ x) (h2 : x < hi) : irg lo hi = irg lo x ++ x :: irg (x + 1) hi := by
  unfold irg
  have e : (hi - lo).toNat = (x - lo).toNat + ((hi - (x + 1)).toNat + 1) := by omega
  rw [e, List.range_add, List.map_append, List.range_succ_eq_map]
  congr 1
  rw [List.map_cons, List.map_cons, List.map_map, List.map_map]
  congr 1
  · omega
  · refine List.map_congr_left fun j _ => ?_
    simp only [Function.comp]
    omega
theorem irg_some {α : Type} {g : Int → Option α} {lo hi x : Int} {y : α} (h1 : lo ≤ x) (h2 : x < hi) (h3 : g x = some y) (h4 : ∀ z, lo ≤ z → z < x → g z = none) : (irg lo hi).findSome? g = some y := by
  rw [irg_split h1 h2, List.findSome?_append]
  have : (irg lo x).findSome? g = none := by
    rw [List.findSome?_eq_none_iff]
    intro z hz
    obtain ⟨q1, q2⟩ := mem_irg.mp hz
    exact h4 z q1 q2
  rw [this]
  simp [h3]
theorem irg_none {α : Type} {g : Int → Option α} {lo hi : Int} (h4 : ∀ z, lo ≤ z → z < hi → g z = none) : (irg lo hi).findSome? g = none := by
  rw [List.findSome?_eq_none_iff]
  intro z hz
  obtain ⟨q1, q2⟩ := mem_irg.mp hz
  exact h4 z q1 q2
theorem find_map_irg {p : List Int → Bool} {r : List Int} {lo hi : Int} : ((irg lo hi).map fun s => r ++ [s]).find? p = (irg lo hi).findSome? fun s => if p (r ++ [s]) = true then some (r ++ [s]) else none := by
  induction irg lo hi with
  | nil => rfl
  | cons a l ih =>
    rw [List.map_cons, List.find?_cons, List.findSome?_cons]
    cases h : p (r ++ [a]) with
    | true => simp
    | false => simp [ih]
theorem lst_one {C : List Int → Int} {m : Nat} {r : List Int} : lst C m (shr C m r) = (grps m).all fun g => decide (gsum (r ++ [C (allg m) - r.sum]) g ≤ C g) := by
  unfold lst shr
  rw [parts_one, com_one]
  have e : (r ++ [C (allg m) - r.sum]).sum = C (allg m) * 1 := by
    rw [List.sum_append]
    simp
    omega
  rw [decide_eq_true e, Bool.true_and]
  simp only [Int.mul_one]
theorem lst_iff {C : List Int → Int} {m : Nat} {r : List Int} : lst C m (shr C m r) = true ↔ ∀ g ∈ grps m, gsum (r ++ [C (allg m) - r.sum]) g ≤ C g := by
  rw [lst_one, List.all_eq_true]
  exact ⟨fun h g hg => of_decide_eq_true (h g hg), fun h g hg => decide_eq_true (h g hg)⟩
theorem lst2 {C : List Int → Int} {s : Int} : lst C 2 (shr C 2 [s]) = true ↔ (s ≤ C [0] ∧ C [0, 1] - s ≤ C [1]) := by
  rw [lst_iff]
  constructor
  · intro h
    have h1 : s + 0 ≤ C [0] := h [0] (by decide)
    have h2 : (C [0, 1] - (s + 0)) + 0 ≤ C [1] := h [1] (by decide)
    omega
  · rintro ⟨h1, h2⟩ g hg
    rcases List.mem_cons.mp hg with rfl | hg
    · show s + 0 ≤ C [0]
      omega
    rcases List.mem_cons.mp hg with rfl | hg
    · show (C [0, 1] - (s + 0)) + 0 ≤ C [1]
      omega
    rcases List.mem_cons.mp hg with rfl | hg
    · show s + ((C [0, 1] - (s + 0)) + 0) ≤ C [0, 1]
      omega
    · cases hg
theorem lst3 {C : List Int → Int} {s t : Int} : lst C 3 (shr C 3 [s, t]) = true ↔ (s ≤ C [0] ∧ t ≤ C [1] ∧ C [0, 1, 2] - s - t ≤ C [2] ∧ s + t ≤ C [0, 1] ∧ C [0, 1, 2] - t ≤ C [0, 2] ∧ C [0, 1, 2] - s ≤ C [1, 2]) := by
  rw [lst_iff]
  constructor
  · intro h
    have h1 : s + 0 ≤ C [0] := h [0] (by decide)
    have h2 : t + 0 ≤ C [1] := h [1] (by decide)
    have h3 : (C [0, 1, 2] - (s + (t + 0))) + 0 ≤ C [2] := h [2] (by decide)
    have h4 : s + (t + 0) ≤ C [0, 1] := h [0, 1] (by decide)
    have h5 : s + ((C [0, 1, 2] - (s + (t + 0))) + 0) ≤ C [0, 2] := h [0, 2] (by decide)
    have h6 : t + ((C [0, 1, 2] - (s + (t + 0))) + 0) ≤ C [1, 2] := h [1, 2] (by decide)
    omega
  · rintro ⟨h1, h2, h3, h4, h5, h6⟩ g hg
    rcases List.mem_cons.mp hg with rfl | hg
    · show s + 0 ≤ C [0]
      omega
    rcases List.mem_cons.mp hg with rfl | hg
    · show t + 0 ≤ C [1]
      omega
    rcases List.mem_cons.mp hg with rfl | hg
    · show (C [0, 1, 2] - (s + (t + 0))) + 0 ≤ C [2]
      omega
    rcases List.mem_cons.mp hg with rfl | hg
    · show s + (t + 0) ≤ C [0, 1]
      omega
    rcases List.mem_cons.mp hg with rfl | hg
    · show s + ((C [0, 1, 2] - (s + (t + 0))) + 0) ≤ C [0, 2]
      omega
    rcases List.mem_cons.mp hg with rfl | hg
    · show t + ((C [0, 1, 2] - (s + (t + 0))) + 0) ≤ C [1, 2]
      omega
    rcases List.mem_cons.mp hg with rfl | hg
    · show s + (t + ((C [0, 1, 2] - (s + (t + 0))) + 0)) ≤ C [0, 1, 2]
      omega
    · cases hg
theorem fb_none {C : List Int → Int} {m : Nat} : fb C m = none ↔ ∀ r ∈ bal m, 2 * C (allg m) ≤ tw C r := by
  unfold fb
  rw [List.find?_eq_none]
  constructor
  · intro h r hr
    have := h r hr
    rw [decide_eq_true_eq] at this
    omega
  · intro h r hr
    have := h r hr
    rw [decide_eq_true_eq]
    omega
theorem fb1 (C : List Int → Int) : fb C 1 = none := by
  rw [fb_none]
  intro r hr
  rcases List.mem_cons.mp hr with rfl | hr
  · show 2 * C [0] ≤ 2 * C [0] * 1 / 1 + 0
    omega
  · cases hr
theorem fb2 (C : List Int → Int) : fb C 2 = none ↔ C [0, 1] ≤ C [0] + C [1] := by
  rw [fb_none]
  constructor
  · intro h
    have h1 : 2 * C [0, 1] ≤ 2 * C [0] * 1 / 1 + (2 * C [1] * 1 / 1 + 0) := h _ List.mem_cons_self
    omega
  · intro h r hr
    rcases List.mem_cons.mp hr with rfl | hr
    · show 2 * C [0, 1] ≤ 2 * C [0] * 1 / 1 + (2 * C [1] * 1 / 1 + 0)
      omega
    · cases hr
theorem fb3 (C : List Int → Int) : fb C 3 = none ↔ C [0, 1, 2] ≤ C [0] + C [1] + C [2] ∧ C [0, 1, 2] ≤ C [0] + C [1, 2] ∧ C [0, 1, 2] ≤ C [1] + C [0, 2] ∧ C [0, 1, 2] ≤ C [2] + C [0, 1] ∧ 2 * C [0, 1, 2] ≤ C [0, 1] + C [0, 2] + C [1, 2] := by
  rw [fb_none]
  constructor
  · intro h
    have h1 : 2 * C [0, 1, 2] ≤ 2 * C [0] * 1 / 1 + (2 * C [1] * 1 / 1 + (2 * C [2] * 1 / 1 + 0)) := h [([0], 1, 1), ([1], 1, 1), ([2], 1, 1)] (by decide)
    have h2 : 2 * C [0, 1, 2] ≤ 2 * C [0] * 1 / 1 + (2 * C [1, 2] * 1 / 1 + 0) := h [([0], 1, 1), ([1, 2], 1, 1)] (by decide)
    have h3 : 2 * C [0, 1, 2] ≤ 2 * C [1] * 1 / 1 + (2 * C [0, 2] * 1 / 1 + 0) := h [([1], 1, 1), ([0, 2], 1, 1)] (by decide)
    have h4 : 2 * C [0, 1, 2] ≤ 2 * C [2] * 1 / 1 + (2 * C [0, 1] * 1 / 1 + 0) := h [([2], 1, 1), ([0, 1], 1, 1)] (by decide)
    have h5 : 2 * C [0, 1, 2] ≤ 2 * C [0, 1] * 1 / 2 + (2 * C [0, 2] * 1 / 2 + (2 * C [1, 2] * 1 / 2 + 0)) := h [([0, 1], 1, 2), ([0, 2], 1, 2), ([1, 2], 1, 2)] (by decide)
    omega
  · rintro ⟨h1, h2, h3, h4, h5⟩ r hr
    rcases List.mem_cons.mp hr with rfl | hr
    · show 2 * C [0, 1, 2] ≤ 2 * C [0] * 1 / 1 + (2 * C [1] * 1 / 1 + (2 * C [2] * 1 / 1 + 0))
      omega
    rcases List.mem_cons.mp hr with rfl | hr
    · show 2 * C [0, 1, 2] ≤ 2 * C [0] * 1 / 1 + (2 * C [1, 2] * 1 / 1 + 0)
      omega
    rcases List.mem_cons.mp hr with rfl | hr
    · show 2 * C [0, 1, 2] ≤ 2 * C [1] * 1 / 1 + (2 * C [0, 2] * 1 / 1 + 0)
      omega
    rcases List.mem_cons.mp hr with rfl | hr
    · show 2 * C [0, 1, 2] ≤ 2 * C [2] * 1 / 1 + (2 * C [0, 1] * 1 / 1 + 0)
      omega
    rcases List.mem_cons.mp hr with rfl | hr
    · show 2 * C [0, 1, 2] ≤ 2 * C [0, 1] * 1 / 2 + (2 * C [0, 2] * 1 / 2 + (2 * C [1, 2] * 1 / 2 + 0))
      omega
    · cases hr
/-- the law's search finds the program's shares -/
theorem ls1 (C : List Int → Int) : ls C 1 = some [] := by
  have : lst C 1 (shr C 1 []) = true := by
    rw [lst_iff]
    intro g hg
    rcases List.mem_cons.mp hg with rfl | hg
    · show (C [0] - 0) + 0 ≤ C [0]
      omega
    · cases hg
  show ([[]] : List (List Int)).find? (fun r => lst C 1 (shr C 1 r)) = some []
  rw [List.find?_cons, this]
theorem ls2 (C : List Int → Int) : ls C 2 = if C [0, 1] ≤ C [0] + C [1] then some [C [0, 1] - C [1]] else none := by
  have e : ls C 2 = ((irg (C [0, 1] - C [1]) (C [0] + 1)).map fun s => [] ++ [s]).find? fun r => lst C 2 (shr C 2 r) := by
    show ((((irg (C [0, 1] - C [1]) (C [0] + 1)).map fun s => [] ++ [s]) ++ []).find? fun r => lst C 2 (shr C 2 r)) = _
    rw [List.append_nil]
  rw [e, find_map_irg]
  by_cases h : C [0, 1] ≤ C [0] + C [1]
  · rw [if_pos h]
    refine irg_some (x := C [0, 1] - C [1]) (by omega) (by omega) ?_ (fun z h1 h2 => by omega)
    exact if_pos (lst2.mpr ⟨by omega, by omega⟩)
  · rw [if_neg h]
    exact irg_none fun z h1 h2 => by omega
/-- the program's balance condition of three -/
def bal3 (C : List Int → Int) : Prop := C [0, 1, 2] ≤ C [0] + C [1] + C [2] ∧ C [0, 1, 2] ≤ C [0] + C [1, 2] ∧ C [0, 1, 2] ≤ C [1] + C [0, 2] ∧ C [0, 1, 2] ≤ C [2] + C [0, 1] ∧ 2 * C [0, 1, 2] ≤ C [0, 1] + C [0, 2] + C [1, 2]
theorem ls3_eq (C : List Int → Int) : ls C 3 = (irg (C [0, 1, 2] - C [1, 2]) (C [0] + 1)).findSome? fun s => (irg (C [0, 1, 2] - C [0, 2]) (C [1] + 1)).findSome? fun t => if lst C 3 (shr C 3 [s, t]) = true then some [s, t] else none := by
  have e : rws C 3 2 = (irg (C [0, 1, 2] - C [1, 2]) (C [0] + 1)).flatMap fun s => (irg (C [0, 1, 2] - C [0, 2]) (C [1] + 1)).map fun t => [s] ++ [t] := by
    show ((((irg (C [0, 1, 2] - C [1, 2]) (C [0] + 1)).map fun s => [] ++ [s]) ++ []).flatMap fun r => (irg (C [0, 1, 2] - C [0, 2]) (C [1] + 1)).map fun s => r ++ [s]) = _
    rw [List.append_nil, List.flatMap_map]
    rfl
  show (rws C 3 2).find? (fun r => lst C 3 (shr C 3 r)) = _
  rw [e, List.find?_flatMap]
  congr 1
  funext s
  exact find_map_irg
theorem ls3 (C : List Int → Int) : (bal3 C → ls C 3 = some [mx (C [0, 1, 2] - C [1, 2]) (C [0, 1, 2] - C [1] - C [2]), mx (C [0, 1, 2] - C [0, 2]) (C [0, 1, 2] - mx (C [0, 1, 2] - C [1, 2]) (C [0, 1, 2] - C [1] - C [2]) - C [2])]) ∧ (¬ bal3 C → ls C 3 = none) := by
  rw [ls3_eq]
  generalize hT : C [0, 1, 2] = W
  unfold bal3
  rw [hT]
  have l3 := fun s t => @lst3 C s t
  rw [hT] at l3
  generalize C [0] = a at *
  generalize C [1] = b at *
  generalize C [2] = c at *
  generalize C [0, 1] = ab at *
  generalize C [0, 2] = ac at *
  generalize C [1, 2] = bc at *
  have hm : ∀ x y : Int, x ≤ mx x y ∧ y ≤ mx x y ∧ (mx x y = x ∨ mx x y = y) := fun x y => by unfold mx; split <;> omega
  obtain ⟨f1, f2, f3⟩ := hm (W - bc) (W - b - c)
  generalize mx (W - bc) (W - b - c) = f at *
  obtain ⟨g1, g2, g3⟩ := hm (W - ac) (W - f - c)
  generalize mx (W - ac) (W - f - c) = g at *
  constructor
  · rintro ⟨h1, h2, h3, h4, h5⟩
    refine irg_some (x := f) (by omega) (by omega) ?_ fun z z1 z2 => irg_none fun t t1 t2 => if_neg fun q => ?_
    · refine irg_some (x := g) (by omega) (by omega) ?_ fun t t1 t2 => if_neg fun q => ?_
      · exact if_pos ((l3 f g).mpr (by omega))
      · have := (l3 f t).mp q
        omega
    · have := (l3 z t).mp q
      omega
  · intro h
    refine irg_none fun z z1 z2 => irg_none fun t t1 t2 => if_neg fun q => h ?_
    have := (l3 z t).mp q
    omega
/-- both answers are one -/
theorem lsT_eq {C : List Int → Int} {m : Nat} (hm : m = 1 ∨ m = 2 ∨ m = 3) : lsT C m = ssT C m ∧ (ls C m).isNone = (fb C m).isSome := by
  unfold lsT ssT
  rcases hm with rfl | rfl | rfl
  · rw [ls1, fb1]
    refine ⟨?_, rfl⟩
    show D.py (.list [.tuple [.int (C [0] - 0), .int 1]]) = D.py (.list [.tuple [.int (C [0]), .int 1]])
    rw [Int.sub_zero]
  · rw [ls2]
    by_cases h : C [0, 1] ≤ C [0] + C [1]
    · rw [if_pos h, (fb2 C).mpr h]
      refine ⟨?_, rfl⟩
      show D.py (.list [.tuple [.int (C [0, 1] - C [1]), .int 1], .tuple [.int (C [0, 1] - (C [0, 1] - C [1] + 0)), .int 1]]) = D.py (.list [.tuple [.int (C [0, 1] - C [1]), .int 1], .tuple [.int (C [1]), .int 1]])
      rw [show C [0, 1] - (C [0, 1] - C [1] + 0) = C [1] by omega]
    · rw [if_neg h]
      cases q : fb C 2 with
      | none => exact absurd ((fb2 C).mp q) h
      | some r => exact ⟨rfl, rfl⟩
  · obtain ⟨k1, k2⟩ := ls3 C
    by_cases h : bal3 C
    · rw [k1 h, (fb3 C).mpr h]
      refine ⟨?_, rfl⟩
      generalize hf : mx (C [0, 1, 2] - C [1, 2]) (C [0, 1, 2] - C [1] - C [2]) = f
      generalize hg : mx (C [0, 1, 2] - C [0, 2]) (C [0, 1, 2] - f - C [2]) = g
      have e : ss C 3 = [f, g, C [0, 1, 2] - f - g] := by
        show [mx (C [0, 1, 2] - C [1, 2]) (C [0, 1, 2] - C [1] - C [2]), mx (C [0, 1, 2] - C [0, 2]) (C [0, 1, 2] - mx (C [0, 1, 2] - C [1, 2]) (C [0, 1, 2] - C [1] - C [2]) - C [2]), _] = _
        rw [hf, hg]
      show D.py (.list [.tuple [.int f, .int 1], .tuple [.int g, .int 1], .tuple [.int (C [0, 1, 2] - (f + (g + 0))), .int 1]]) = D.py (shT (ss C 3))
      rw [e, show C [0, 1, 2] - (f + (g + 0)) = C [0, 1, 2] - f - g by omega]
      rfl
    · rw [k2 h]
      cases q : fb C 3 with
      | none => exact absurd ((fb3 C).mp q) h
      | some r => exact ⟨rfl, rfl⟩
end La
set_option maxHeartbeats 1000000
namespace La
open PySem Ev
theorem irg_ev {Δ : Dn} {a b : E} {i j : Int} {ρ : EnvD} {st st1 st' : Store} (h : ev Δ a ρ st = .ok (.py (.int i)) st1) (h' : ev Δ b ρ st1 = .ok (.py (.int j)) st') (hf : fit i = true) (hf' : fit j = true) : evI Δ (.rng2 a b) ρ st = .ok ((irg i j).map fun i => .py (.int i)) st' := by
  rw [i_rng2 h h' hf hf', rangeD_irg]
theorem fit_of {i : Int} (h1 : -1000000 ≤ i) (h2 : i ≤ 1000000) : fit i = true := by
  unfold fit
  rw [decide_eq_true (show -(2 ^ 62 : Int) ≤ i by omega), decide_eq_true (show i < (2 ^ 62 : Int) by omega)]; rfl
theorem oth_mem {m k : Nat} (hm : m = 2 ∨ m = 3) (hk : k + 1 < m) : oth m k ∈ grps m ∧ [(k : Int)] ∈ grps m := by
  rcases hm with rfl | rfl
  · have : k = 0 := by omega
    subst this
    decide
  · have : k = 0 ∨ k = 1 := by omega
    rcases this with rfl | rfl <;> decide
theorem stp_len {C : List Int → Int} {m : Nat} {o : Int} {rows : List (List Int)} (h : ((C [o] + 1) - (C (allg m) - C (oth m o))).toNat ≤ 130) : (stp C m o rows).length ≤ 130 * rows.length := by
  unfold stp
  induction rows with
  | nil => simp
  | cons r l ih =>
    rw [List.flatMap_cons, List.length_append, List.length_map, irg_len, List.length_cons]
    omega
theorem b_tadd1 {st : Store} {g : List Int} {s : Int} (h : g.length ≤ 1000) : bop st .add (.py (gT g)) (.py (.tuple [.int s])) = some (.py (gT (g ++ [s]))) := by
  unfold gT
  rw [b_tadd (by rw [List.length_map]; show _ ≤ 16777216; simp; omega), List.map_append]
  rfl
theorem rws_row {C : List Int → Int} {m : Nat} : ∀ (k : Nat), ∀ r ∈ rws C m k, r.length = k := by
  intro k
  induction k with
  | zero => intro r hr; rw [List.mem_singleton.mp hr]; rfl
  | succ k ih =>
    intro r hr
    unfold rws stp at hr
    obtain ⟨r0, h0, h1⟩ := List.mem_flatMap.mp hr
    obtain ⟨s, _, rfl⟩ := List.mem_map.mp h1
    rw [List.length_append, ih r0 h0]
    rfl
section
variable {n fu c m : Nat} {st : Store} {C : List Int → Int}
/-- one more share to each row -/
theorem grow_ok (hc : Cost st c m C) (hm : m = 2 ∨ m = 3) {k : Nat} (hk : k + 1 < m) {rows : List (List Int)} (hr : rows.length ≤ 130) (hr2 : ∀ r ∈ rows, r.length ≤ 10) (x1 x3 x5 x8 x9 x10 : Option D) : ∃ ρ' : EnvD,
    forLoop (fun d ρ st => bindT (.nm 5) st d ρ (exs (lvl T fu (n + 1)) fu c20b0)) (rows.map fun r => .py (gT r)) [some (.ref c), x1, some (.py (.int (C (allg m)))), x3, some (.py (.int k)), x5, some (.py (gT (oth m k))), some (.py (.list [])), x8, x9, x10] st = .go .nx ρ' st ∧
      ∃ y, ρ' = [some (.ref c), x1, some (.py (.int (C (allg m)))), x3, some (.py (.int k)), y, some (.py (gT (oth m k))), some (.py (.list ((stp C m k rows).map gT))), x8, x9, x10] := by
  obtain ⟨o1, o2⟩ := oth_mem hm hk
  have hall := allg_mem (show m = 1 ∨ m = 2 ∨ m = 3 ∨ m = 4 by omega)
  have c0 := hc.bd _ hall
  have c1 := hc.bd _ o1
  have c2 := hc.bd _ o2
  have lp := for_inv (f := fun d ρ st => bindT (.nm 5) st d ρ (exs (lvl T fu (n + 1)) fu c20b0))
    (fun i ρ s => ∃ y, ρ = [some (.ref c), x1, some (.py (.int (C (allg m)))), x3, some (.py (.int k)), y, some (.py (gT (oth m k))), some (.py (.list ((stp C m k (rows.take i)).map gT))), x8, x9, x10] ∧ s = st) (rows.map fun r => .py (gT r)) 0
    (ρ := [some (.ref c), x1, some (.py (.int (C (allg m)))), x3, some (.py (.int k)), x5, some (.py (gT (oth m k))), some (.py (.list [])), x8, x9, x10]) (st := st) (fun j d ρ s hj ⟨y, e1, e2⟩ => by
      rw [List.getElem?_map] at hj
      obtain ⟨r, hr3, rfl⟩ := Option.map_eq_some_iff.mp hj
      rw [e1, e2, bind_nm]
      simp only [List.set_cons_succ, List.set_cons_zero]
      rw [Nat.zero_add]
      have hrl := hr2 r (List.mem_of_getElem? hr3)
      have hli : ev (lvl T fu (n + 1)) (.li (.lc (.bin .add (.var 5) (.tup (.cons (.var 9) .nil))) (.nm 9) [9] (.rng2 (.bin .sub (.var 2) (.ix (.var 0) (.var 6))) (.bin .add (.ix (.var 0) (.tup (.cons (.var 4) .nil))) (.con (.int 1)))) .yes)) [some (.ref c), x1, some (.py (.int (C (allg m)))), x3, some (.py (.int k)), some (.py (gT r)), some (.py (gT (oth m k))), some (.py (.list ((stp C m k (rows.take j)).map gT))), x8, x9, x10] st
          = .ok (.py (.list ((irg (C (allg m) - C (oth m k)) (C [(k : Int)] + 1)).map fun s => gT (r ++ [s])))) st := by
        refine e_li (l_lcm (irg (C (allg m) - C (oth m k)) (C [(k : Int)] + 1)) (fun i => .py (.int i)) (fun s => .py (gT (r ++ [s]))) (irg_ev (e_bin (e_var rfl) (e_ix (hc.ev rfl) (e_var rfl) (hc.ix o1)) b_sub) (e_bin (e_ix (hc.ev rfl) (e_tup (es_cons (e_var rfl) es_nil)) (hc.ix o2)) e_con b_add) (fit_of (by omega) (by omega)) (fit_of (by omega) (by omega))) (fun s hs => e_bin (e_var rfl) (e_tup (es_cons (e_var rfl) es_nil)) (b_tadd1 (by omega))) (by rw [irg_len]; show _ ≤ 16777216; omega)) ?_
        have := pys_map ((irg (C (allg m) - C (oth m k)) (C [(k : Int)] + 1)).map fun s => gT (r ++ [s]))
        rwa [List.map_map] at this
      have hst : (stp C m k (rows.take (j + 1))).map gT = (stp C m k (rows.take j)).map gT ++ (irg (C (allg m) - C (oth m k)) (C [(k : Int)] + 1)).map fun s => gT (r ++ [s]) := by
        rw [take_succ hr3]
        unfold stp
        rw [List.flatMap_append, List.map_append]
        congr 1
        simp
      rw [hst]
      refine ⟨_, _, (st_nx (s_set (e_bin (e_var rfl) hli (b_ladd ?_)))).trans s_nil, _, rfl, rfl⟩
      have q1 := stp_len (C := C) (m := m) (o := k) (rows := rows.take j) (by omega)
      have q2 : (rows.take j).length ≤ rows.length := List.length_take_le' _ _
      rw [List.length_map, List.length_map, irg_len]
      show _ ≤ 16777216
      omega) ⟨x5, rfl, rfl⟩
  obtain ⟨ρ', st', hl, y, e1, e2⟩ := lp
  rw [Nat.zero_add, List.length_map, List.take_length] at e1
  rw [e2] at hl
  exact ⟨ρ', hl, y, e1⟩
theorem n_tup {l : List PD} : bi st .tuple [.py (.list l)] = some (.py (.tuple l)) := by
  have e : seqOf st (.py (.list l)) = some (l.map .py) := by simp [seqOf, Ev.listOf]
  simp only [bi, seqPD, e, Option.bind_some, pys_map, Option.map_some]
theorem rest_ok {Δ : Dn} {k : Nat} (hm : m ≤ 3) (x0 x2 x3 x5 x6 x7 x8 x9 x10 : Option D) : ev Δ (.bi .tuple (.cons (.li (.lc (.var 10) (.nm 10) [10] (.rng (.var 1)) (.v (.cmp .ne (.var 10) (.var 4))))) .nil)) [x0, some (.py (.int m)), x2, x3, some (.py (.int k)), x5, x6, x7, x8, x9, x10] st = .ok (.py (gT (oth m k))) st := by
  have hI : evI Δ (.rng (.var 1)) [x0, some (.py (.int m)), x2, x3, some (.py (.int k)), x5, x6, x7, x8, x9, x10] st = .ok ((allg m).map fun i => .py (.int i)) st := by
    rw [i_rng (e_var rfl) (fit_of (by omega) (by omega)), rangeD_irg]
    unfold irg allg
    rw [Int.sub_zero, Int.toNat_natCast]
    simp
  refine e_bi (es_cons (e_li (ps := (oth m k).map .int) (l_lcf (allg m) (fun i => .py (.int i)) (fun i => .py (.int i)) (fun i => !decide (i = (k : Int))) hI (fun x hx => t_b (e_cmp (e_var rfl) (e_var rfl) c_neI)) (fun x hx _ => e_var rfl) (by unfold allg; simp; show m ≤ 16777216; omega)) ?_) es_nil) n_tup
  exact pys_ints (oth m k)
theorem rws_len (hc : Cost st c m C) (hm : m = 1 ∨ m = 2 ∨ m = 3) : ∀ k, k ≤ m - 1 → (rws C m k).length ≤ 130 ^ k := by
  intro k
  induction k with
  | zero => intro _; exact Nat.le_refl 1
  | succ k ih =>
    intro h
    have h2 := ih (by omega)
    obtain ⟨o1, o2⟩ := oth_mem (m := m) (k := k) (by omega) (by omega)
    have hall := allg_mem (show m = 1 ∨ m = 2 ∨ m = 3 ∨ m = 4 by omega)
    have c0 := hc.bd _ hall
    have c1 := hc.bd _ o1
    have c2 := hc.bd _ o2
    have q := stp_len (C := C) (m := m) (o := k) (rows := rws C m k) (by omega)
    rw [Nat.pow_succ]
    show (stp C m k (rws C m k)).length ≤ _
    omega
/-- all rows -/
theorem rows_ok (hc : Cost st c m C) (hm : m = 1 ∨ m = 2 ∨ m = 3) : ∃ ρ' : EnvD,
    forLoop (fun d ρ st => bindT (.nm 4) st d ρ (exs (lvl T fu (n + 1)) fu c20b1)) (rangeD 0 ((m : Int) - 1)) [some (.ref c), some (.py (.int m)), some (.py (.int (C (allg m)))), some (.py (.list [gT []])), none, none, none, none, none, none, none] st = .go .nx ρ' st ∧
      ∃ y4 y5 y6 y7, ρ' = [some (.ref c), some (.py (.int m)), some (.py (.int (C (allg m)))), some (.py (.list ((rws C m (m - 1)).map gT))), y4, y5, y6, y7, none, none, none] := by
  have lp := for_inv (f := fun d ρ st => bindT (.nm 4) st d ρ (exs (lvl T fu (n + 1)) fu c20b1))
    (fun i ρ s => ∃ y4 y5 y6 y7, ρ = [some (.ref c), some (.py (.int m)), some (.py (.int (C (allg m)))), some (.py (.list ((rws C m i).map gT))), y4, y5, y6, y7, none, none, none] ∧ s = st) (rangeD 0 ((m : Int) - 1)) 0
    (ρ := [some (.ref c), some (.py (.int m)), some (.py (.int (C (allg m)))), some (.py (.list [gT []])), none, none, none, none, none, none, none]) (st := st) (fun j d ρ s hj ⟨y4, y5, y6, y7, e1, e2⟩ => by
      obtain ⟨hj', rfl⟩ := rangeD_at hj
      rw [e1, e2, bind_nm, Int.zero_add]
      simp only [List.set_cons_succ, List.set_cons_zero]
      rw [Nat.zero_add]
      have hjm : j + 1 < m := by omega
      have hrl : (rws C m j).length ≤ 130 := by
        have q3 := rws_len hc hm j (by omega)
        have q4 : j = 0 ∨ j = 1 := by omega
        rcases q4 with rfl | rfl
        · exact Nat.le_trans q3 (by decide)
        · exact Nat.le_trans q3 (by decide)
      obtain ⟨ρ2, h1, y, h2⟩ := grow_ok (n := n) (fu := fu) hc (by omega) hjm hrl (fun r hr => by rw [rws_row j r hr]; omega) (some (.py (.int m))) (some (.py (.list ((rws C m j).map gT)))) y5 none none none
      rw [h2] at h1
      refine ⟨_, _, (st_nx (s_set (rest_ok (by omega) _ _ _ _ _ _ _ _ _))).trans ((st_nx (s_set (e_li (l_lst es_nil (by decide)) rfl))).trans ((st_nx ((s_for (i_e (e_var rfl))).trans ((by rw [List.map_map]; rfl : _ = _).trans h1))).trans ((st_nx (s_set (e_var rfl))).trans s_nil))), _, _, _, _, rfl, rfl⟩) ⟨none, none, none, none, rfl, rfl⟩
  obtain ⟨ρ', st', hl, y4, y5, y6, y7, e1, e2⟩ := lp
  rw [Nat.zero_add, rangeD_len] at e1
  rw [e2] at hl
  refine ⟨ρ', hl, y4, y5, y6, y7, ?_⟩
  rw [e1, show ((m : Int) - 1 - 0).toNat = m - 1 by omega]
theorem seqI_tup (l : List Int) : seqI st (.py (gT l)) = some l := by
  unfold seqI seqPD
  have e : seqOf st (.py (gT l)) = some ((l.map .int).map .py) := by simp [seqOf, Ev.listOf, tupOf, gT]
  rw [e, Option.bind_some, pys_map, Option.bind_some, intsOf_map]
theorem least_ok (wf : WF st) (hc : Cost st c m C) (hm : m = 1 ∨ m = 2 ∨ m = 3) : lvl T fu (n + 3) 20 [.ref c, .py (.int m)] st = .ok (lsT C m) st := by
  have hm4 : m = 1 ∨ m = 2 ∨ m = 3 ∨ m = 4 := by omega
  have hall := allg_mem hm4
  obtain ⟨ρ1, r1, y4, y5, y6, y7, r2⟩ := rows_ok (n := n + 1) (fu := fu) hc hm
  rw [r2] at r1
  obtain ⟨k1, k2⟩ := for_first (f := fun d ρ st => bindT (.nm 5) st d ρ (exs (lvl T fu (n + 2)) fu c20b3)) (st := st) (D.py ∘ gT) (fun r => lst C m (shr C m r)) (fun r => .py (.list ((shr C m r).map frP)))
    (fun ρ => ∃ x4 x5 x8, ρ = [some (.ref c), some (.py (.int m)), some (.py (.int (C (allg m)))), some (.py (.list ((rws C m (m - 1)).map gT))), x4, x5, y6, y7, x8, none, none]) (rws C m (m - 1)) [some (.ref c), some (.py (.int m)), some (.py (.int (C (allg m)))), some (.py (.list ((rws C m (m - 1)).map gT))), y4, y5, y6, y7, none, none, none] ⟨y4, y5, none, rfl⟩ (fun r hr ρ ⟨x4, x5, x8, e1⟩ => by
      subst e1
      rw [bind_nm]
      simp only [List.set_cons_succ, List.set_cons_zero, Function.comp]
      have hrl := rws_row (m - 1) r hr
      have hsh : (shr C m r).length = m := by unfold shr; rw [List.length_map, List.length_append, hrl]; simp; omega
      have hl2 : ev (lvl T fu (n + 2)) (.li (.lc (.tup (.cons (.var 9) (.cons (.con (.int 1)) .nil))) (.nm 9) [9] (.e (.bin .add (.var 5) (.tup (.cons (.bin .sub (.var 2) (.bi .sum (.cons (.var 5) .nil))) .nil)))) .yes)) [some (.ref c), some (.py (.int m)), some (.py (.int (C (allg m)))), some (.py (.list ((rws C m (m - 1)).map gT))), x4, some (.py (gT r)), y6, y7, x8, none, none] st = .ok (.py (.list ((shr C m r).map frP))) st := by
        refine e_li (l_lcm (r ++ [C (allg m) - r.sum]) (fun i => .py (.int i)) (fun s => .py (frP (s, 1))) ((i_t (l := (r ++ [C (allg m) - r.sum]).map .int) (e_bin (e_var rfl) (e_tup (es_cons (e_bin (e_var rfl) (e_bi (es_cons (e_var rfl) es_nil) (by simp only [bi, seqI_tup, Option.map_some])) b_sub) es_nil)) (b_tadd1 (by omega)))).trans (by rw [List.map_map]; rfl)) (fun s hs => e_tup (es_cons (e_var rfl) (es_cons e_con es_nil))) (by rw [List.length_append, hrl]; show _ ≤ 16777216; simp; omega)) ?_
        unfold shr
        rw [List.map_map]
        have := pys_map ((r ++ [C (allg m) - r.sum]).map (frP ∘ fun s => (s, 1)))
        rwa [List.map_map] at this
      have t1 : ∀ {b : Bool}, lst C m (shr C m r) = b → evT (lvl T fu (n + 2)) (.v (.call 19 (.cons (.var 0) (.cons (.var 1) (.cons (.var 8) .nil))))) [some (.ref c), some (.py (.int m)), some (.py (.int (C (allg m)))), some (.py (.list ((rws C m (m - 1)).map gT))), x4, some (.py (gT r)), y6, y7, some (.py (.list ((shr C m r).map frP))), none, none] st = .ok b st := fun {b} hb => by
        have q := lstable_ok (n := n) (fu := fu) wf hc hm4 hsh (fun s hs => by
          unfold shr at hs
          obtain ⟨z, _, rfl⟩ := List.mem_map.mp hs
          exact ⟨(by omega : (0 : Int) < 1), (by omega : (1 : Int) ≤ 100)⟩)
        rw [hb] at q
        exact t_b (e_call (es_cons (hc.ev rfl) (es_cons (e_var rfl) (es_cons (e_var rfl) es_nil))) q)
      exact ⟨fun h => ⟨_, (st_nx (s_set hl2)).trans (st_fl ((s_ift (t1 h)).trans (st_fl (s_ret (e_var rfl)) (fun z => by cases z))) (fun z => by cases z))⟩, fun h => ⟨_, (st_nx (s_set hl2)).trans ((st_nx ((s_iff (t1 h)).trans s_nil)).trans s_nil), _, _, _, rfl⟩⟩)
  have pre : exs (lvl T fu (n + 2)) fu c20 [some (.ref c), some (.py (.int m)), none, none, none, none, none, none, none, none, none] st = exs (lvl T fu (n + 2)) fu (.cons (.for (.nm 5) (.e (.var 3)) c20b3) (.cons (.ret (.con .none)) .nil)) [some (.ref c), some (.py (.int m)), some (.py (.int (C (allg m)))), some (.py (.list ((rws C m (m - 1)).map gT))), y4, y5, y6, y7, none, none, none] st :=
    (st_nx (s_set (e_ix (hc.ev rfl) (e_trng (e_var rfl) (by omega)) (by rw [gT_all]; exact hc.ix hall)))).trans ((st_nx (s_set (e_li (l_lst (es_cons (e_tup es_nil) es_nil) (show 1 ≤ 16777216 by decide)) rfl))).trans (st_nx ((s_for (i_rng (e_bin (e_var rfl) e_con b_sub) (fit_of (by omega) (by omega)))).trans r1)))
  have ei : evI (lvl T fu (n + 2)) (.e (.var 3)) [some (.ref c), some (.py (.int m)), some (.py (.int (C (allg m)))), some (.py (.list ((rws C m (m - 1)).map gT))), y4, y5, y6, y7, none, none, none] st = .ok ((rws C m (m - 1)).map (D.py ∘ gT)) st := (i_e (e_var rfl)).trans (by rw [List.map_map])
  show runFn (lvl T fu (n + 2)) fu 2 11 c20 [.ref c, .py (.int m)] st = _
  unfold lsT
  cases hls : ls C m with
  | some r =>
    obtain ⟨ρ', h1⟩ := k1 r hls
    exact run_at (ar := 2) (sl := 11) (b := c20) (ds := [.ref c, .py (.int m)]) (ρ0 := [some (.ref c), some (.py (.int m)), none, none, none, none, none, none, none, none, none]) rfl rfl (pre.trans (st_fl ((s_for ei).trans h1) (fun z => by cases z))) (trim_py0 wf)
  | none =>
    obtain ⟨ρ', h1, _⟩ := k2 hls
    exact run_at (ar := 2) (sl := 11) (b := c20) (ds := [.ref c, .py (.int m)]) (ρ0 := [some (.ref c), some (.py (.int m)), none, none, none, none, none, none, none, none, none]) rfl rfl (pre.trans ((st_nx ((s_for ei).trans h1)).trans (st_fl (s_ret e_con) (fun z => by cases z)))) (trim_py0 wf)
end
end La
set_option maxHeartbeats 1000000
namespace La
open PySem Ev
theorem gcd_loop2 {Δ : Dn} {fu : Nat} {st : Store} {a b : D} : ∀ (y x k : Nat), y < k → ∃ z, whlLoop (evT Δ (.v (.cmp .ne (.var 3) (.con (.int 0))))) (exs Δ fu c15b0) k [some a, some b, some (.py (.int x)), some (.py (.int y))] st = .go .nx [some a, some b, some (.py (.int (Nat.gcd x y))), z] st := by
  intro y
  induction y using Nat.strongRecOn with
  | _ y ih =>
    intro x k hk
    obtain ⟨k, rfl⟩ : ∃ k', k = k' + 1 := ⟨k - 1, by omega⟩
    have ht : evT Δ (.v (.cmp .ne (.var 3) (.con (.int 0)))) [some a, some b, some (.py (.int x)), some (.py (.int y))] st = .ok (!decide ((y : Int) = 0)) st := t_b (e_cmp (e_var rfl) e_con c_neI)
    by_cases h : y = 0
    · subst h
      refine ⟨some (.py (.int 0)), ?_⟩
      unfold whlLoop
      rw [ht, Nat.gcd_zero_right]
      rfl
    · have hx : (x : Int) % (y : Int) = ((x % y : Nat) : Int) := by simp
      obtain ⟨z, h1⟩ := ih (x % y) (Nat.mod_lt _ (by omega)) y k (by have := Nat.mod_lt x (show 0 < y by omega); omega)
      refine ⟨z, ?_⟩
      rw [Nat.gcd_comm y (x % y), ← Nat.gcd_rec y x, Nat.gcd_comm y x] at h1
      unfold whlLoop
      rw [ht, decide_eq_false (by omega)]
      have hb : exs Δ fu c15b0 [some a, some b, some (.py (.int x)), some (.py (.int y))] st = .go .nx [some a, some b, some (.py (.int y)), some (.py (.int ((x % y : Nat) : Int)))] st := by
        refine (st_nx (s_swp (x := .py (.int y)) (y := .py (.int ((x : Int) % (y : Int)))) (e_var rfl) (e_bin (e_bi (es_cons (e_var rfl) es_nil) n_int) (e_var rfl) (b_mod (by omega))))).trans ?_
        rw [hx]
        exact s_nil
      simp only [Bool.not_false, Rs.to_ok, if_true]
      rw [hb]
      exact h1
theorem frac_ok {n fu : Nat} {st : Store} {a b : Int} (wf : WF st) (hf : b.natAbs < fu) (hb : 0 < b) (hb2 : b < 100000000) : lvl T fu (n + 1) 15 [.py (.int a), .py (.int b)] st = .ok (fr (a / Int.gcd a b) (b / Int.gcd a b)) st := by
  have hg : 0 < (Int.gcd a b : Int) := by
    have := Int.gcd_pos_of_ne_zero_right a (show b ≠ 0 by omega)
    omega
  have hg2 : (Int.gcd a b : Int) ≤ b := Int.le_of_dvd hb (Int.gcd_dvd_right a b)
  obtain ⟨z, h1⟩ := gcd_loop2 (Δ := lvl T fu n) (fu := fu) (st := st) (a := .py (.int a)) (b := .py (.int b)) b.natAbs a.natAbs fu hf
  have ab : (if a < 0 then -a else a) = ((a.natAbs : Nat) : Int) := by split <;> omega
  have eb : (b : Int) = ((b.natAbs : Nat) : Int) := by omega
  show runFn (lvl T fu n) fu 2 4 c15 [.py (.int a), .py (.int b)] st = _
  refine run_at (ar := 2) (sl := 4) (b := c15) (ds := [.py (.int a), .py (.int b)]) (ρ0 := [some (.py (.int a)), some (.py (.int b)), none, none]) (ρ := [some (.py (.int a)), some (.py (.int b)), some (.py (.int (Int.gcd a b))), z]) rfl rfl ?_ (trim_py0 wf)
  refine (st_nx (s_set (d := .py (.int a.natAbs)) (st' := st) (e_bi (es_cons (e_var rfl) es_nil) (by rw [n_abs, ab])))).trans ?_
  refine (st_nx (s_set (d := .py (.int b.natAbs)) (st' := st) ((e_var rfl).trans (by rw [← eb])))).trans ?_
  refine (st_nx (ρ' := [some (.py (.int a)), some (.py (.int b)), some (.py (.int (Int.gcd a b))), z]) (st' := st) ?_).trans ?_
  · exact h1
  exact st_fl (s_ret (e_tup (es_cons (e_bin (e_var rfl) (e_var rfl) (b_fdiv hg (by omega))) (es_cons (e_bin (e_var rfl) (e_var rfl) (b_fdiv hg (by omega))) es_nil)))) (fun z => by cases z)
end La
set_option maxHeartbeats 1000000
namespace La
open PySem Ev
/-- a comprehension whose turns change the store -/
theorem lc_inv {f : D → Store → Rs (Option D)} (I : List D → Store → Prop) : ∀ (ds acc : List D) (st : Store), I acc st → acc.length + ds.length ≤ line → (∀ d ∈ ds, ∀ acc st, I acc st → ∃ x st', f d st = .ok (some x) st' ∧ I (acc ++ [x]) st') →
    ∃ xs st', lcLoop f acc ds st = .ok xs st' ∧ I xs st' ∧ xs.length = acc.length + ds.length
  | [], acc, st, h0, _, _ => ⟨acc, st, rfl, h0, rfl⟩
  | d :: ds, acc, st, h0, hl, h => by
    obtain ⟨x, st1, e1, h1⟩ := h d List.mem_cons_self acc st h0
    rw [List.length_cons] at hl
    obtain ⟨xs, st2, e2, h2, h3⟩ := lc_inv I ds (acc ++ [x]) st1 h1 (by rw [List.length_append]; simp; omega) fun d hd => h d (List.mem_cons_of_mem _ hd)
    refine ⟨xs, st2, ?_, h2, by rw [h3, List.length_append]; simp; omega⟩
    unfold lcLoop
    rw [e1, Rs.bind_ok]
    simp only
    rw [if_pos (by omega)]
    exact e2
theorem dv_bd {row : List Int} {a : Nat} {m : Int} (hm : 0 < m) : 0 ≤ dv row a m ∧ dv row a m < m := by
  unfold dv
  split
  · exact ⟨Int.emod_nonneg _ (by omega), Int.emod_lt_of_pos _ hm⟩
  · exact ⟨Int.emod_nonneg _ (by omega), Int.emod_lt_of_pos _ hm⟩
abbrev Kv := List (List Int × D)
def KvOk (kvs : Kv) : Prop := ∀ p ∈ kvs, ∃ v : Int, p.2 = .py (.int v) ∧ 0 ≤ v ∧ v ≤ 60
theorem KvOk.put {kvs : Kv} (h : KvOk kvs) {k : List Int} {v : Int} (h0 : 0 ≤ v) (h1 : v ≤ 60) : KvOk (putK kvs k (.py (.int v))) := by
  unfold putK
  split
  · intro p hp
    obtain ⟨q, hq, rfl⟩ := List.mem_map.mp hp
    split
    · exact ⟨v, rfl, h0, h1⟩
    · exact h q hq
  · intro p hp
    rcases List.mem_append.mp hp with hp | hp
    · exact h p hp
    · rw [List.mem_singleton.mp hp]
      exact ⟨v, rfl, h0, h1⟩
theorem putK_len (kvs : Kv) (k : List Int) (v : D) : (putK kvs k v).length ≤ kvs.length + 1 := by
  unfold putK
  split
  · simp
  · simp
theorem valK_put_self (kvs : Kv) (k : List Int) (v : D) : valK (putK kvs k v) k = some v := by
  unfold valK putK
  split
  · rename_i h
    induction kvs with
    | nil => simp at h
    | cons a r ih =>
      rw [List.map_cons, List.find?_cons]
      by_cases q : a.1 = k
      · simp [q]
      · have h2 : (r.any fun kv => decide (kv.1 = k)) = true := by simpa [q] using h
        simp only [q, if_false, decide_false]
        exact ih h2
  · rename_i h
    rw [List.find?_append]
    have e : (kvs.find? fun kv => decide (kv.1 = k)) = none := by
      rw [List.find?_eq_none]
      intro x hx hq
      exact h (List.any_eq_true.mpr ⟨x, hx, hq⟩)
    rw [e]
    simp
theorem valK_put_ne (kvs : Kv) {k k' : List Int} (v : D) (hk : k' ≠ k) : valK (putK kvs k v) k' = valK kvs k' := by
  unfold valK putK
  split
  · rename_i h
    clear h
    induction kvs with
    | nil => rfl
    | cons a r ih =>
      rw [List.map_cons, List.find?_cons, List.find?_cons]
      by_cases q : a.1 = k
      · have q2 : ¬ k = k' := fun z => hk z.symm
        simp only [q, if_true, q2, decide_false]
        exact ih
      · simp only [q, if_false]
        by_cases q3 : a.1 = k'
        · simp [q3]
        · simp only [q3, decide_false]
          exact ih
  · rw [List.find?_append]
    have q2 : ¬ k = k' := fun z => hk z.symm
    cases e : kvs.find? fun kv => decide (kv.1 = k') with
    | some x => simp
    | none => simp [q2]
/-- the store with a box at b and a dict at the end -/
def Sd (st : Store) (b : Nat) (row : List Int) (a : Nat) (kvs : Kv) : Store := st.set b (boxC row a) ++ [.dct kvs]
section
variable {st : Store} {b : Nat} {row : List Int} {a : Nat} {kvs : Kv}
theorem Sd.len : (Sd st b row a kvs).length = st.length + 1 := by unfold Sd; rw [List.length_append, List.length_set]; rfl
theorem Sd.box (hb : b < st.length) : (Sd st b row a kvs)[b]? = some (boxC row a) := by
  unfold Sd
  rw [List.getElem?_append_left (by rw [List.length_set]; exact hb), List.getElem?_set_self hb]
theorem Sd.dict : (Sd st b row a kvs)[st.length]? = some (.dct kvs) := by
  unfold Sd
  rw [List.getElem?_append_right (by rw [List.length_set]; exact Nat.le_refl _), List.length_set, Nat.sub_self]
  rfl
theorem Sd.set_box (hb : b < st.length) (a' : Nat) : (Sd st b row a kvs).set b (boxC row a') = Sd st b row a' kvs := by
  unfold Sd
  rw [List.set_append_left _ _ (by rw [List.length_set]; exact hb), List.set_set]
theorem Sd.set_dict (kvs' : Kv) : (Sd st b row a kvs).set st.length (.dct kvs') = Sd st b row a kvs' := by
  unfold Sd
  rw [List.set_append_right _ _ (by rw [List.length_set]; exact Nat.le_refl _), List.length_set, Nat.sub_self]
  rfl
theorem Sd.wf (wf : WF st) (hk : KvOk kvs) : WF (Sd st b row a kvs) := by
  unfold Sd
  refine WF.app (WF.set wf rfl) ?_
  show kvs.all _ = true
  rw [List.all_eq_true]
  intro p hp
  obtain ⟨v, e, _⟩ := hk p hp
  rw [e]; rfl
end
theorem set_self {st : Store} {b : Nat} {c : Cell} (h : st[b]? = some c) : st.set b c = st := by
  obtain ⟨h1, h2⟩ := List.getElem?_eq_some_iff.mp h
  rw [← h2]
  exact List.set_getElem_self h1
/-- a draw as an expression -/
theorem drawE {n fu b : Nat} {st : Store} {row : List Int} {a : Nat} {k : Int} {ρ : EnvD} {i : Nat} (hst : st[b]? = some (boxC row a)) (wf : WF st) (hk : 0 < k) (hi : ρ[i]? = some (some (.ref b))) :
    ev (lvl T fu (n + 1)) (.call 12 (.cons (.var i) (.cons (.con (.int k)) .nil))) ρ st = .ok (.py (.int (dv row a k))) (st.set b (boxC row (a + 1))) :=
  e_call (es_cons (e_ref hi hst (by intro p z; cases z)) (es_cons e_con es_nil)) (draw_ok hst wf hk)
theorem drawS {n fu b : Nat} {st : Store} {row : List Int} {a : Nat} {kvs : Kv} {k : Int} {ρ : EnvD} {i : Nat} (hb : b < st.length) (wf : WF st) (hv : KvOk kvs) (hk : 0 < k) (hi : ρ[i]? = some (some (.ref b))) :
    ev (lvl T fu (n + 1)) (.call 12 (.cons (.var i) (.cons (.con (.int k)) .nil))) ρ (Sd st b row a kvs) = .ok (.py (.int (dv row a k))) (Sd st b row (a + 1) kvs) := by
  have e := drawE (n := n) (fu := fu) (k := k) (i := i) (ρ := ρ) (Sd.box (row := row) (a := a) (kvs := kvs) hb) (Sd.wf wf hv) hk hi
  rwa [Sd.set_box hb] at e
theorem gsum_bd {ps : List Int} (hp : ∀ x ∈ ps, 0 ≤ x ∧ x ≤ 8) : ∀ (g : List Int), 0 ≤ gsum ps g ∧ gsum ps g ≤ 8 * g.length
  | [] => ⟨Int.le_refl 0, Int.le_refl 0⟩
  | i :: g => by
    have ih := gsum_bd hp g
    have e : gsum ps (i :: g) = ps.getD i.toNat 0 + gsum ps g := by unfold gsum; rw [List.map_cons, List.sum_cons]
    have h1 : 0 ≤ ps.getD i.toNat 0 ∧ ps.getD i.toNat 0 ≤ 8 := by
      rw [List.getD_eq_getElem?_getD]
      cases q : ps[i.toNat]? with
      | none => exact ⟨Int.le_refl 0, by show (0 : Int) ≤ 8; omega⟩
      | some x => exact hp x (List.mem_of_getElem? q)
    rw [e, List.length_cons]
    omega
theorem n_max0 {st : Store} {z : Int} : bi st .max [.py (.list [.int 0, .int z])] = some (.py (.int (max 0 z))) := by
  have e := seqI_list (st := st) [0, z]
  have e' : seqI st (.py (.list [.int 0, .int z])) = some [0, z] := e
  simp only [bi, e', Option.bind_some, maxI]
  rfl
section
variable {n fu b m : Nat} {st : Store} {row : List Int} {a : Nat}
/-- the single costs -/
theorem single_ok (hst : st[b]? = some (boxC row a)) (wf : WF st) (hm : m ≤ 4) (x3 x4 x5 : Option D) : ∃ (l : List Int) (a' : Nat),
    ev (lvl T fu (n + 1)) (.li (.lc (.call 12 (.cons (.var 0) (.cons (.con (.int 9)) .nil))) (.nm 5) [5] (.rng (.var 1)) .yes)) [some (.ref b), some (.py (.int m)), none, x3, x4, x5] st = .ok (.py (.list (l.map .int))) (st.set b (boxC row a')) ∧ l.length = m ∧ ∀ x ∈ l, 0 ≤ x ∧ x ≤ 8 := by
  have hb : b < st.length := (List.getElem?_eq_some_iff.mp hst).1
  obtain ⟨xs, st', e1, ⟨l, a', rfl, rfl, h3⟩, h4⟩ := lc_inv (f := lcTurn (ev (lvl T fu (n + 1)) (.call 12 (.cons (.var 0) (.cons (.con (.int 9)) .nil)))) (evT (lvl T fu (n + 1)) .yes) (.nm 5) (wipe [some (.ref b), some (.py (.int m)), none, x3, x4, x5] [5]))
    (fun acc s => ∃ (l : List Int) (a' : Nat), acc = l.map (fun i => D.py (.int i)) ∧ s = st.set b (boxC row a') ∧ ∀ x ∈ l, 0 ≤ x ∧ x ≤ 8) (rangeD 0 m) [] st ⟨[], a, rfl, (set_self hst).symm, by simp⟩ (by rw [rangeD_len]; show 0 + _ ≤ 16777216; omega) (fun d hd acc s ⟨l, a', e1, e2, h⟩ => by
      subst e1 e2
      have e := drawE (n := n) (fu := fu) (k := 9) (i := 0) (ρ := [some (.ref b), some (.py (.int m)), none, x3, x4, some d]) (List.getElem?_set_self (a := boxC row a') hb) (WF.set wf rfl) (by omega) rfl
      rw [List.set_set] at e
      refine ⟨.py (.int (dv row a' 9)), st.set b (boxC row (a' + 1)), ?_, l ++ [dv row a' 9], a' + 1, by simp, rfl, ?_⟩
      · unfold lcTurn
        show (match some ([some (.ref b), some (.py (.int m)), none, x3, x4, some d] : EnvD) with
            | some ρ' => (evT (lvl T fu (n + 1)) .yes ρ' (st.set b (boxC row a'))).noex.bind fun b st => if b = true then (ev (lvl T fu (n + 1)) _ ρ' st).noex.bind fun x st => Rs.ok (some x) st else .ok none st
            | none => .bad) = _
        simp only
        rw [t_yes]
        simp only [Rs.noex_ok, Rs.bind_ok, if_true]
        rw [e]; rfl
      · intro x hx
        rcases List.mem_append.mp hx with hx | hx
        · exact h x hx
        · rw [List.mem_singleton.mp hx]
          have := dv_bd (row := row) (a := a') (m := 9) (by omega)
          omega)
  refine ⟨l, a', e_li (l_lc (i_rng (e_var rfl) (fit_of (by omega) (by omega))) e1) (pys_ints l), ?_, h3⟩
  rw [List.length_map, rangeD_len] at h4
  simpa using h4
end
end La
set_option maxHeartbeats 1000000
namespace La
open PySem Ev
theorem isSome_put {kvs : Kv} {k k' : List Int} {v : D} (h : (valK kvs k').isSome = true ∨ k' = k) : (valK (putK kvs k v) k').isSome = true := by
  by_cases q : k' = k
  · rw [q, valK_put_self]; rfl
  · rw [valK_put_ne _ _ q]
    exact h.resolve_right q
section
variable {st : Store} {b : Nat} {row : List Int} {a : Nat} {kvs : Kv}
theorem putE {g : List Int} {v : D} (hl : kvs.length < 1000) : setix (Sd st b row a kvs) (.ref st.length) (.py (gT g)) v = some (Sd st b row a (putK kvs g v)) := by
  simp only [setix, Sd.dict, keyOf_g, Option.bind_some]
  rw [if_pos (show kvs.length < 16777216 by omega), Sd.set_dict]
theorem getE {g : List Int} : getix (Sd st b row a kvs) (.ref st.length) (.py (gT g)) = valK kvs g := by
  simp only [getix, Sd.dict, keyOf_g, Option.bind_some]
end
section
variable {n fu b m : Nat} {st : Store} {row : List Int}
theorem costs_turn (hb : b < st.length) (wf : WF st) {ps : List Int} (hps : ∀ x ∈ ps, 0 ≤ x ∧ x ≤ 8) (hpl : ps.length = m) {g : List Int} (hg : g.length ≤ 4 ∧ ∀ i ∈ g, 0 ≤ i ∧ i < m) (hg0 : g ≠ []) {a : Nat} {kvs : Kv} (hv : KvOk kvs) (hl : kvs.length < 900) (x5 : Option D) :
    ∃ (a' : Nat) (kvs' : Kv), exs (lvl T fu (n + 1)) fu c16b2 [some (.ref b), some (.py (.int m)), some (.py (.list (ps.map .int))), some (.ref st.length), some (.py (gT g)), x5] (Sd st b row a kvs) = .go .nx [some (.ref b), some (.py (.int m)), some (.py (.list (ps.map .int))), some (.ref st.length), some (.py (gT g)), x5] (Sd st b row a' kvs') ∧
      KvOk kvs' ∧ kvs'.length ≤ kvs.length + 3 ∧ (∀ k, (valK kvs k).isSome = true → (valK kvs' k).isSome = true) ∧ (valK kvs' g).isSome = true := by
  have rf : ∀ {a : Nat} {kvs : Kv}, ev (lvl T fu (n + 1)) (.var 3) [some (.ref b), some (.py (.int m)), some (.py (.list (ps.map .int))), some (.ref st.length), some (.py (gT g)), x5] (Sd st b row a kvs) = .ok (.ref st.length) (Sd st b row a kvs) := fun {a kvs} => e_ref rfl Sd.dict (by intro p z; cases z)
  have hgl : ∀ {s : Store}, bi s .len [.py (gT g)] = some (.py (.int g.length)) := fun {s} => by
    unfold gT
    rw [n_lenT, List.length_map]
  have hg1 : 0 < g.length := List.length_pos_iff.mpr hg0
  have bd := gsum_bd hps g
  -- the sum
  have hs : ev (lvl T fu (n + 1)) (.bi .sum (.cons (.li (.lc (.ix (.var 2) (.var 5)) (.nm 5) [5] (.e (.var 4)) .yes)) .nil)) [some (.ref b), some (.py (.int m)), some (.py (.list (ps.map .int))), some (.ref st.length), some (.py (gT g)), x5] (Sd st b row a kvs) = .ok (.py (.int (gsum ps g))) (Sd st b row a kvs) := by
    refine e_bi (es_cons (e_li (ps := (g.map fun i => ps.getD i.toNat 0).map .int) (l_lcm g (fun i => .py (.int i)) (fun i => .py (.int (ps.getD i.toNat 0))) ((i_t (l := g.map .int) (e_var rfl)).trans (by rw [List.map_map]; rfl)) (fun i hi => ?_) (show g.length ≤ 16777216 by omega)) ?_) es_nil) (n_sum _)
    · obtain ⟨i1, i2⟩ := hg.2 i hi
      obtain ⟨k, rfl⟩ : ∃ k : Nat, i = (k : Int) := ⟨i.toNat, by omega⟩
      have hlt : k < ps.length := by rw [hpl]; omega
      refine e_ix (e_var rfl) (e_var rfl) ?_
      show getix _ (.py (.list (ps.map .int))) (.py (.int (k : Int))) = _
      simp only [getix, intOf, Option.bind_some, List.length_map, ixN_nat hlt, List.getElem?_map, Int.toNat_natCast]
      simp [List.getElem?_eq_getElem hlt]
    · have := pys_ints (g.map fun i => ps.getD i.toNat 0)
      rwa [List.map_map] at this
  have hv1 : KvOk (putK kvs g (.py (.int (gsum ps g)))) := hv.put (by omega) (by omega)
  have hl1 := putK_len kvs g (.py (.int (gsum ps g)))
  have s1 := s_stI (fu := fu) (i := .var 4) hs rf (e_var rfl) (putE (a := a) (row := row) (st := st) (b := b) (g := g) (v := .py (.int (gsum ps g))) (kvs := kvs) (by omega))
  have z1 : ∀ k, (valK kvs k).isSome = true → (valK (putK kvs g (.py (.int (gsum ps g)))) k).isSome = true := fun k h => isSome_put (.inl h)
  have z1' : (valK (putK kvs g (.py (.int (gsum ps g)))) g).isSome = true := isSome_put (.inr rfl)
  have v1 : valK (putK kvs g (.py (.int (gsum ps g)))) g = some (.py (.int (gsum ps g))) := valK_put_self _ _ _
  generalize putK kvs g (.py (.int (gsum ps g))) = kv1 at *
  have len4 : ∀ {s : Store}, ev (lvl T fu (n + 1)) (.bi .len (.cons (.var 4) .nil)) [some (.ref b), some (.py (.int m)), some (.py (.list (ps.map .int))), some (.ref st.length), some (.py (gT g)), x5] s = .ok (.py (.int g.length)) s := fun {s} => e_bi (es_cons (e_var rfl) es_nil) hgl
  -- a group of several
  obtain ⟨a2, kv2, s2, hv2, hl2, z2, z2'⟩ : ∃ (a2 : Nat) (kv2 : Kv), ex (lvl T fu (n + 1)) fu (.ife (.v (.cmp .gt (.bi .len (.cons (.var 4) .nil)) (.con (.int 1)))) c16b0 .nil) [some (.ref b), some (.py (.int m)), some (.py (.list (ps.map .int))), some (.ref st.length), some (.py (gT g)), x5] (Sd st b row a kv1) = .go .nx [some (.ref b), some (.py (.int m)), some (.py (.list (ps.map .int))), some (.ref st.length), some (.py (gT g)), x5] (Sd st b row a2 kv2) ∧
      KvOk kv2 ∧ kv2.length ≤ kvs.length + 2 ∧ (∀ k, (valK kvs k).isSome = true → (valK kv2 k).isSome = true) ∧ (valK kv2 g).isSome = true := by
    by_cases q : (1 : Int) < (g.length : Int)
    · have t := t_b (e_cmp (Δ := lvl T fu (n + 1)) (ρ := [some (.ref b), some (.py (.int m)), some (.py (.list (ps.map .int))), some (.ref st.length), some (.py (gT g)), x5]) (st := Sd st b row a kv1) len4 e_con (c_gt.trans (by rw [decide_eq_true q])))
      have d4 := dv_bd (row := row) (a := a) (m := 4) (by omega)
      have d2 := dv_bd (row := row) (a := a + 1) (m := 2) (by omega)
      have hmx : ev (lvl T fu (n + 1)) (.bi .max (.cons (.li (.lst (.cons (.con (.int 0)) (.cons (.bin .add (.bin .sub (.ix (.var 3) (.var 4)) (.call 12 (.cons (.var 0) (.cons (.con (.int 4)) .nil)))) (.call 12 (.cons (.var 0) (.cons (.con (.int 2)) .nil)))) .nil)))) .nil)) [some (.ref b), some (.py (.int m)), some (.py (.list (ps.map .int))), some (.ref st.length), some (.py (gT g)), x5] (Sd st b row a kv1) = .ok (.py (.int (max 0 (gsum ps g - dv row a 4 + dv row (a + 1) 2)))) (Sd st b row (a + 2) kv1) :=
        e_bi (es_cons (e_li (l_lst (es_cons e_con (es_cons (e_bin (e_bin (e_ix rf (e_var rfl) (getE.trans v1)) (drawS hb wf hv1 (by omega) rfl) b_sub) (drawS hb wf hv1 (by omega) rfl) b_add) es_nil)) (show 2 ≤ 16777216 by decide)) rfl) es_nil) n_max0
      have l2 := putK_len kv1 g (.py (.int (max 0 (gsum ps g - dv row a 4 + dv row (a + 1) 2))))
      refine ⟨_, _, (s_ift t).trans ((st_nx (s_stI hmx rf (e_var rfl) (putE (by omega)))).trans s_nil), hv1.put (by omega) (by omega), by omega, fun k h => isSome_put (.inl (z1 k h)), isSome_put (.inr rfl)⟩
    · have t := t_b (e_cmp (Δ := lvl T fu (n + 1)) (ρ := [some (.ref b), some (.py (.int m)), some (.py (.list (ps.map .int))), some (.ref st.length), some (.py (gT g)), x5]) (st := Sd st b row a kv1) len4 e_con (c_gt.trans (by rw [decide_eq_false q])))
      exact ⟨_, _, (s_iff t).trans s_nil, hv1, by omega, z1, z1'⟩
  -- another cost
  have t0 := t_b (e_cmp (Δ := lvl T fu (n + 1)) (ρ := [some (.ref b), some (.py (.int m)), some (.py (.list (ps.map .int))), some (.ref st.length), some (.py (gT g)), x5]) (st := Sd st b row a2 kv2) len4 e_con (c_gt.trans (by rw [decide_eq_true (show (0 : Int) < (g.length : Int) by omega)])))
  have t9 := t_b (e_cmp (Δ := lvl T fu (n + 1)) (ρ := [some (.ref b), some (.py (.int m)), some (.py (.list (ps.map .int))), some (.ref st.length), some (.py (gT g)), x5]) (st := Sd st b row a2 kv2) (drawS hb wf hv2 (k := 9) (i := 0) (by omega) rfl) e_con (c_eqI (j := 0)))
  have t := t_and t0 (fun _ => t9) (fun z => by cases z)
  obtain ⟨a3, kv3, s3, hv3, hl3, z3, z3'⟩ : ∃ (a3 : Nat) (kv3 : Kv), ex (lvl T fu (n + 1)) fu (.ife (.and (.v (.cmp .gt (.bi .len (.cons (.var 4) .nil)) (.con (.int 0)))) (.v (.cmp .eq (.call 12 (.cons (.var 0) (.cons (.con (.int 9)) .nil))) (.con (.int 0))))) c16b1 .nil) [some (.ref b), some (.py (.int m)), some (.py (.list (ps.map .int))), some (.ref st.length), some (.py (gT g)), x5] (Sd st b row a2 kv2) = .go .nx [some (.ref b), some (.py (.int m)), some (.py (.list (ps.map .int))), some (.ref st.length), some (.py (gT g)), x5] (Sd st b row a3 kv3) ∧
      KvOk kv3 ∧ kv3.length ≤ kvs.length + 3 ∧ (∀ k, (valK kvs k).isSome = true → (valK kv3 k).isSome = true) ∧ (valK kv3 g).isSome = true := by
    cases q : decide (dv row a2 9 = 0) with
    | true =>
      rw [q] at t
      have d := dv_bd (row := row) (a := a2 + 1) (m := 20) (by omega)
      have l3 := putK_len kv2 g (.py (.int (dv row (a2 + 1) 20)))
      exact ⟨_, _, (s_ift t).trans ((st_nx (s_stI (drawS hb wf hv2 (by omega) rfl) rf (e_var rfl) (putE (by omega)))).trans s_nil), hv2.put (by omega) (by omega), by omega, fun k h => isSome_put (.inl (z2 k h)), isSome_put (.inr rfl)⟩
    | false =>
      rw [q] at t
      exact ⟨_, _, (s_iff t).trans s_nil, hv2, by omega, z2, z2'⟩
  exact ⟨a3, kv3, (st_nx s1).trans ((st_nx s2).trans ((st_nx s3).trans s_nil)), hv3, hl3, z3, z3'⟩
theorem costs_ok {a : Nat} (hst : st[b]? = some (boxC row a)) (wf : WF st) (hm : m = 1 ∨ m = 2 ∨ m = 3 ∨ m = 4) : ∃ (a' : Nat) (kvs : Kv) (C : List Int → Int),
    lvl T fu (n + 2) 16 [.ref b, .py (.int m)] st = .ok (.ref st.length) (Sd st b row a' kvs) ∧ KvOk kvs ∧ Cost (Sd st b row a' kvs) st.length m C := by
  have hb : b < st.length := (List.getElem?_eq_some_iff.mp hst).1
  obtain ⟨ps, a1, e1, hpl, hps⟩ := single_ok (n := n) (fu := fu) (m := m) hst wf (by omega) none none none
  have lp := for_inv (f := fun d ρ st => bindT (.nm 4) st d ρ (exs (lvl T fu (n + 1)) fu c16b2))
    (fun i ρ s => ∃ (a : Nat) (kvs : Kv) (x4 x5 : Option D), ρ = [some (.ref b), some (.py (.int m)), some (.py (.list (ps.map .int))), some (.ref st.length), x4, x5] ∧ s = Sd st b row a kvs ∧ KvOk kvs ∧ kvs.length ≤ 3 * i ∧ ∀ g ∈ (grps m).take i, (valK kvs g).isSome = true) ((grps m).map fun g => .py (gT g)) 0
    (ρ := [some (.ref b), some (.py (.int m)), some (.py (.list (ps.map .int))), some (.ref st.length), none, none]) (st := Sd st b row a1 []) (fun j d ρ s hj ⟨a, kvs, x4, x5, e1, e2, h1, h2, h3⟩ => by
      rw [List.getElem?_map] at hj
      obtain ⟨g, hg, rfl⟩ := Option.map_eq_some_iff.mp hj
      rw [e1, e2, bind_nm]
      simp only [List.set_cons_succ, List.set_cons_zero]
      have hgm := List.mem_of_getElem? hg
      have hjl : j < 15 := by
        have q1 := (List.getElem?_eq_some_iff.mp hg).1
        have q2 : (grps m).length ≤ 15 := by rcases hm with rfl | rfl | rfl | rfl <;> decide
        omega
      obtain ⟨a', kvs', k1, k2, k3, k4, k5⟩ := costs_turn (n := n) (fu := fu) (row := row) hb wf hps hpl (grps_ix hm g hgm) (grps_len hm g hgm).1 (a := a) h1 (by omega) x5
      refine ⟨_, _, k1, a', kvs', _, _, rfl, rfl, k2, by omega, fun g' hg' => ?_⟩
      rw [Nat.zero_add, take_succ hg] at hg'
      rcases List.mem_append.mp hg' with q | q
      · exact k4 _ (h3 g' (by rw [Nat.zero_add]; exact q))
      · rw [List.mem_singleton.mp q]; exact k5) ⟨a1, [], none, none, rfl, rfl, (fun p hp => by cases hp), by simp, (fun g hg => by cases hg)⟩
  obtain ⟨ρ', st', hl, a2, kvs, x4, x5, e2, e3, h1, h2, h3⟩ := lp
  rw [Nat.zero_add, List.length_map, List.take_length] at h3
  rw [e3] at hl
  have hv : ∀ g ∈ grps m, ∃ v : Int, valK kvs g = some (.py (.int v)) ∧ 0 ≤ v ∧ v ≤ 60 := fun g hg => by
    obtain ⟨d, hd⟩ := Option.isSome_iff_exists.mp (h3 g hg)
    unfold valK at hd
    obtain ⟨p, hp, rfl⟩ := Option.map_eq_some_iff.mp hd
    obtain ⟨v, e, v0, v1⟩ := h1 p (List.mem_of_find?_eq_some hp)
    refine ⟨v, ?_, v0, v1⟩
    unfold valK
    rw [hp, ← e]; rfl
  refine ⟨a2, kvs, fun g => match valK kvs g with | some (.py (.int v)) => v | _ => 0, ?_, h1, ⟨⟨kvs, Sd.dict, fun g hg => ?_⟩, fun g hg => ?_⟩⟩
  · have ei : evI (lvl T fu (n + 1)) (.e (.call 14 (.cons (.var 1) .nil))) [some (.ref b), some (.py (.int m)), some (.py (.list (ps.map .int))), some (.ref st.length), none, none] (Sd st b row a1 []) = .ok (((grps m).map gT).map .py) (Sd st b row a1 []) :=
      i_e (e_call (es_cons (e_var rfl) es_nil) (lgroups_ok (n := n) (Sd.wf wf (fun p hp => by cases hp)) hm))
    rw [List.map_map] at ei
    have en : ev (lvl T fu (n + 1)) .dnew [some (.ref b), some (.py (.int m)), some (.py (.list (ps.map .int))), none, none, none] (st.set b (boxC row a1)) = .ok (.ref st.length) (Sd st b row a1 []) := by
      unfold ev
      rw [List.length_set]; rfl
    show runFn (lvl T fu (n + 1)) fu 2 6 c16 [.ref b, .py (.int m)] st = _
    rw [e2] at hl
    refine run_at (ar := 2) (sl := 6) (b := c16) (ds := [.ref b, .py (.int m)]) (ρ0 := [some (.ref b), some (.py (.int m)), none, none, none, none]) (ρ := [some (.ref b), some (.py (.int m)), some (.py (.list (ps.map .int))), some (.ref st.length), x4, x5]) rfl rfl ((st_nx (s_set e1)).trans ((st_nx (s_set en)).trans ((st_nx ((s_for ei).trans hl)).trans (st_fl (s_ret (e_ref rfl Sd.dict (by intro p z; cases z))) (fun z => by cases z))))) trim_ref
  · obtain ⟨v, e, _⟩ := hv g hg
    simp only [e]
  · obtain ⟨v, e, v0, v1⟩ := hv g hg
    simp only [e]
    exact ⟨v0, v1⟩
end
end La
set_option maxHeartbeats 1000000
namespace La
open PySem Ev
theorem Cost.set {st : Store} {c m b : Nat} {C : List Int → Int} (h : Cost st c m C) (hb : c ≠ b) (x : Cell) : Cost (st.set b x) c m C := by
  obtain ⟨⟨kvs, h1, h2⟩, h3⟩ := h
  exact ⟨⟨kvs, by rw [List.getElem?_set_ne (fun z => hb z.symm)]; exact h1, h2⟩, h3⟩
theorem Cost.app {st : Store} {c m : Nat} {C : List Int → Int} (h : Cost st c m C) (l : Store) : Cost (st ++ l) c m C := by
  obtain ⟨⟨kvs, h1, h2⟩, h3⟩ := h
  exact ⟨⟨kvs, by rw [List.getElem?_append_left (List.getElem?_eq_some_iff.mp h1).1]; exact h1, h2⟩, h3⟩
theorem frac_ex {n fu : Nat} {st : Store} {a b : Int} (wf : WF st) (hb : 0 < b) (hb2 : b < 1000) (hf : 1000 < fu) : ∃ p q : Int, lvl T fu (n + 1) 15 [.py (.int a), .py (.int b)] st = .ok (fr p q) st ∧ 0 < q ∧ q ≤ b := by
  obtain ⟨_, h1, h2, _⟩ := red_div (a := a) (b := b) (S := 0) (K := 0) hb (by simp)
  exact ⟨_, _, frac_ok wf (by omega) hb (by omega), h1, h2⟩
/-- the store with a box at b and a list at the end -/
def So (st : Store) (b : Nat) (row : List Int) (a : Nat) (sh : Fr) : Store := st.set b (boxC row a) ++ [.lst (sh.map fun s => .py (frP s))]
section
variable {st : Store} {b : Nat} {row : List Int} {a : Nat} {sh : Fr}
theorem So.box (hb : b < st.length) : (So st b row a sh)[b]? = some (boxC row a) := by
  unfold So
  rw [List.getElem?_append_left (by rw [List.length_set]; exact hb), List.getElem?_set_self hb]
theorem So.lst : (So st b row a sh)[st.length]? = some (.lst (sh.map fun s => .py (frP s))) := by
  unfold So
  rw [List.getElem?_append_right (by rw [List.length_set]; exact Nat.le_refl _), List.length_set, Nat.sub_self]
  rfl
theorem So.set_box (hb : b < st.length) (a' : Nat) : (So st b row a sh).set b (boxC row a') = So st b row a' sh := by
  unfold So
  rw [List.set_append_left _ _ (by rw [List.length_set]; exact hb), List.set_set]
theorem So.app (hl : sh.length < 100) (s : Int × Int) : appD (So st b row a sh) (.ref st.length) (.py (frP s)) = some (So st b row a (sh ++ [s])) := by
  simp only [appD, So.lst]
  rw [if_pos (by rw [List.length_map]; show _ < 16777216; omega)]
  unfold So
  rw [List.set_append_right _ _ (by rw [List.length_set]; exact Nat.le_refl _), List.length_set, Nat.sub_self, List.map_append]
  rfl
theorem So.isl : isLst (So st b row a sh) (.ref st.length) = true := by
  unfold isLst
  simp only [So.lst]
theorem So.wf (wf : WF st) : WF (So st b row a sh) := by
  unfold So
  refine WF.app (WF.set wf rfl) ?_
  show (sh.map _).all _ = true
  rw [List.all_eq_true]
  intro p hp
  obtain ⟨v, _, rfl⟩ := List.mem_map.mp hp
  rfl
theorem So.frz : frzD 6 (So st b row a sh) (.ref st.length) = some (.list (sh.map frP), st.set b (boxC row a) ++ [.frz (.list (sh.map frP))]) := by
  have go : ∀ (k : Nat) (l : Fr) (acc : List PD) (s : Store), (l.map fun s => D.py (frP s)).foldlM (fun (p : List PD × Store) d => (frzD k p.2 d).map fun q => (p.1 ++ [q.1], q.2)) (acc, s) = some (acc ++ l.map frP, s) := by
    intro k l
    induction l with
    | nil => intro acc s; simp
    | cons a r ih =>
      intro acc s
      simp only [List.map_cons, List.foldlM_cons]
      have e : frzD k s (.py (frP a)) = some (frP a, s) := by cases k <;> rfl
      rw [e]
      show List.foldlM _ (acc ++ [frP a], s) _ = _
      rw [ih]
      simp
  unfold frzD
  rw [So.lst]
  simp only
  rw [go 5 sh [] _]
  unfold So
  simp only [Option.map_some, List.nil_append]
  rw [List.set_append_right _ _ (by rw [List.length_set]; exact Nat.le_refl _), List.length_set, Nat.sub_self]
  rfl
end
section
variable {n fu b c m : Nat} {st : Store} {row : List Int} {C : List Int → Int}
theorem drawO {a : Nat} {sh : Fr} {k : Int} {ρ : EnvD} {i : Nat} (hb : b < st.length) (wf : WF st) (hk : 0 < k) (hi : ρ[i]? = some (some (.ref b))) :
    ev (lvl T fu (n + 1)) (.call 12 (.cons (.var i) (.cons (.con (.int k)) .nil))) ρ (So st b row a sh) = .ok (.py (.int (dv row a k))) (So st b row (a + 1) sh) := by
  have e := drawE (n := n) (fu := fu) (k := k) (i := i) (ρ := ρ) (So.box (row := row) (a := a) (sh := sh) hb) (So.wf wf) hk hi
  rwa [So.set_box hb] at e
theorem single_mem (hm : m = 1 ∨ m = 2 ∨ m = 3 ∨ m = 4) {k : Nat} (hk : k < m) : [(k : Int)] ∈ grps m := by
  rcases hm with rfl | rfl | rfl | rfl
  · have : k = 0 := by omega
    subst this; decide
  · have : k = 0 ∨ k = 1 := by omega
    rcases this with rfl | rfl <;> decide
  · have : k = 0 ∨ k = 1 ∨ k = 2 := by omega
    rcases this with rfl | rfl | rfl <;> decide
  · have : k = 0 ∨ k = 1 ∨ k = 2 ∨ k = 3 := by omega
    rcases this with rfl | rfl | rfl | rfl <;> decide
theorem off_turn (hb : b < st.length) (wf : WF st) (hc : Cost st c m C) (hcb : c ≠ b) (hf : 1000 < fu) {k : Nat} (hk : [(k : Int)] ∈ grps m) {a : Nat} {sh : Fr} {p q : Int} (hq : 0 < q ∧ q ≤ 27) (hl : sh.length < 50) (x6 : Option D) :
    ∃ (a' : Nat) (s : Int × Int) (p' q' : Int), exs (lvl T fu (n + 1)) fu c21b1 [some (.ref b), some (.ref c), some (.py (.int m)), some (.ref st.length), some (fr p q), some (.py (.int k)), x6] (So st b row a sh) = .go .nx [some (.ref b), some (.ref c), some (.py (.int m)), some (.ref st.length), some (fr p' q'), some (.py (.int k)), some (.py (frP s))] (So st b row a' (sh ++ [s])) ∧
      0 < s.2 ∧ s.2 ≤ 3 ∧ 0 < q' ∧ q' ≤ q * 3 := by
  have hC : ∀ {a : Nat} {sh : Fr}, Cost (So st b row a sh) c m C := fun {a sh} => (hc.set hcb _).app _
  have bd := hc.bd _ hk
  obtain ⟨p1, q1, f1, f2, f3⟩ := frac_ex (n := n) (fu := fu) (a := 2 * C [(k : Int)] - dv row a 9 + dv row (a + 1) 2) (b := 2) (So.wf (b := b) (row := row) (a := a + 2) (sh := sh) wf) (by omega) (by omega) hf
  have e1 := s_set (fu := fu) (i := 6) (e := .call 15 (.cons (.bin .add (.bin .sub (.bin .mul (.con (.int 2)) (.ix (.var 1) (.tup (.cons (.var 5) .nil)))) (.call 12 (.cons (.var 0) (.cons (.con (.int 9)) .nil)))) (.call 12 (.cons (.var 0) (.cons (.con (.int 2)) .nil)))) (.cons (.con (.int 2)) .nil))) (ρ := [some (.ref b), some (.ref c), some (.py (.int m)), some (.ref st.length), some (fr p q), some (.py (.int k)), x6]) (e_call (es_cons (e_bin (e_bin (e_bin e_con (e_ix (hC.ev rfl) (e_tup (es_cons (e_var rfl) es_nil)) (hC.ix hk)) (b_mulL (small_of (by omega) (by omega)))) (drawO hb wf (by omega) rfl) b_sub) (drawO hb wf (by omega) rfl) b_add) (es_cons e_con es_nil)) f1)
  have t := t_b (e_cmp (drawO (n := n) (fu := fu) (ρ := [some (.ref b), some (.ref c), some (.py (.int m)), some (.ref st.length), some (fr p q), some (.py (.int k)), some (fr p1 q1)]) (i := 0) (k := 3) (row := row) (a := a + 2) (sh := sh) hb wf (by omega) rfl) e_con (c_eqI (j := 0)))
  obtain ⟨a2, p2, q2, e2, g2, g3⟩ : ∃ (a2 : Nat) (p2 q2 : Int), ex (lvl T fu (n + 1)) fu (.ife (.v (.cmp .eq (.call 12 (.cons (.var 0) (.cons (.con (.int 3)) .nil))) (.con (.int 0)))) c21b0 .nil) [some (.ref b), some (.ref c), some (.py (.int m)), some (.ref st.length), some (fr p q), some (.py (.int k)), some (fr p1 q1)] (So st b row (a + 2) sh)
      = .go .nx [some (.ref b), some (.ref c), some (.py (.int m)), some (.ref st.length), some (fr p q), some (.py (.int k)), some (fr p2 q2)] (So st b row a2 sh) ∧ 0 < q2 ∧ q2 ≤ 3 := by
    cases z : decide (dv row (a + 2) 3 = 0) with
    | true =>
      rw [z] at t
      obtain ⟨p2, q2, f4, f5, f6⟩ := frac_ex (n := n) (fu := fu) (a := 3 * C [(k : Int)] - dv row (a + 2 + 1) 14) (b := 3) (So.wf (b := b) (row := row) (a := a + 4) (sh := sh) wf) (by omega) (by omega) hf
      exact ⟨_, p2, q2, (s_ift t).trans ((st_nx (s_set (e_call (es_cons (e_bin (e_bin e_con (e_ix (hC.ev rfl) (e_tup (es_cons (e_var rfl) es_nil)) (hC.ix hk)) (b_mulL (small_of (by omega) (by omega)))) (drawO hb wf (by omega) rfl) b_sub) (es_cons e_con es_nil)) f4))).trans s_nil), f5, by omega⟩
    | false =>
      rw [z] at t
      exact ⟨_, p1, q1, (s_iff t).trans s_nil, f2, by omega⟩
  have hrf : ev (lvl T fu (n + 1)) (.var 3) [some (.ref b), some (.ref c), some (.py (.int m)), some (.ref st.length), some (fr p q), some (.py (.int k)), some (fr p2 q2)] (So st b row a2 sh) = .ok (.ref st.length) (So st b row a2 sh) := e_ref rfl So.lst (by intro p z; cases z)
  have hqq : 0 < q * q2 := Int.mul_pos hq.1 g2
  have hqq2 : q * q2 ≤ q * 3 := Int.mul_le_mul_of_nonneg_left g3 (by omega)
  obtain ⟨p3, q3, f7, f8, f9⟩ := frac_ex (n := n) (fu := fu) (a := p * q2 - p2 * q) (b := q * q2) (So.wf (b := b) (row := row) (a := a2) (sh := sh ++ [(p2, q2)]) wf) hqq (by omega) hf
  have e4 := s_set (fu := fu) (i := 4) (e := .call 15 (.cons (.bin .sub (.bin .mul (.ix (.var 4) (.con (.int 0))) (.ix (.var 6) (.con (.int 1)))) (.bin .mul (.ix (.var 6) (.con (.int 0))) (.ix (.var 4) (.con (.int 1))))) (.cons (.bin .mul (.ix (.var 4) (.con (.int 1))) (.ix (.var 6) (.con (.int 1)))) .nil))) (ρ := [some (.ref b), some (.ref c), some (.py (.int m)), some (.ref st.length), some (fr p q), some (.py (.int k)), some (fr p2 q2)]) (e_call (es_cons (e_bin (e_bin (e_ix (e_var rfl) e_con fr_ix0) (e_ix (e_var rfl) e_con fr_ix1) (b_mulR (small_of (by omega) (by omega)))) (e_bin (e_ix (e_var rfl) e_con fr_ix0) (e_ix (e_var rfl) e_con fr_ix1) (b_mulR (small_of (by omega) (by omega)))) b_sub) (es_cons (e_bin (e_ix (e_var rfl) e_con fr_ix1) (e_ix (e_var rfl) e_con fr_ix1) (b_mulR (small_of (by omega) (by omega)))) es_nil)) f7)
  exact ⟨a2, (p2, q2), p3, q3, (st_nx e1).trans ((st_nx e2).trans ((st_nx (s_app hrf So.isl (e_var rfl) (So.app (by omega) (p2, q2)))).trans ((st_nx e4).trans s_nil))), g2, g3, f8, by omega⟩
theorem offered_ok {a : Nat} (hst : st[b]? = some (boxC row a)) (wf : WF st) (hc : Cost st c m C) (hcb : c ≠ b) (hm : m = 1 ∨ m = 2 ∨ m = 3 ∨ m = 4) (hf : 1000 < fu) : ∃ (a' : Nat) (sh : Fr),
    lvl T fu (n + 2) 21 [.ref b, .ref c, .py (.int m)] st = .ok (.py (.list (sh.map frP))) (st.set b (boxC row a')) ∧ sh.length = m ∧ ∀ s ∈ sh, 0 < s.2 ∧ s.2 ≤ 60 := by
  have hb : b < st.length := (List.getElem?_eq_some_iff.mp hst).1
  have hall := allg_mem hm
  have hC : ∀ {a : Nat} {sh : Fr}, Cost (So st b row a sh) c m C := fun {a sh} => (hc.set hcb _).app _
  have e0 : ev (lvl T fu (n + 1)) (.cell (.lst .nil)) [some (.ref b), some (.ref c), some (.py (.int m)), none, none, none, none] st = .ok (.ref st.length) (So st b row a []) := by
    rw [e_cell (l_lst es_nil (by decide))]
    unfold So
    rw [set_self hst]; rfl
  obtain ⟨p0, q0, f1, f2, f3⟩ := frac_ex (n := n) (fu := fu) (a := C (allg m)) (b := 1) (So.wf (b := b) (row := row) (a := a) (sh := []) wf) (by omega) (by omega) hf
  have e1 := s_set (fu := fu) (i := 4) (e := .call 15 (.cons (.ix (.var 1) (.trng (.var 2))) (.cons (.con (.int 1)) .nil))) (ρ := [some (.ref b), some (.ref c), some (.py (.int m)), some (.ref st.length), none, none, none]) (e_call (es_cons (e_ix (hC.ev rfl) (e_trng (e_var rfl) (by omega)) (by rw [gT_all]; exact hC.ix hall)) (es_cons e_con es_nil)) f1)
  have lp := for_inv (f := fun d ρ st => bindT (.nm 5) st d ρ (exs (lvl T fu (n + 1)) fu c21b1))
    (fun i ρ s => ∃ (a : Nat) (sh : Fr) (p q : Int) (x5 x6 : Option D), ρ = [some (.ref b), some (.ref c), some (.py (.int m)), some (.ref st.length), some (fr p q), x5, x6] ∧ s = So st b row a sh ∧ sh.length = i ∧ (∀ s ∈ sh, 0 < s.2 ∧ s.2 ≤ 60) ∧ 0 < q ∧ q ≤ 3 ^ i) (rangeD 0 ((m : Int) - 1)) 0
    (ρ := [some (.ref b), some (.ref c), some (.py (.int m)), some (.ref st.length), some (fr p0 q0), none, none]) (st := So st b row a []) (fun j d ρ s hj ⟨a, sh, p, q, x5, x6, e1, e2, h1, h2, h3, h4⟩ => by
      obtain ⟨hj', rfl⟩ := rangeD_at hj
      rw [e1, e2, bind_nm, Int.zero_add]
      simp only [List.set_cons_succ, List.set_cons_zero]
      rw [Nat.zero_add] at h1 h4
      have hq : q ≤ 9 := by
        have : j = 0 ∨ j = 1 ∨ j = 2 := by omega
        rcases this with rfl | rfl | rfl <;> exact Int.le_trans h4 (by decide)
      obtain ⟨a', s, p', q', k1, k2, k3, k4, k5⟩ := off_turn (n := n) (fu := fu) (row := row) hb wf hc hcb hf (k := j) (single_mem hm (by omega)) (a := a) (sh := sh) (p := p) (q := q) ⟨h3, by omega⟩ (by omega) x6
      refine ⟨_, _, k1, a', sh ++ [s], p', q', _, _, rfl, rfl, by rw [List.length_append, h1]; simp, fun s' hs' => ?_, k4, ?_⟩
      · rcases List.mem_append.mp hs' with z | z
        · exact h2 s' z
        · rw [List.mem_singleton.mp z]; exact ⟨k2, by omega⟩
      · rw [Nat.zero_add, Int.pow_succ]
        omega) ⟨a, [], p0, q0, none, none, rfl, rfl, rfl, fun s hs => (by cases hs), f2, by simpa using f3⟩
  obtain ⟨ρ', st', hl, a2, sh, p, q, x5, x6, e2, e3, h1, h2, h3, h4⟩ := lp
  rw [Nat.zero_add, rangeD_len] at h1 h4
  rw [e2, e3] at hl
  have hq : q ≤ 27 := by
    have : ((m : Int) - 1 - 0).toNat = 0 ∨ ((m : Int) - 1 - 0).toNat = 1 ∨ ((m : Int) - 1 - 0).toNat = 2 ∨ ((m : Int) - 1 - 0).toNat = 3 := by omega
    rcases this with z | z | z | z <;> rw [z] at h4 <;> exact Int.le_trans h4 (by decide)
  have t := t_b (e_cmp (drawO (n := n) (fu := fu) (ρ := [some (.ref b), some (.ref c), some (.py (.int m)), some (.ref st.length), some (fr p q), x5, x6]) (i := 0) (k := 5) (row := row) (a := a2) (sh := sh) hb wf (by omega) rfl) e_con (c_eqI (j := 0)))
  obtain ⟨a3, p3, q3, e5, g2, g3⟩ : ∃ (a3 : Nat) (p3 q3 : Int), ex (lvl T fu (n + 1)) fu (.ife (.v (.cmp .eq (.call 12 (.cons (.var 0) (.cons (.con (.int 5)) .nil))) (.con (.int 0)))) c21b2 .nil) [some (.ref b), some (.ref c), some (.py (.int m)), some (.ref st.length), some (fr p q), x5, x6] (So st b row a2 sh)
      = .go .nx [some (.ref b), some (.ref c), some (.py (.int m)), some (.ref st.length), some (fr p3 q3), x5, x6] (So st b row a3 sh) ∧ 0 < q3 ∧ q3 ≤ 60 := by
    cases z : decide (dv row a2 5 = 0) with
    | true =>
      rw [z] at t
      obtain ⟨p3, q3, f7, f8, f9⟩ := frac_ex (n := n) (fu := fu) (a := p * 2 - q) (b := q * 2) (So.wf (b := b) (row := row) (a := a2 + 1) (sh := sh) wf) (by omega) (by omega) hf
      exact ⟨_, p3, q3, (s_ift t).trans ((st_nx (s_set (e_call (es_cons (e_bin (e_bin (e_ix (e_var rfl) e_con fr_ix0) e_con (b_mulR (small_of (by omega) (by omega)))) (e_ix (e_var rfl) e_con fr_ix1) b_sub) (es_cons (e_bin (e_ix (e_var rfl) e_con fr_ix1) e_con (b_mulR (small_of (by omega) (by omega)))) es_nil)) f7))).trans s_nil), f8, by omega⟩
    | false =>
      rw [z] at t
      exact ⟨_, p, q, (s_iff t).trans s_nil, h3, by omega⟩
  have efz : ev (lvl T fu (n + 1)) (.frz (.var 3)) [some (.ref b), some (.ref c), some (.py (.int m)), some (.ref st.length), some (fr p3 q3), x5, x6] (So st b row a3 sh) = .ok (.py (.list (sh.map frP))) (st.set b (boxC row a3) ++ [.frz (.list (sh.map frP))]) := by
    have hrf : ev (lvl T fu (n + 1)) (.var 3) [some (.ref b), some (.ref c), some (.py (.int m)), some (.ref st.length), some (fr p3 q3), x5, x6] (So st b row a3 sh) = .ok (.ref st.length) (So st b row a3 sh) := e_ref rfl So.lst (by intro p z; cases z)
    unfold ev
    rw [hrf, Rs.bind_ok, So.frz]
  refine ⟨a3, sh ++ [(p3, q3)], ?_, by rw [List.length_append]; simp; omega, fun s hs => ?_⟩
  · show runFn (lvl T fu (n + 1)) fu 3 7 c21 [.ref b, .ref c, .py (.int m)] st = _
    have tr := trim_py (d := .list ((sh ++ [(p3, q3)]).map frP)) (st := st.set b (boxC row a3)) [.frz (.list (sh.map frP))] (WF.set wf rfl)
    rw [List.length_set] at tr
    have er : ev (lvl T fu (n + 1)) (.bin .add (.frz (.var 3)) (.li (.lst (.cons (.var 4) .nil)))) [some (.ref b), some (.ref c), some (.py (.int m)), some (.ref st.length), some (fr p3 q3), x5, x6] (So st b row a3 sh) = .ok (.py (.list ((sh ++ [(p3, q3)]).map frP))) (st.set b (boxC row a3) ++ [.frz (.list (sh.map frP))]) := by
      refine e_bin efz (e_li (l_lst (es_cons (e_var rfl) es_nil) (show 1 ≤ 16777216 by decide)) rfl) ?_
      rw [b_ladd (by rw [List.length_map]; show _ + 1 ≤ 16777216; omega), List.map_append]
      rfl
    refine run_at (ar := 3) (sl := 7) (b := c21) (ds := [.ref b, .ref c, .py (.int m)]) (ρ0 := [some (.ref b), some (.ref c), some (.py (.int m)), none, none, none, none]) (ρ := [some (.ref b), some (.ref c), some (.py (.int m)), some (.ref st.length), some (fr p3 q3), x5, x6]) rfl rfl ((st_nx (s_set e0)).trans ((st_nx e1).trans ((st_nx ((s_for (i_rng (e_bin (e_var rfl) e_con b_sub) (fit_of (by omega) (by omega)))).trans hl)).trans ((st_nx e5).trans (st_fl (s_ret er) (fun z => by cases z)))))) tr
  · rcases List.mem_append.mp hs with z | z
    · exact h2 s z
    · rw [List.mem_singleton.mp z]; exact ⟨g2, g3⟩
end
end La
set_option maxHeartbeats 1000000
namespace La
open PySem Ev
theorem same_ok {n fu : Nat} {st : Store} {p : PD} (wf : WF st) (h : okShow p = true) : lvl T fu (n + 1) 13 [.py p, .py p] st = .ok (.py (.bool true)) st := by
  refine run_ret (ar := 2) (sl := 2) (b := c13) (ρ := [some (.py p), some (.py p)]) rfl ?_ (trim_py0 wf)
  exact st_fl (s_ret (same_refl (e_var rfl) (e_var rfl) h)) (fun z => by cases z)
theorem show_bal {m : Nat} (hm : m = 1 ∨ m = 2 ∨ m = 3) : okShow (balT m) = true := by
  rcases hm with rfl | rfl | rfl <;> exact okShow_of (by decide +kernel) (by decide +kernel) (by decide +kernel)
theorem show_row {m : Nat} (hm : m = 1 ∨ m = 2 ∨ m = 3) : ∀ r ∈ bal m, okShow (rwT r) = true := by
  have h : ∀ r ∈ bal m, sm (rwT r) = true ∧ (rwT r).depth ≤ 64 ∧ nods (rwT r) ≤ 30000 := by
    rcases hm with rfl | rfl | rfl <;> decide +kernel
  intro r hr
  obtain ⟨a, b, c⟩ := h r hr
  exact okShow_of a b c
theorem show_none : okShow .none = true := okShow_of (by decide +kernel) (by decide +kernel) (by decide +kernel)
theorem show_bool (b : Bool) : okShow (.bool b) = true := by cases b <;> exact okShow_of (by decide +kernel) (by decide +kernel) (by decide +kernel)
/-- an answer that can be shown -/
def Shn (d : D) : Prop := ∃ p, d = .py p ∧ okShow p = true
theorem shn_fb {C : List Int → Int} {m : Nat} (hm : m = 1 ∨ m = 2 ∨ m = 3) : Shn (fbT C m) := by
  unfold fbT
  cases h : fb C m with
  | none => exact ⟨_, rfl, show_none⟩
  | some r => exact ⟨_, rfl, show_row hm r (List.mem_of_find?_eq_some h)⟩
theorem sm_fr {l : List Int} (h : ∀ x ∈ l, x.natAbs < 1000000000) : smAll (l.map fun s => PyData.tuple [.int s, .int 1]) = true := by
  induction l with
  | nil => rfl
  | cons a r ih =>
    have h1 := h a List.mem_cons_self
    simp only [List.map_cons, smAll, sm, decide_eq_true h1, ih (fun x hx => h x (List.mem_cons_of_mem _ hx))]
    decide
theorem shn_ss {st : Store} {c m : Nat} {C : List Int → Int} (hc : Cost st c m C) (hm : m = 1 ∨ m = 2 ∨ m = 3) : Shn (ssT C m) := by
  unfold ssT
  cases h : fb C m with
  | some r => exact ⟨_, rfl, show_none⟩
  | none =>
    refine ⟨_, rfl, ?_⟩
    have h1 : ∀ x ∈ ss C m, x.natAbs < 1000000000 := by
      rcases hm with rfl | rfl | rfl
      · have := hc.bd [0] (by decide)
        intro x hx
        rw [List.mem_singleton.mp hx]
        omega
      · have := hc.bd [1] (by decide)
        have := hc.bd [0, 1] (by decide)
        intro x hx
        have hx : x = C [0, 1] - C [1] ∨ x = C [1] := by simpa [ss] using hx
        omega
      · have h0 := hc.bd [0] (by decide)
        have h1 := hc.bd [1] (by decide)
        have h2 := hc.bd [2] (by decide)
        have h3 := hc.bd [0, 1] (by decide)
        have h4 := hc.bd [0, 2] (by decide)
        have h5 := hc.bd [1, 2] (by decide)
        have h6 := hc.bd [0, 1, 2] (by decide)
        have mb : ∀ {i j : Int}, -500 ≤ i → i ≤ 500 → -500 ≤ j → j ≤ 500 → -500 ≤ mx i j ∧ mx i j ≤ 500 := fun {i j} _ _ _ _ => by unfold mx; split <;> omega
        have f1 := mb (i := C [0, 1, 2] - C [1, 2]) (j := C [0, 1, 2] - C [1] - C [2]) (by omega) (by omega) (by omega) (by omega)
        intro x hx
        have hx : x = mx (C [0, 1, 2] - C [1, 2]) (C [0, 1, 2] - C [1] - C [2]) ∨ x = mx (C [0, 1, 2] - C [0, 2]) (C [0, 1, 2] - mx (C [0, 1, 2] - C [1, 2]) (C [0, 1, 2] - C [1] - C [2]) - C [2]) ∨
          x = C [0, 1, 2] - mx (C [0, 1, 2] - C [1, 2]) (C [0, 1, 2] - C [1] - C [2]) - mx (C [0, 1, 2] - C [0, 2]) (C [0, 1, 2] - mx (C [0, 1, 2] - C [1, 2]) (C [0, 1, 2] - C [1] - C [2]) - C [2]) := by
          simpa [ss] using hx
        generalize mx (C [0, 1, 2] - C [1, 2]) (C [0, 1, 2] - C [1] - C [2]) = y at *
        have mb2 : ∀ {i j : Int}, -1000 ≤ i → i ≤ 1000 → -1000 ≤ j → j ≤ 1000 → -1000 ≤ mx i j ∧ mx i j ≤ 1000 := fun {i j} _ _ _ _ => by unfold mx; split <;> omega
        have f2 := mb2 (i := C [0, 1, 2] - C [0, 2]) (j := C [0, 1, 2] - y - C [2]) (by omega) (by omega) (by omega) (by omega)
        generalize mx (C [0, 1, 2] - C [0, 2]) (C [0, 1, 2] - y - C [2]) = z at *
        omega
    refine okShow_of ?_ ?_ ?_
    · show sm (.list _) = true
      unfold sm
      exact sm_fr h1
    · rcases hm with rfl | rfl | rfl <;> (simp only [shT, ss, List.map_cons, List.map_nil, PyData.depth, PyData.depthAll]; decide)
    · rcases hm with rfl | rfl | rfl <;> (simp only [shT, ss, List.map_cons, List.map_nil, nods, nodsAll]; decide)
section
variable {n k : Nat} {st : Store} {ns row : List Int}
theorem e_sv {i : Nat} {Δ : Dn} {ρ : EnvD} {d : D} {st : Store} (h : ρ[i]? = some (some d)) (hd : Shn d) : ev Δ (.var i) ρ st = .ok d st := by
  obtain ⟨p, rfl, _⟩ := hd
  exact e_var h
theorem sameE {fu : Nat} {ρ : EnvD} {a b : E} {d : D} {st st1 st' : Store} (h1 : ev (lvl T fu (n + 1)) a ρ st = .ok d st1) (h2 : ev (lvl T fu (n + 1)) b ρ st1 = .ok d st') (hd : Shn d) (wf : WF st') : evT (lvl T fu (n + 1)) (.nt (.v (.call 13 (.cons a (.cons b .nil))))) ρ st = .ok false st' := by
  obtain ⟨p, rfl, h⟩ := hd
  exact t_nt (k := true) (t_b (e_call (es_cons h1 (es_cons h2 es_nil)) (same_ok wf h)))
theorem turn1 (hk : 100000000 < k) {a : Nat} (hst : st[0]? = some (boxC row a)) (wf : WF st) (hl : st.length < 9) (x2 x3 x4 x5 x6 x7 x8 : Option D) : ∃ (a' : Nat) (kvs : Kv) (y3 y4 y5 y6 : Option D),
    exs (lvl T (k + 40) (n + 7)) (k + 40) c22b2 [some (.scr ns), some (.ref 0), x2, x3, x4, x5, x6, x7, x8] st = .go .nx [some (.scr ns), some (.ref 0), x2, y3, y4, y5, y6, x7, x8] (Sd st 0 row a' kvs) ∧ KvOk kvs := by
  have hb : 0 < st.length := (List.getElem?_eq_some_iff.mp hst).1
  have d3 := dv_bd (row := row) (a := a) (m := 3) (by omega)
  obtain ⟨m, hm⟩ : ∃ m : Nat, 1 + dv row a 3 = (m : Int) := ⟨(1 + dv row a 3).toNat, by omega⟩
  have hm3 : m = 1 ∨ m = 2 ∨ m = 3 := by omega
  have hm4 : m = 1 ∨ m = 2 ∨ m = 3 ∨ m = 4 := by omega
  obtain ⟨a', kvs, C, e4, hv, hc⟩ := costs_ok (n := n + 5) (fu := k + 40) (m := m) (st := st.set 0 (boxC row (a + 1))) (b := 0) (List.getElem?_set_self hb) (WF.set wf rfl) hm4
  have eS : Sd (st.set 0 (boxC row (a + 1))) 0 row a' kvs = Sd st 0 row a' kvs := by unfold Sd; rw [List.set_set]
  rw [eS, List.length_set] at e4 hc
  have wf' : WF (Sd st 0 row a' kvs) := Sd.wf wf hv
  have hlen : (Sd st 0 row a' kvs).length < 10 := by rw [Sd.len]; omega
  obtain ⟨q1, q2⟩ := lsT_eq (C := C) hm3
  have s1 := s_set (fu := k + 40) (i := 3) (e := .bin .add (.con (.int 1)) (.call 12 (.cons (.var 1) (.cons (.con (.int 3)) .nil)))) (ρ := [some (.scr ns), some (.ref 0), x2, x3, x4, x5, x6, x7, x8]) (e_bin e_con (drawE (n := n + 6) (fu := k + 40) (k := 3) (i := 1) hst wf (by omega) rfl) (b_add.trans (by rw [hm])))
  have hbox : ∀ {ρ : EnvD}, ρ[1]? = some (some (.ref 0)) → ev (lvl T (k + 40) (n + 7)) (.var 1) ρ (st.set 0 (boxC row (a + 1))) = .ok (.ref 0) (st.set 0 (boxC row (a + 1))) := fun {ρ} h => e_ref h (List.getElem?_set_self hb) (by intro p z; cases z)
  have s2 := s_set (fu := k + 40) (i := 4) (e := .call 16 (.cons (.var 1) (.cons (.var 3) .nil))) (ρ := [some (.scr ns), some (.ref 0), x2, some (.py (.int m)), x4, x5, x6, x7, x8]) (e_call (es_cons (hbox rfl) (es_cons (e_var rfl) es_nil)) e4)
  have s3 := s_set (fu := k + 40) (i := 5) (e := .call 18 (.cons (.var 4) (.cons (.var 3) .nil))) (ρ := [some (.scr ns), some (.ref 0), x2, some (.py (.int m)), some (.ref st.length), x5, x6, x7, x8]) (e_call (es_cons (hc.ev rfl) (es_cons (e_var rfl) es_nil)) (barred_ok (n := n + 5) (fu := k + 40) wf' hc hm3))
  have s4 := s_set (fu := k + 40) (i := 6) (e := .call 20 (.cons (.var 4) (.cons (.var 3) .nil))) (ρ := [some (.scr ns), some (.ref 0), x2, some (.py (.int m)), some (.ref st.length), some (fbT C m), x6, x7, x8]) (e_call (es_cons (hc.ev rfl) (es_cons (e_var rfl) es_nil)) (least_ok (n := n + 4) (fu := k + 40) wf' hc hm3))
  have t1 := sameE (n := n + 6) (fu := k + 40) (a := .call 6 (.cons (.var 3) .nil)) (b := .call 17 (.cons (.var 3) .nil)) (ρ := [some (.scr ns), some (.ref 0), x2, some (.py (.int m)), some (.ref st.length), some (fbT C m), some (lsT C m), x7, x8]) (e_call (es_cons (e_var rfl) es_nil) (bal_ok (n := n + 6) wf' hlen hm3)) (e_call (es_cons (e_var rfl) es_nil) (lbal_ok (n := n + 6) wf' hm3)) ⟨_, rfl, show_bal hm3⟩ wf'
  have t2 := sameE (n := n + 6) (fu := k + 40) (a := .call 7 (.cons (.var 4) (.cons (.var 3) .nil))) (b := .var 5) (ρ := [some (.scr ns), some (.ref 0), x2, some (.py (.int m)), some (.ref st.length), some (fbT C m), some (lsT C m), x7, x8]) (e_call (es_cons (hc.ev rfl) (es_cons (e_var rfl) es_nil)) (unstable_ok (n := n + 3) wf' hlen hc hm3 (by omega))) (e_sv rfl (shn_fb hm3)) (shn_fb hm3) wf'
  have s5 := (s_iff (a := c22b0) (fu := k + 40) (t_or t1 (fun _ => t2) (fun z => by cases z))).trans s_nil
  have e8 : ev (lvl T (k + 40) (n + 7)) (.var 6) [some (.scr ns), some (.ref 0), x2, some (.py (.int m)), some (.ref st.length), some (fbT C m), some (lsT C m), x7, x8] (Sd st 0 row a' kvs) = .ok (ssT C m) (Sd st 0 row a' kvs) := by
    rw [q1]
    exact e_sv rfl (shn_ss hc hm3)
  have t3 := sameE (n := n + 6) (fu := k + 40) (a := .call 8 (.cons (.var 4) (.cons (.var 3) .nil))) (b := .var 6) (ρ := [some (.scr ns), some (.ref 0), x2, some (.py (.int m)), some (.ref st.length), some (fbT C m), some (lsT C m), x7, x8]) (e_call (es_cons (hc.ev rfl) (es_cons (e_var rfl) es_nil)) (shares_ok (n := n + 2) wf' hlen hc hm3 (by omega))) e8 (shn_ss hc hm3) wf'
  have t4 : evT (lvl T (k + 40) (n + 7)) (.v (.cmp .ne (.isc .none false (.var 6)) (.isc .none true (.var 5)))) [some (.scr ns), some (.ref 0), x2, some (.py (.int m)), some (.ref st.length), some (fbT C m), some (lsT C m), x7, x8] (Sd st 0 row a' kvs) = .ok false (Sd st 0 row a' kvs) := by
    have i6 : isc .none (lsT C m) = some (fb C m).isSome := by
      rw [← q2]
      unfold lsT
      cases ls C m <;> rfl
    have i5 : isc .none (fbT C m) = some (fb C m).isNone := by
      unfold fbT
      cases fb C m <;> rfl
    refine t_b (e_cmp (e_isc (by rw [q1] at e8 ⊢; exact e8) i6) (e_isc (e_sv rfl (shn_fb hm3)) i5) ?_)
    cases fb C m <;> (simp only [cop, val, valF_py, PyData.eqv]; rfl)
  have s6 := (s_iff (a := c22b1) (fu := k + 40) (t_or t3 (fun _ => t4) (fun z => by cases z))).trans s_nil
  exact ⟨a', kvs, _, _, _, _, (st_nx s1).trans ((st_nx s2).trans ((st_nx s3).trans ((st_nx s4).trans ((st_nx s5).trans ((st_nx s6).trans s_nil))))), hv⟩
theorem turn3 (hk : 100000000 < k) {m c : Nat} {C : List Int → Int} (hm : m = 1 ∨ m = 2 ∨ m = 3 ∨ m = 4) {a : Nat} (hst : st[0]? = some (boxC row a)) (wf : WF st) (hl : st.length < 10) (hc : Cost st c m C) (hc0 : c ≠ 0) (x2 x5 x6 x7 x8 : Option D) : ∃ (a' : Nat) (y8 : Option D),
    exs (lvl T (k + 40) (n + 7)) (k + 40) c22b4 [some (.scr ns), some (.ref 0), x2, some (.py (.int m)), some (.ref c), x5, x6, x7, x8] st = .go .nx [some (.scr ns), some (.ref 0), x2, some (.py (.int m)), some (.ref c), x5, x6, x7, y8] (st.set 0 (boxC row a')) := by
  obtain ⟨a', sh, e1, h1, h2⟩ := offered_ok (n := n + 5) (fu := k + 40) hst wf hc hc0 hm (by omega)
  have hbox : ∀ {ρ : EnvD}, ρ[1]? = some (some (.ref 0)) → ev (lvl T (k + 40) (n + 7)) (.var 1) ρ st = .ok (.ref 0) st := fun {ρ} h => e_ref h hst (by intro p z; cases z)
  have hc' := hc.set hc0 (boxC row a')
  have wf' : WF (st.set 0 (boxC row a')) := WF.set wf rfl
  have hK : 0 < com sh := by
    have go : ∀ (l : Fr) (x : Int), 0 < x → (∀ s ∈ l, 0 < s.2) → 0 < (l.map (·.2)).foldl (· * ·) x := by
      intro l
      induction l with
      | nil => intro x hx _; exact hx
      | cons s r ih => intro x hx h; exact ih (x * s.2) (Int.mul_pos hx (h s List.mem_cons_self)) fun s hs => h s (List.mem_cons_of_mem _ hs)
    exact go sh 1 (by omega) fun s hs => (h2 s hs).1
  have s1 := s_set (fu := k + 40) (i := 8) (e := .call 21 (.cons (.var 1) (.cons (.var 4) (.cons (.var 3) .nil)))) (ρ := [some (.scr ns), some (.ref 0), x2, some (.py (.int m)), some (.ref c), x5, x6, x7, x8]) (e_call (es_cons (hbox rfl) (es_cons (hc.ev rfl) (es_cons (e_var rfl) es_nil))) e1)
  have t := sameE (n := n + 6) (fu := k + 40) (a := .call 5 (.cons (.var 4) (.cons (.var 3) (.cons (.var 8) .nil)))) (b := .call 19 (.cons (.var 4) (.cons (.var 3) (.cons (.var 8) .nil)))) (ρ := [some (.scr ns), some (.ref 0), x2, some (.py (.int m)), some (.ref c), x5, x6, x7, some (.py (.list (sh.map frP)))])
    (e_call (es_cons (hc'.ev rfl) (es_cons (e_var rfl) (es_cons (e_var rfl) es_nil))) (stable_ok (n := n + 2) (k := k) wf' (by rw [List.length_set]; exact hl) hc' hm h1 h2 hK hk)) (e_call (es_cons (hc'.ev rfl) (es_cons (e_var rfl) (es_cons (e_var rfl) es_nil))) (lstable_ok (n := n + 5) wf' hc' hm h1 (fun s hs => ⟨(h2 s hs).1, by have := (h2 s hs).2; omega⟩))) ⟨_, rfl, show_bool _⟩ wf'
  exact ⟨a', _, (st_nx s1).trans ((st_nx ((s_iff t).trans s_nil)).trans s_nil)⟩
theorem turn2 (hk : 100000000 < k) {a : Nat} (hst : st[0]? = some (boxC row a)) (wf : WF st) (hl : st.length < 9) (x2 x3 x4 x5 x6 x7 x8 : Option D) : ∃ (a' : Nat) (kvs : Kv) (y3 y4 y7 y8 : Option D),
    exs (lvl T (k + 40) (n + 7)) (k + 40) c22b5 [some (.scr ns), some (.ref 0), x2, x3, x4, x5, x6, x7, x8] st = .go .nx [some (.scr ns), some (.ref 0), x2, y3, y4, x5, x6, y7, y8] (Sd st 0 row a' kvs) ∧ KvOk kvs := by
  have hb : 0 < st.length := (List.getElem?_eq_some_iff.mp hst).1
  have d3 := dv_bd (row := row) (a := a) (m := 4) (by omega)
  obtain ⟨m, hm⟩ : ∃ m : Nat, 1 + dv row a 4 = (m : Int) := ⟨(1 + dv row a 4).toNat, by omega⟩
  have hm4 : m = 1 ∨ m = 2 ∨ m = 3 ∨ m = 4 := by omega
  obtain ⟨a', kvs, C, e4, hv, hc⟩ := costs_ok (n := n + 5) (fu := k + 40) (m := m) (st := st.set 0 (boxC row (a + 1))) (b := 0) (List.getElem?_set_self hb) (WF.set wf rfl) hm4
  have eS : Sd (st.set 0 (boxC row (a + 1))) 0 row a' kvs = Sd st 0 row a' kvs := by unfold Sd; rw [List.set_set]
  rw [eS, List.length_set] at e4 hc
  have s1 := s_set (fu := k + 40) (i := 3) (e := .bin .add (.con (.int 1)) (.call 12 (.cons (.var 1) (.cons (.con (.int 4)) .nil)))) (ρ := [some (.scr ns), some (.ref 0), x2, x3, x4, x5, x6, x7, x8]) (e_bin e_con (drawE (n := n + 6) (fu := k + 40) (k := 4) (i := 1) hst wf (by omega) rfl) (b_add.trans (by rw [hm])))
  have hbox : ∀ {ρ : EnvD}, ρ[1]? = some (some (.ref 0)) → ev (lvl T (k + 40) (n + 7)) (.var 1) ρ (st.set 0 (boxC row (a + 1))) = .ok (.ref 0) (st.set 0 (boxC row (a + 1))) := fun {ρ} h => e_ref h (List.getElem?_set_self hb) (by intro p z; cases z)
  have s2 := s_set (fu := k + 40) (i := 4) (e := .call 16 (.cons (.var 1) (.cons (.var 3) .nil))) (ρ := [some (.scr ns), some (.ref 0), x2, some (.py (.int m)), x4, x5, x6, x7, x8]) (e_call (es_cons (hbox rfl) (es_cons (e_var rfl) es_nil)) e4)
  have lp := for_inv (f := fun d ρ st => bindT (.nm 7) st d ρ (exs (lvl T (k + 40) (n + 7)) (k + 40) c22b4))
    (fun i ρ s => ∃ (a : Nat) (x7 x8 : Option D), ρ = [some (.scr ns), some (.ref 0), x2, some (.py (.int m)), some (.ref st.length), x5, x6, x7, x8] ∧ s = Sd st 0 row a kvs) (rangeD 0 3) 0
    (ρ := [some (.scr ns), some (.ref 0), x2, some (.py (.int m)), some (.ref st.length), x5, x6, x7, x8]) (st := Sd st 0 row a' kvs) (fun j d ρ s hj ⟨a, x7, x8, e1, e2⟩ => by
      rw [e1, e2, bind_nm]
      simp only [List.set_cons_succ, List.set_cons_zero]
      have hc2 : Cost (Sd st 0 row a kvs) st.length m C := by
        have := hc.set (b := 0) (by omega) (boxC row a)
        rwa [Sd.set_box hb] at this
      obtain ⟨a2, y8, k1⟩ := turn3 (n := n) (ns := ns) hk hm4 (Sd.box hb) (Sd.wf (row := row) (a := a) wf hv) (by rw [Sd.len]; omega) hc2 (by omega) x2 x5 x6 (some d) x8
      rw [Sd.set_box hb] at k1
      exact ⟨_, _, k1, a2, _, _, rfl, rfl⟩) ⟨a', x7, x8, rfl, rfl⟩
  obtain ⟨ρ', st', hl2, a2, x7', x8', e2, e3⟩ := lp
  rw [e2, e3] at hl2
  exact ⟨a2, kvs, _, _, _, _, (st_nx s1).trans ((st_nx s2).trans ((st_nx ((s_for (i_rng e_con (by decide))).trans hl2)).trans s_nil)), hv⟩
theorem law_ok (hk : 100000000 < k) : ∃ st, lvl T (k + 40) (n + 8) 22 [.scr ns] [] = .ok (.py (.bool true)) st := by
  obtain ⟨row, eb, _⟩ := box_ok (n := n + 5) (fu := k + 40) (st := []) (ns := ns) rfl
  have ev0 : ∀ {ρ : EnvD} {s : Store}, ρ[0]? = some (some (.scr ns)) → ev (lvl T (k + 40) (n + 7)) (.var 0) ρ s = .ok (.scr ns) s := fun {ρ s} h => by
    unfold ev
    rw [h]
  have s1 := s_set (fu := k + 40) (i := 1) (e := .call 11 (.cons (.var 0) (.cons (.con (.int 0)) (.cons (.con (.int 20)) .nil)))) (ρ := [some (.scr ns), none, none, none, none, none, none, none, none]) (e_call (es_cons (ev0 rfl) (es_cons e_con (es_cons e_con es_nil))) eb)
  have step : ∀ {st : Store} {a a' : Nat} {kvs : Kv}, st[0]? = some (boxC row a) → WF st → KvOk kvs → (Sd st 0 row a' kvs)[0]? = some (boxC row a') ∧ WF (Sd st 0 row a' kvs) := fun {st a a' kvs} h w v => ⟨Sd.box (List.getElem?_eq_some_iff.mp h).1, Sd.wf w v⟩
  have l1 := for_inv (f := fun d ρ st => bindT (.nm 2) st d ρ (exs (lvl T (k + 40) (n + 7)) (k + 40) c22b2))
    (fun i ρ s => ∃ (a : Nat) (x2 x3 x4 x5 x6 x7 x8 : Option D), ρ = [some (.scr ns), some (.ref 0), x2, x3, x4, x5, x6, x7, x8] ∧ s[0]? = some (boxC row a) ∧ WF s ∧ s.length = 1 + i) (rangeD 0 4) 0
    (ρ := [some (.scr ns), some (.ref 0), none, none, none, none, none, none, none]) (st := [boxC row 0]) (fun j d ρ s hj ⟨a, x2, x3, x4, x5, x6, x7, x8, e1, h1, h2, h3⟩ => by
      obtain ⟨hj', _⟩ := rangeD_at hj
      rw [e1, bind_nm]
      simp only [List.set_cons_succ, List.set_cons_zero]
      obtain ⟨a', kvs, y3, y4, y5, y6, k1, k2⟩ := turn1 (n := n) (ns := ns) hk h1 h2 (by omega) (some d) x3 x4 x5 x6 x7 x8
      obtain ⟨g1, g2⟩ := step (a' := a') h1 h2 k2
      exact ⟨_, _, k1, a', _, _, _, _, _, _, _, rfl, g1, g2, by rw [Sd.len, h3]; omega⟩) ⟨0, _, _, _, _, _, _, _, rfl, rfl, rfl, rfl⟩
  obtain ⟨ρ1, st1, hl1, a, x2, x3, x4, x5, x6, x7, x8, e1, h1, h2, h3⟩ := l1
  rw [e1] at hl1
  rw [rangeD_len] at h3
  have l2 := for_inv (f := fun d ρ st => bindT (.nm 2) st d ρ (exs (lvl T (k + 40) (n + 7)) (k + 40) c22b5))
    (fun i ρ s => ∃ (a : Nat) (x2 x3 x4 x5 x6 x7 x8 : Option D), ρ = [some (.scr ns), some (.ref 0), x2, x3, x4, x5, x6, x7, x8] ∧ s[0]? = some (boxC row a) ∧ WF s ∧ s.length = 5 + i) (rangeD 0 4) 0
    (ρ := [some (.scr ns), some (.ref 0), x2, x3, x4, x5, x6, x7, x8]) (st := st1) (fun j d ρ s hj ⟨a, x2, x3, x4, x5, x6, x7, x8, e1, h1, h2, h3⟩ => by
      obtain ⟨hj', _⟩ := rangeD_at hj
      rw [e1, bind_nm]
      simp only [List.set_cons_succ, List.set_cons_zero]
      obtain ⟨a', kvs, y3, y4, y5, y6, k1, k2⟩ := turn2 (n := n) (ns := ns) hk h1 h2 (by omega) (some d) x3 x4 x5 x6 x7 x8
      obtain ⟨g1, g2⟩ := step (a' := a') h1 h2 k2
      exact ⟨_, _, k1, a', _, _, _, _, _, _, _, rfl, g1, g2, by rw [Sd.len, h3]; omega⟩) ⟨a, _, _, _, _, _, _, _, rfl, h1, h2, by rw [h3]; rfl⟩
  obtain ⟨ρ2, st2, hl2, _⟩ := l2
  refine ⟨_, run_at (ar := 1) (sl := 9) (b := c22) (ds := [.scr ns]) (ρ0 := [some (.scr ns), none, none, none, none, none, none, none, none]) rfl rfl ((st_nx s1).trans ((st_nx ((s_for (i_rng e_con (by decide))).trans hl1)).trans ((st_nx ((s_for (i_rng e_con (by decide))).trans hl2)).trans (st_fl (s_ret e_con) (fun z => by cases z))))) rfl⟩
end
theorem pure_law (ns : List Int) (h : ns.length ≤ 63) : ∃ fu st, lvl T fu 30 22 [.scr ns] [] = .ok (.py (.bool true)) st := by
  obtain ⟨st, h⟩ := law_ok (n := 22) (k := 999999960) (ns := ns) (by omega)
  exact ⟨_, st, h⟩
end La
set_option maxHeartbeats 0
namespace La
open PySem PySem.Spec PyProof.Rows L2 Ev
end La
open PySem PySem.W PySem.Calls PyProof.Rows
theorem PySem.Challenge.cw_larderdays_k48_stable_shares_holds : PySem.Challenge.rw_larderdays_k48_stable_shares.Holds := by
  w_on; o_law
  refine HandSHeadRun.head_any (r := La.R) (q := view La.R.prog [25]) (H := La.hk) (ob := La.ob) (M := 20000) (loose := La.loose) (d := HandSHeadRun.topDef La.R.prog 25) (kwd := []) La.ob_eq
    (by kernel_rfl) (fun s => by kernel_rfl) La.run (by kernel_rfl) (by kernel_rfl) (by kernel_rfl) (by rfl) (by first | assumption | decide +kernel) (by decide +kernel) ⟨rfl, rfl, rfl, rfl, rfl, by decide +kernel⟩ ?hw ?hc
  case hw => w_witness2
  case hc =>
    exact Ev.walk_law (l := PySem.Challenge.rw_larderdays_k48_stable_shares) (m := 63) (n := 30) (li := 22) (x := "_law_script") (e := La.T22) (T := La.T) (ds := La.ds) (dl := ("law", La.top 25)) rfl (by decide) (by kernel_rfl) (by kernel_rfl) ⟨⟨rfl, by decide, by decide⟩, rfl⟩ La.kAll La.bAll rfl rfl rfl La.pure_law
