import PyProof.Rows.All
import Wide.All
import OpenK.AllK
import Wide.FinOn
import PyProof.EqAt
import PyProof.EqKinds
import PyProof.TupleCall
import HandS.Base
import HandS.Call
import HandS.List
import KE.DataMinMax
import KE.SortData
import HandS.IsInst
import HandS.Comp
import HandS.Dict
import HandS.Exc
import HandS.AnyAll
import HandS.TupAny
import HandS.TupLe
import HandS.Deep
import HandS.Style
import HandS.CallSlots
import HandS.TupLen
import HandS.Words
import HandS.WordsList
import HandS.WordsExc
import HandS.TupMul
import PyProof.P3Eq
import PyProof.P3In
import HandS.Flow
import HandS.TryOnly
import HandS.SortOrd
import KE.KTupSum
import PyProof.ListOps
import PyProof.AutoSeq1
import HandS.Small
import HandS.Ends
import HandS.Defaults
import HandS.Conv
import PyProof.ReprRoads
import PyProof.CallFns
import PyProof.Rows.FactsT3
import HandS.HeadEnd
import HandS.Iter
import KE.GoesEnum
import KE.KDictDisplayH
import HandS.SetFor
import KE.KDictZip
import PyProof.WalksMore
import PyProof.GenCompT
import KE.GoesMore
import HandS.EndTab
import HandS.HeadHook4
import HandS.ExcInit
import HandS.FStr
import KE.KSuper
import KE.KExcSuper
import HandS.ExcOwn
import HandS.ExcField
import HandS.ExcIs
import KE.KExcIs
import HandS.HeadHook1
import HandS.HeadHook2
import HandS.Head0
import HandS.Head1
import HandS.Head2
import KE.KEqDeep
import PySem.Challenge.RW_larderdays_k06_oldest_first_is_best
set_option Elab.async false
set_option linter.all false
set_option maxRecDepth 100000
namespace Ev
open PySem
abbrev PD := PyData
/-- a value: frozen data, a cell of the store, a def, a tuple with such in it -/
inductive D where
  | py (d : PD) | ref (n : Nat) | fn (f : Nat) | tp (ds : List D) | scr (ns : List Int) | ob (c : Nat) (fs : List (Str × PD))
inductive Cell where
  | lst (ds : List D)
  | dct (kvs : List (List Int × D))
  | ins (c : Nat) (fs : List (Str × D))
  | frz (d : PD)
  | tab (j : Nat)
abbrev Store := List Cell
abbrev EnvD := List (Option D)
/-- an error that flies: its class, its one field -/
structure Exc where
  cls : Nat
  fld : Option (Str × PD)
inductive Rs (α : Type) where
  | ok (a : α) (st : Store)
  | ex (e : Exc) (st : Store)
  | bad
def Rs.bind {α β : Type} (r : Rs α) (k : α → Store → Rs β) : Rs β := match r with
  | .ok a st => k a st
  | .ex e st => .ex e st
  | .bad => .bad
@[simp] theorem Rs.bind_ok {α β : Type} (a : α) (st : Store) (k : α → Store → Rs β) : (Rs.ok a st).bind k = k a st := rfl
@[simp] theorem Rs.bind_ex {α β : Type} (e : Exc) (st : Store) (k : α → Store → Rs β) : (Rs.ex e st : Rs α).bind k = .ex e st := rfl
@[simp] theorem Rs.bind_bad {α β : Type} (k : α → Store → Rs β) : (Rs.bad : Rs α).bind k = .bad := rfl
def Rs.of {α : Type} (o : Option α) (st : Store) : Rs α := match o with
  | some a => .ok a st
  | none => .bad
@[simp] theorem Rs.of_some {α : Type} (a : α) (st : Store) : Rs.of (some a) st = .ok a st := rfl
@[simp] theorem Rs.of_none {α : Type} (st : Store) : (Rs.of none st : Rs α) = .bad := rfl
/-- the largest size of a list, a tuple, a text -/
abbrev line : Nat := 16777216

def pys : List D → Option (List PD)
  | [] => some []
  | .py d :: r => (pys r).map (d :: ·)
  | _ :: _ => none
theorem pys_map (l : List PD) : pys (l.map .py) = some l := by
  induction l with
  | nil => rfl
  | cons a r ih => simp only [List.map_cons, pys, ih, Option.map_some]
def mkTup (ds : List D) : D := match pys ds with
  | some ps => .py (.tuple ps)
  | none => .tp ds
/-- the items of a list, of a list or a tuple -/
def listOf (st : Store) : D → Option (List D)
  | .py (.list ds) => some (ds.map .py)
  | .ref n => (match st[n]? with
    | some (.lst ds) => some ds
    | some (.frz (.list ds)) => some (ds.map .py)
    | _ => none)
  | _ => none
def tupOf : D → Option (List D)
  | .py (.tuple ds) => some (ds.map .py)
  | .tp ds => some ds
  | _ => none
def seqOf (st : Store) (d : D) : Option (List D) := match listOf st d with
  | some l => some l
  | none => tupOf d
/-- the data as it stands now, through the cells -/
def valF : Nat → Store → D → Option PD
  | _, _, .py d => some d
  | 0, _, _ => none
  | n + 1, st, .ref k => (match st[k]? with
    | some (.lst ds) => (ds.mapM (valF n st)).map .list
    | some (.frz d) => some d
    | _ => none)
  | n + 1, st, .tp ds => (ds.mapM (valF n st)).map .tuple
  | _, _, .fn _ => none
  | _, _, .scr _ => none
  | _, _, .ob _ _ => none
abbrev val (st : Store) (d : D) : Option PD := valF 6 st d
@[simp] theorem valF_py (n : Nat) (st : Store) (d : PD) : valF n st (.py d) = some d := by cases n <;> rfl
def intOf : D → Option Int
  | .py (.int i) => some i
  | _ => none
def intsOf : List PD → Option (List Int)
  | [] => some []
  | .int i :: r => (intsOf r).map (i :: ·)
  | _ :: _ => none
theorem intsOf_map (l : List Int) : intsOf (l.map .int) = some l := by
  induction l with
  | nil => rfl
  | cons a r ih => simp only [List.map_cons, intsOf, ih, Option.map_some]
def keyOf : D → Option (List Int)
  | .py (.tuple ds) => intsOf ds
  | _ => none

inductive BOp where | add | sub | mul | fdiv | mod | pow
inductive COp where | lt | le | gt | ge | eq | ne | isin | notin

def cut {α : Type} (xs : List α) (lo hi : Option Int) : List α := (xs.drop (HT.sIx xs.length 0 lo)).take (HT.sIx xs.length xs.length hi - HT.sIx xs.length 0 lo)
abbrev ixN := L2.ixN
def small (i : Int) : Bool := decide (-(2 ^ 64) < i) && decide (i < 2 ^ 64)
mutual
def ltPD : PD → PD → Option Bool
  | .int i, .int j => some (decide (i < j))
  | .tuple xs, .tuple ys => ltAll xs ys
  | _, _ => none
def ltAll : List PD → List PD → Option Bool
  | [], [] => some false
  | [], _ :: _ => some true
  | _ :: _, [] => some false
  | x :: xs, y :: ys => (ltAll xs ys).bind fun r => if PyData.eqv x y = true then some r else ltPD x y
end
def bop (st : Store) (op : BOp) (a b : D) : Option D := match op, a, b with
  | .add, .py (.int i), .py (.int j) => some (.py (.int (i + j)))
  | .sub, .py (.int i), .py (.int j) => some (.py (.int (i - j)))
  | .mul, .py (.int i), .py (.int j) => if small i || small j then some (.py (.int (i * j))) else none
  | .fdiv, .py (.int i), .py (.int j) => if decide (0 < j) && decide (j < 1073741824) then some (.py (.int (i / j))) else none
  | .mod, .py (.int i), .py (.int j) => if decide (0 < j) then some (.py (.int (i % j))) else none
  | .pow, .py (.int i), .py (.int j) => if decide (0 ≤ j) && decide (j ≤ 1000000) && small i then some (.py (.int (i ^ j.toNat))) else none
  | .add, .py (.str x), .py (.str y) => if x.length + y.length ≤ line then some (.py (.str (x ++ y))) else none
  | .add, .py (.tuple x), .py (.tuple y) => if x.length + y.length ≤ line then some (.py (.tuple (x ++ y))) else none
  | .add, .py (.list x), .py (.list y) => if x.length + y.length ≤ line then some (.py (.list (x ++ y))) else none
  | .mul, .py (.list x), .py (.int k) => if decide (0 ≤ k) && decide (k < 1000) && decide (x.length * k.toNat ≤ line) then some (.py (.list (List.replicate k.toNat x).flatten)) else none
  | .mul, .py (.tuple x), .py (.int k) => if k = 1 then some (.py (.tuple x)) else if decide (2 ≤ k) && decide (k ≤ 1000) && !x.isEmpty && decide (x.length ≤ 1000) then some (.py (.tuple (List.replicate k.toNat x).flatten)) else none
  | _, _, _ => none
def cmpI : COp → Int → Int → Option Bool
  | .lt, i, j => some (decide (i < j))
  | .le, i, j => some (decide (i ≤ j))
  | .gt, i, j => some (decide (j < i))
  | .ge, i, j => some (decide (j ≤ i))
  | _, _, _ => none
def valK (kvs : List (List Int × D)) (k : List Int) : Option D := (kvs.find? fun kv => decide (kv.1 = k)).map (·.2)
def isinD (st : Store) (a b : D) : Option Bool := match b with
  | .ref n => (match st[n]? with
    | some (.dct kvs) => (keyOf a).map fun k => (valK kvs k).isSome
    | some (.lst ds) => (match val st a, pys ds with
      | some d, some ps => if (SeqAt.shaped d && SeqAt.shaped (.list ps)) = true then some (ps.any fun z => PyData.eqv z d) else none
      | _, _ => none)
    | _ => none)
  | .py (.list ds) => (match val st a with
    | some d => if (SeqAt.shaped d && SeqAt.shaped (.list ds)) = true then some (ds.any fun z => PyData.eqv z d) else none
    | none => none)
  | _ => none
def cop (st : Store) (op : COp) (a b : D) : Option Bool := match op with
  | .eq => (match val st a, val st b with
    | some x, some y => if (SeqAt.shaped x && SeqAt.shaped y) = true then some (PyData.eqv x y) else none
    | _, _ => none)
  | .ne => (match val st a, val st b with
    | some x, some y => if (SeqAt.shaped x && SeqAt.shaped y) = true then some (!PyData.eqv x y) else none
    | _, _ => none)
  | .isin => isinD st a b
  | .notin => (isinD st a b).map (!·)
  | op => (match a, b with
    | .py (.int i), .py (.int j) => cmpI op i j
    | .py x, .py y => (match op with
      | .lt => if (SeqAt.shaped x && SeqAt.shaped y) = true then ltPD x y else none
      | _ => none)
    | _, _ => none)
def augI (op : BOp) (a b : D) : Option D := match op, a, b with
  | .add, .py (.int i), .py (.int j) => some (.py (.int (i + j)))
  | .sub, .py (.int i), .py (.int j) => some (.py (.int (i - j)))
  | _, _, _ => none
def isLst (st : Store) : D → Bool
  | .ref n => (match st[n]? with
    | some (.lst _) => true
    | _ => false)
  | _ => false
def appD (st : Store) (x z : D) : Option Store := match x with
  | .ref n => (match st[n]? with
    | some (.lst ds) => if ds.length < line then some (st.set n (.lst (ds ++ [z]))) else none
    | _ => none)
  | _ => none
/-- a value's built-in type -/
def tyD (st : Store) : D → Option String
  | .py .none => some "NoneType"
  | .py (.bool _) => some "bool"
  | .py (.int _) => some "int"
  | .py (.str _) => some "str"
  | .py (.list _) => some "list"
  | .py (.tuple _) => some "tuple"
  | .ref n => (match st[n]? with
    | some (.lst _) => some "list"
    | some (.frz (.list _)) => some "list"
    | _ => none)
  | _ => none
/-- is it the same as None, True, False -/
def isc (c : PD) (d : D) : Option Bool := match c, d with
  | .none, .py .none => some true
  | .none, .py _ => some false
  | .none, .ref _ => some false
  | .none, .tp _ => some false
  | .none, .ob _ _ => some false
  | .bool b, .py (.bool k) => some (decide (k = b))
  | _, .py _ => none
  | _, .ref _ => none
  | _, .tp _ => none
  | _, .fn _ => none
  | _, .scr _ => none
  | _, .ob _ _ => none
def truth (st : Store) (d : D) : Option Bool := match d with
  | .py .none => some false
  | .py (.bool b) => some b
  | .py (.int i) => some (i != 0)
  | .py (.str x) => if x.length ≤ line then some (x.length != 0) else none
  | d => (seqOf st d).map (!·.isEmpty)
def getix (st : Store) (a i : D) : Option D := match a with
  | .ref n => (match st[n]? with
    | some (.dct kvs) => (keyOf i).bind fun k => valK kvs k
    | some (.lst ds) => (intOf i).bind fun i => (ixN ds.length i).bind fun j => ds[j]?
    | some (.frz (.list ds)) => (intOf i).bind fun i => (ixN ds.length i).bind fun j => (ds[j]?).map .py
    | _ => none)
  | .py (.list ds) => (intOf i).bind fun i => (ixN ds.length i).bind fun j => (ds[j]?).map .py
  | .py (.tuple ds) => (intOf i).bind fun i => (ixN ds.length i).bind fun j => (ds[j]?).map .py
  | .tp ds => (intOf i).bind fun i => (ixN ds.length i).bind fun j => ds[j]?
  | .scr ns => (intOf i).bind fun i => (ixN ns.length i).bind fun j => (ns[j]?).map fun z => .py (.int z)
  | _ => none
def putK (kvs : List (List Int × D)) (k : List Int) (v : D) : List (List Int × D) := if (kvs.any fun kv => decide (kv.1 = k)) = true then kvs.map fun kv => if kv.1 = k then (kv.1, v) else kv else kvs ++ [(k, v)]
def setix (st : Store) (a i v : D) : Option Store := match a with
  | .ref n => (match st[n]? with
    | some (.lst ds) => (intOf i).bind fun i => (ixN ds.length i).map fun j => st.set n (.lst (ds.set j v))
    | some (.dct kvs) => (keyOf i).bind fun k => if kvs.length < line then some (st.set n (.dct (putK kvs k v))) else none
    | _ => none)
  | _ => none
def slcD (st : Store) (a : D) (lo hi : Option Int) : Option D := match a with
  | .py (.tuple ds) => some (.py (.tuple (cut ds lo hi)))
  | .py (.list ds) => some (.py (.list (cut ds lo hi)))
  | _ => none

inductive Bi where | len | sum | max | min | max2 | min2 | abs | int | tuple | sorted | all | minT
def sumI (ds : List PD) : Option Int := (intsOf ds).map List.sum
def maxI (l : List Int) : Option Int := match l with
  | [] => none
  | a :: r => some (r.foldl max a)
def minI (l : List Int) : Option Int := match l with
  | [] => none
  | a :: r => some (r.foldl min a)
def boolsOf : List PD → Option (List Bool)
  | [] => some []
  | .bool b :: r => (boolsOf r).map (b :: ·)
  | _ :: _ => none
/-- the first least one of data that can be put in an order -/
def alkB (l : List PD) : Bool := l.all fun a => (match a with | .none => false | _ => true) && l.all fun b => PySem.W.alike a b
def minP (l : List PD) : Option PD := match l with
  | [] => none
  | a :: r => if (alkB (a :: r) && ((a :: r).all SeqAt.shaped && decide (PyData.depthAll (a :: r) ≤ 64))) = true then some (PySem.W.minD a r) else none
/-- data of one kind, in their order -/
def srtB (l : List PD) : Bool := (l.all fun d => match d with | .tuple (_ :: _) => true | _ => false) || l.all fun d => match d with | .none => false | .tuple _ => false | _ => true
def srtP (l : List PD) : Option PD := if l.length < 2 then some (.list l) else if (alkB l && (srtB l && (l.all SeqAt.shaped && decide (PyData.depthAll l ≤ 64)))) = true then some (.list (l.mergeSort (PySem.W.dataLe false id))) else none
def seqPD (st : Store) (d : D) : Option (List PD) := (seqOf st d).bind pys
def seqI (st : Store) (d : D) : Option (List Int) := (seqPD st d).bind intsOf
def bi (st : Store) (b : Bi) (ds : List D) : Option D := match b, ds with
  | .len, [d] => (match d with
    | .py (.str x) => if x.length ≤ line then some (.py (.int x.length)) else none
    | .ref n => (match st[n]? with
      | some (.dct kvs) => some (.py (.int kvs.length))
      | some (.lst l) => some (.py (.int l.length))
      | some (.frz (.list l)) => some (.py (.int l.length))
      | _ => none)
    | .scr ns => some (.py (.int ns.length))
    | d => (seqOf st d).map fun l => .py (.int l.length))
  | .sum, [d] => (seqI st d).map fun l => .py (.int l.sum)
  | .max, [d] => (seqI st d).bind fun l => (maxI l).map fun i => .py (.int i)
  | .min, [d] => (seqI st d).bind fun l => (minI l).map fun i => .py (.int i)
  | .max2, [.py (.int i), .py (.int j)] => some (.py (.int (if j > i then j else i)))
  | .min2, [.py (.int i), .py (.int j)] => some (.py (.int (if j < i then j else i)))
  | .abs, [.py (.int i)] => some (.py (.int (if i < 0 then -i else i)))
  | .int, [.py (.int i)] => some (.py (.int i))
  | .int, [.py (.bool b)] => some (.py (.int (if b then 1 else 0)))
  | .tuple, [d] => (seqPD st d).map fun l => .py (.tuple l)
  | .all, [d] => ((listOf st d).bind pys).bind fun l => (boolsOf l).map fun bs => .py (.bool (bs.all id))
  | .minT, [d] => ((listOf st d).bind pys).bind fun l => (minP l).map .py
  | .sorted, [d] => ((listOf st d).bind pys).bind fun l => (srtP l).map .py
  | _, _ => none

/-- the deep freezing of a value -/
def frzD : Nat → Store → D → Option (PD × Store)
  | _, st, .py d => some (d, st)
  | 0, _, _ => none
  | k + 1, st, .ref n => (match st[n]? with
    | some (.frz d) => some (d, st)
    | some (.lst ds) => (ds.foldlM (fun (p : List PD × Store) d => (frzD k p.2 d).map fun q => (p.1 ++ [q.1], q.2)) (([] : List PD), st)).map fun p => (.list p.1, p.2.set n (.frz (.list p.1)))
    | _ => none)
  | k + 1, st, .tp ds => (ds.foldlM (fun (p : List PD × Store) d => (frzD k p.2 d).map fun q => (p.1 ++ [q.1], q.2)) (([] : List PD), st)).map fun p => (.tuple p.1, p.2)
  | _, _, .fn _ => none
  | _, _, .scr _ => none
  | _, _, .ob _ _ => none

/-- targets: a name's slot; several -/
inductive Tg where
  | nm (i : Nat)
  | two (a b : Tg)
  | thr (a b c : Tg)
def asg : Tg → Store → D → EnvD → Option EnvD
  | .nm i, _, d, ρ => some (ρ.set i (some d))
  | .two a b, st, d, ρ => (match seqOf st d with
    | some [x, y] => (asg a st x ρ).bind (asg b st y)
    | _ => none)
  | .thr a b c, st, d, ρ => (match seqOf st d with
    | some [x, y, z] => (asg a st x ρ).bind fun ρ => (asg b st y ρ).bind (asg c st z)
    | _ => none)
def wipe (ρ : EnvD) : List Nat → EnvD
  | [] => ρ
  | v :: vs => (wipe ρ vs).set v none

mutual
inductive E where
  | var (i : Nat)
  | con (d : PD)
  | fnv (f : Nat)
  | tup (es : Es)
  | li (l : L)
  | cell (l : L)
  | dnew
  | frz (a : E)
  | bin (op : BOp) (a b : E)
  | neg (a : E)
  | cmp (op : COp) (a b : E)
  | cmp2 (op op' : COp) (a b c : E)
  | isc (c : PD) (ng : Bool) (a : E)
  | and (a b : E)
  | or (a b : E)
  | nt (a : E)
  | ife (t : T) (a b : E)
  | ix (a i : E)
  | sl (a : E) (lo hi : O)
  | call (f : Nat) (es : Es)
  | bi (b : Bi) (es : Es)
  | fld (a : E) (f : Str) (cs : List Nat)
  | mk (c : Nat) (f : Nat) (es : Es)
  | same (a b : E)
  | trng (a : E)
  | allN (j : Nat) (k : Int) (a : E)
  | inst (T : String) (a : E)
  | dlit (k v : E)
  | pop0 (a : E)
  | sset (a : E)
  | callV (i : Nat) (fs : List Nat) (es : Es)
  | allZ (j : Nat) (a b : E)
  | mkR (c f : Nat) (es : Es)
  | mth (c : Nat) (m : Str) (f : Nat) (a : E) (es : Es)
  | srtR (a : E)
inductive O where
  | no
  | so (e : E)
inductive Es where
  | nil
  | cons (e : E) (r : Es)
inductive L where
  | lst (es : Es)
  | lc (elt : E) (tg : Tg) (own : List Nat) (it : It) (t : T)
  | seq (e : E)
  | rep (es : Es) (n : E)
  | lc2 (elt : E) (tg : Tg) (own : List Nat) (it : It) (tg1 : Tg) (own1 : List Nat) (it1 : It)
  | lcL (elt : E) (tg : Tg) (own : List Nat) (a : E) (t : T)
inductive T where
  | v (e : E)
  | and (a b : T)
  | or (a b : T)
  | nt (a : T)
  | yes
inductive It where
  | e (e : E)
  | rng (a : E)
  | rng2 (a b : E)
  | rng3 (a b c : E)
  | enm (a : E)
  | zip (a b : E)
  | ezip (a b : E)
end
/-- what an except clause's suite computes: atoms, values, the suite -/
inductive HX where
  | con (d : PD) | fld (cs : List Nat) (f : Str) | isi (ys ns : List Nat) | isb (cs : List Nat) (f : Str) | nt (a : HX) | and (a b : HX)
inductive HV where
  | at (a : HX) | tup (as : List HX) | pick (s t : PD) (a : HX)
inductive HS where
  | ret (v : HV) | ife (c : HX) (v : HV) (r : HS)
def evX : HX → Exc → Option PD
  | .con d, _ => some d
  | .fld cs f, e => (match e.fld with
    | some (g, .int i) => if g = f ∧ cs.contains e.cls = true then some (.int i) else none
    | _ => none)
  | .isi ys ns, e => if ys.contains e.cls = true then some (.bool true) else if ns.contains e.cls = true then some (.bool false) else none
  | .isb cs f, e => (match e.fld with
    | some (g, .int _) => if g = f ∧ cs.contains e.cls = true then some (.bool false) else none
    | _ => none)
  | .nt a, e => (match evX a e with
    | some (.bool b) => some (.bool (!b))
    | _ => none)
  | .and a b, e => (match evX a e with
    | some (.bool true) => (match evX b e with
      | some (.bool c) => some (.bool c)
      | _ => none)
    | some (.bool false) => some (.bool false)
    | _ => none)
def evXs : List HX → Exc → Option (List PD)
  | [], _ => some []
  | a :: r, e => (evX a e).bind fun p => (evXs r e).map (p :: ·)
def evV : HV → Exc → Option PD
  | .at a, e => evX a e
  | .tup as, e => (evXs as e).map .tuple
  | .pick s t a, e => (match evX a e with
    | some (.bool b) => some (if b then t else s)
    | _ => none)
def evH : HS → Exc → Option PD
  | .ret v, e => evV v e
  | .ife c v r, e => (match evX c e with
    | some (.bool true) => evV v e
    | some (.bool false) => evH r e
    | _ => none)
inductive Fl where
  | nx | rt (d : D) | bk | ct | xc (e : Exc)
inductive RS where
  | go (f : Fl) (ρ : EnvD) (st : Store) | bad
mutual
inductive S where
  | set (i : Nat) (e : E)
  | asg (t : Tg) (e : E)
  | swp (i j : Nat) (a b : E)
  | stI (a i v : E)
  | stF (a : E) (f : Str) (cs : List Nat) (v : E)
  | aug (i : Nat) (op : BOp) (e : E)
  | ext (i : Nat) (e : E)
  | app (a v : E)
  | ife (t : T) (a b : Ss)
  | for (tg : Tg) (it : It) (b : Ss)
  | whl (t : T) (b : Ss)
  | ret (e : E)
  | expr (e : E)
  | brk | cnt | pass
  | drop (js : List Nat)
  | bad
  | rse (c : Nat) (f : Str) (e : E)
  | rse0 (c : Nat)
  | tr (b : Ss) (i : Option Nat) (ys ns : List Nat) (h : HS)
  | augI (a i : E) (op : BOp) (e : E)
  | augF (a : E) (f : Str) (cs : List Nat) (op : BOp) (e : E)
  | extF (a : E) (f : Str) (cs : List Nat) (e : E)
  | forL (tg : Tg) (a : E) (b : Ss)
inductive Ss where
  | nil
  | cons (s : S) (r : Ss)
end

/-- what the defs do -/
abbrev Dn := Nat → List D → Store → Rs D
def rangeD (lo hi : Int) : List D := (List.range (hi - lo).toNat).map fun (i : Nat) => .py (.int (lo + i))
def enumD (l : List D) : List D := (List.range l.length).zipWith (fun (i : Nat) d => mkTup [.py (.int i), d]) l
def zipD (a b : List D) : List D := List.zipWith (fun x y => mkTup [x, y]) a b
def fit (i : Int) : Bool := decide (-(2 ^ 62) ≤ i) && decide (i < 2 ^ 62)
/-- in rising order, each once -/
def insU (x : Int) : List Int → List Int
  | [] => [x]
  | y :: l => if x < y then x :: y :: l else if x = y then y :: l else y :: insU x l
def usort (l : List Int) : List Int := l.foldr insU []
def rangeC (lo c : Int) (n : Nat) : List D := (List.range n).map fun (i : Nat) => .py (.int (lo + i * c))
def stepOk (i j k : Int) : Bool := decide (k ≠ 0) && (decide (k.natAbs < 1073741824) && (Builtin.Range.small i j k && decide (0 ≤ Builtin.Range.rangeSize i j k)))
/-- no error leaves a block -/
def Rs.noex {α : Type} (r : Rs α) : Rs α := match r with
  | .ex _ _ => .bad
  | r => r
@[simp] theorem Rs.noex_ok {α : Type} (a : α) (st : Store) : (Rs.ok a st).noex = .ok a st := rfl
@[simp] theorem Rs.noex_bad {α : Type} : (Rs.bad : Rs α).noex = .bad := rfl
/-- the turns of a comprehension -/
def lcLoop (f : D → Store → Rs (Option D)) : List D → List D → Store → Rs (List D)
  | acc, [], st => .ok acc st
  | acc, d :: ds, st => (f d st).bind fun o st => match o with
    | some x => if acc.length < line then lcLoop f (acc ++ [x]) ds st else .bad
    | none => lcLoop f acc ds st
def lcTurn (elt : EnvD → Store → Rs D) (t : EnvD → Store → Rs Bool) (tg : Tg) (ρ : EnvD) (d : D) (st : Store) : Rs (Option D) := match asg tg st d ρ with
  | some ρ' => (t ρ' st).noex.bind fun b st => if b = true then (elt ρ' st).noex.bind fun x st => .ok (some x) st else .ok none st
  | none => .bad
/-- the turns of a comprehension over a list that may change: its items as they stand at each turn -/
def lcLive (n : Nat) (f : D → Store → Rs (Option D)) : Nat → Nat → List D → Store → Rs (List D)
  | 0, _, _, _ => .bad
  | k + 1, i, acc, st => (match st[n]? with
    | some (.lst ds) => (match ds[i]? with
      | some d => (f d st).bind fun o st => (match o with
        | some x => if acc.length < line then lcLive n f k (i + 1) (acc ++ [x]) st else .bad
        | none => lcLive n f k (i + 1) acc st)
      | none => .ok acc st)
    | _ => .bad)
/-- the turns of a comprehension with two sources -/
def lcOut (f : D → List D → Store → Rs (List D)) : List D → List D → Store → Rs (List D)
  | acc, [], st => .ok acc st
  | acc, d :: ds, st => (f d acc st).bind fun acc st => lcOut f acc ds st
/-- cells that are lists of numbers -/
def rowsOf (st : Store) : List D → Option (List (D × List Int))
  | [] => some []
  | .ref n :: r => (match st[n]? with
    | some (.lst ds) => ((pys ds).bind intsOf).bind fun l => (rowsOf st r).map ((.ref n, l) :: ·)
    | _ => none)
  | _ :: _ => none
noncomputable def rowSort (l : List (D × List Int)) : List (D × List Int) := l.mergeSort (PySem.W.dataLe false fun p => PyData.list (p.2.map .int))
/-- what can be shown -/
def okShow (p : PD) : Bool := SeqAt.shaped p && (PyData.showable p && decide (p.shown.length ≤ line))
def shw (st : Store) (d : D) : Option PD := (val st d).bind fun p => if okShow p = true then some p else none
noncomputable def sameP (p q : PD) : Option D := open Classical in if p = q then some (.py (.bool true)) else none
/-- no cell of the old ones, nor the value, names a younger one -/
def refsUnder (n : Nat) : Nat → D → Bool
  | _, .py _ => true
  | _, .ref k => decide (k < n)
  | _, .fn _ => true
  | _, .scr _ => true
  | _, .ob _ _ => true
  | 0, .tp _ => false
  | j + 1, .tp ds => ds.all (refsUnder n j)
def cellUnder (n : Nat) : Cell → Bool
  | .lst ds => ds.all (refsUnder n 3)
  | .dct kvs => kvs.all fun p => refsUnder n 3 p.2
  | .ins _ fs => fs.all fun p => refsUnder n 3 p.2
  | .tab _ => true
  | .frz _ => true
/-- the fields of an instance, if all are data -/
def pysF : List (Str × D) → Option (List (Str × PD))
  | [] => some []
  | (f, .py d) :: r => (pysF r).map ((f, d) :: ·)
  | _ :: _ => none
/-- behind an __init__: the new instance becomes a value, its cell is forgotten -/
def made (c n : Nat) (st : Store) : Rs D := match st[n]? with
  | some (.ins c' fs) => if (decide (c' = c) && (decide (st.length = n + 1) && (st.take n).all (cellUnder n))) = true then .of ((pysF fs).map (.ob c)) (st.take n) else .bad
  | _ => .bad
section
variable (Δ : Dn)
mutual
noncomputable def ev : E → EnvD → Store → Rs D
  | .var i, ρ, st => (match ρ[i]? with
    | some (some (.ref n)) => (match st[n]? with
      | some (.frz d) => .ok (.py d) st
      | _ => .ok (.ref n) st)
    | some (some d) => .ok d st
    | _ => .bad)
  | .con d, _, st => .ok (.py d) st
  | .fnv f, _, st => .ok (.fn f) st
  | .tup es, ρ, st => (evs es ρ st).bind fun ds st => .ok (mkTup ds) st
  | .li l, ρ, st => (evL l ρ st).bind fun ds st => match pys ds with
    | some ps => .ok (.py (.list ps)) st
    | none => .bad
  | .cell l, ρ, st => (evL l ρ st).bind fun ds st => .ok (.ref st.length) (st ++ [.lst ds])
  | .dnew, _, st => .ok (.ref st.length) (st ++ [.dct []])
  | .frz a, ρ, st => (ev a ρ st).bind fun d st => match frzD 6 st d with
    | some (p, st) => .ok (.py p) st
    | none => .bad
  | .bin op a b, ρ, st => (ev a ρ st).bind fun x st => (ev b ρ st).bind fun y st => .of (bop st op x y) st
  | .neg a, ρ, st => (ev a ρ st).bind fun x st => .of ((intOf x).map fun i => .py (.int (-i))) st
  | .cmp op a b, ρ, st => (ev a ρ st).bind fun x st => (ev b ρ st).bind fun y st => .of ((cop st op x y).map fun b => .py (.bool b)) st
  | .cmp2 op op' a b c, ρ, st => (ev a ρ st).bind fun x st => (ev b ρ st).bind fun y st => (Rs.of (cop st op x y) st).bind fun k st =>
    if k = true then (ev c ρ st).bind fun z st => .of ((cop st op' y z).map fun b => .py (.bool b)) st else .ok (.py (.bool false)) st
  | .isc c ng a, ρ, st => (ev a ρ st).bind fun x st => .of ((isc c x).map fun b => .py (.bool (b != ng))) st
  | .and a b, ρ, st => (ev a ρ st).bind fun x st => (match x with
    | .py (.bool true) => ev b ρ st
    | .py (.bool false) => .ok (.py (.bool false)) st
    | _ => .bad)
  | .or a b, ρ, st => (ev a ρ st).bind fun x st => (match x with
    | .py (.bool true) => .ok (.py (.bool true)) st
    | .py (.bool false) => ev b ρ st
    | _ => .bad)
  | .nt a, ρ, st => (ev a ρ st).bind fun x st => .of ((truth st x).map fun b => .py (.bool (!b))) st
  | .ife t a b, ρ, st => (evT t ρ st).bind fun k st => if k = true then ev a ρ st else ev b ρ st
  | .ix a i, ρ, st => (ev a ρ st).bind fun x st => (ev i ρ st).bind fun y st => .of (getix st x y) st
  | .sl a lo hi, ρ, st => (ev a ρ st).bind fun x st => (evO lo ρ st).bind fun l st => (evO hi ρ st).bind fun h st => .of (slcD st x l h) st
  | .call f es, ρ, st => (evs es ρ st).bind fun ds st => Δ f ds st
  | .bi b es, ρ, st => (evs es ρ st).bind fun ds st => .of (bi st b ds) st
  | .fld a f cs, ρ, st => (ev a ρ st).bind fun x st => (match x with
    | .ref n => (match st[n]? with
      | some (.ins c fs) => if cs.contains c = true then .of (fs.lookup f) st else .bad
      | _ => .bad)
    | .ob c fs => if cs.contains c = true then .of ((fs.lookup f).map .py) st else .bad
    | _ => .bad)
  | .mk c f es, ρ, st => (evs es ρ st).bind fun ds st => (Δ f (.ref st.length :: ds) (st ++ [.ins c []])).bind fun r st' => (match r with
    | .py .none => made c st.length st'
    | _ => .bad)
  | .same a b, ρ, st => (ev a ρ st).bind fun x st => (Rs.of (shw st x) st).bind fun p st => (ev b ρ st).bind fun y st => (Rs.of (shw st y) st).bind fun q st => .of (sameP p q) st
  | .trng a, ρ, st => (ev a ρ st).bind fun x st => (match x with
    | .py (.int j) => if decide (j ≤ 16777216) && decide (-16777216 ≤ j) then .ok (.py (.tuple ((List.range j.toNat).map fun (i : Nat) => .int i))) st else .bad
    | _ => .bad)
  | .allN j k a, ρ, st => (ev a ρ st).bind fun x st => (match x with
    | .py (.tuple l) => (match intsOf l, st[j]? with
      | some ns, some (.tab i) => if i = j then .ok (.py (.bool (ns.all fun n => decide (k ≤ n)))) st else .bad
      | _, _ => .bad)
    | _ => .bad)
  | .inst T a, ρ, st => (ev a ρ st).bind fun x st => (match (tyD st x).bind fun t => L2.kitB t T with
    | some b => .ok (.py (.bool b)) st
    | none => .bad)
  | .dlit k v, ρ, st => (ev k ρ st).noex.bind fun x st => (ev v ρ st).noex.bind fun y st => (match keyOf x with
    | some kk => .ok (.ref st.length) (st ++ [.dct [(kk, y)]])
    | none => .bad)
  | .callV i fs es, ρ, st => (match ρ[i]? with
    | some (some (.fn f)) => if fs.contains f = true then (evs es ρ st).bind fun ds st => Δ f ds st else .bad
    | _ => .bad)
  | .pop0 a, ρ, st => (ev a ρ st).bind fun x st => (match x with
    | .ref n => (match st[n]? with
      | some (.lst (d :: ds)) => .ok d (st.set n (.lst ds))
      | _ => .bad)
    | _ => .bad)
  | .sset a, ρ, st => (ev a ρ st).bind fun x st => (match x with
    | .py (.list l) => (match intsOf l with
      | some ns => if ns.length < 64 then .ok (.py (.list ((usort ns).map .int))) st else .bad
      | none => .bad)
    | _ => .bad)
  | .allZ j a b, ρ, st => (ev a ρ st).bind fun x st => (ev b ρ st).bind fun y st => (match x, y with
    | .py (.tuple l), .py (.tuple m) => (match intsOf l, intsOf m, st[j]? with
      | some ns, some ms, some (.tab i) => if i = j then .ok (.py (.bool ((ns.zip ms).all fun p => decide (p.1 ≤ p.2)))) st else .bad
      | _, _, _ => .bad)
    | _, _ => .bad)
  | .mkR c f es, ρ, st => (evs es ρ st).bind fun ds st => (Δ f (.ref st.length :: ds) (st ++ [.ins c []])).bind fun r st' => (match r with
    | .py .none => .ok (.ref st.length) st'
    | _ => .bad)
  | .mth c m f a es, ρ, st => (ev a ρ st).bind fun x st => (match x with
    | .ref n => (match st[n]? with
      | some (.ins c' fs) => if (decide (c' = c) && (fs.lookup m).isNone) = true then (evs es ρ st).bind fun ds st => Δ f (.ref n :: ds) st else .bad
      | _ => .bad)
    | _ => .bad)
  | .srtR a, ρ, st => (ev a ρ st).bind fun x st => (match x with
    | .ref n => (match st[n]? with
      | some (.lst ds) => (match rowsOf st ds with
        | some l => if (l.all fun p => decide (p.2.length ≤ 1000)) = true then .ok (.ref st.length) (st ++ [.lst ((rowSort l).map (·.1))]) else .bad
        | none => .bad)
      | _ => .bad)
    | _ => .bad)
noncomputable def evO : O → EnvD → Store → Rs (Option Int)
  | .no, _, st => .ok none st
  | .so e, ρ, st => (ev e ρ st).bind fun x st => .of ((intOf x).map some) st
noncomputable def evs : Es → EnvD → Store → Rs (List D)
  | .nil, _, st => .ok [] st
  | .cons e r, ρ, st => (ev e ρ st).bind fun d st => (evs r ρ st).bind fun ds st => .ok (d :: ds) st
noncomputable def evL : L → EnvD → Store → Rs (List D)
  | .lst es, ρ, st => (evs es ρ st).bind fun ds st => if ds.length ≤ line then .ok ds st else .bad
  | .lc elt tg own it t, ρ, st => (evI it ρ st).bind fun ds st => lcLoop (lcTurn (ev elt) (evT t) tg (wipe ρ own)) [] ds st
  | .seq e, ρ, st => (ev e ρ st).bind fun d st => .of (seqOf st d) st
  | .rep es n, ρ, st => (evs es ρ st).bind fun ds st => (ev n ρ st).bind fun x st => (match x with
    | .py (.int k) => if (decide (0 ≤ k) && (decide (k < 1000) && decide (ds.length * k.toNat ≤ line))) = true then .ok (List.replicate k.toNat ds).flatten st else .bad
    | _ => .bad)
  | .lc2 elt tg own it tg1 own1 it1, ρ, st => (evI it ρ st).bind fun ds st => lcOut (fun d acc st => match asg tg st d (wipe ρ own) with
    | some ρ' => (evI it1 ρ' st).noex.bind fun es st => lcLoop (lcTurn (ev elt) (fun _ st => .ok true st) tg1 (wipe ρ' own1)) acc es st
    | none => .bad) [] ds st
  | .lcL elt tg own a t, ρ, st => (ev a ρ st).bind fun x st => (match x with
    | .ref n => (match st[n]? with
      | some (.lst ds) => lcLive n (lcTurn (ev elt) (evT t) tg (wipe ρ own)) (ds.length + 1) 0 [] st
      | _ => .bad)
    | _ => .bad)
noncomputable def evT : T → EnvD → Store → Rs Bool
  | .v e, ρ, st => (ev e ρ st).bind fun d st => .of (truth st d) st
  | .and a b, ρ, st => (evT a ρ st).bind fun k st => if k = true then evT b ρ st else .ok false st
  | .or a b, ρ, st => (evT a ρ st).bind fun k st => if k = true then .ok true st else evT b ρ st
  | .nt a, ρ, st => (evT a ρ st).bind fun k st => .ok (!k) st
  | .yes, _, st => .ok true st
noncomputable def evI : It → EnvD → Store → Rs (List D)
  | .e e, ρ, st => (ev e ρ st).bind fun d st => (match d with
    | .ref _ => .bad
    | d => .of (seqOf st d) st)
  | .rng a, ρ, st => (ev a ρ st).bind fun x st => (match x with
    | .py (.int j) => if fit j = true then .ok (rangeD 0 j) st else .bad
    | _ => .bad)
  | .rng2 a b, ρ, st => (ev a ρ st).bind fun x st => (ev b ρ st).bind fun y st => (match x, y with
    | .py (.int i), .py (.int j) => if (fit i && fit j) = true then .ok (rangeD i j) st else .bad
    | _, _ => .bad)
  | .rng3 a b c, ρ, st => (ev a ρ st).bind fun x st => (ev b ρ st).bind fun y st => (ev c ρ st).bind fun z st => (match x, y, z with
    | .py (.int i), .py (.int j), .py (.int k) => if stepOk i j k = true then .ok (rangeC i k (Builtin.Range.rangeSize i j k).toNat) st else .bad
    | _, _, _ => .bad)
  | .enm a, ρ, st => (ev a ρ st).bind fun x st => (match x with
    | .ref _ => .bad
    | d => .of ((listOf st d).map enumD) st)
  | .zip a b, ρ, st => (ev a ρ st).bind fun x st => (ev b ρ st).bind fun y st => (match x, y with
    | .ref _, _ => .bad
    | _, .ref _ => .bad
    | x, y => (match seqOf st x, seqOf st y with
      | some l, some l' => .ok (zipD l l') st
      | _, _ => .bad))
  | .ezip a b, ρ, st => (ev a ρ st).bind fun x st => (ev b ρ st).bind fun y st => (match x, y with
    | .ref _, _ => .bad
    | _, .ref _ => .bad
    | x, y => (match seqOf st x, seqOf st y with
      | some l, some l' => .ok (enumD (zipD l l')) st
      | _, _ => .bad))
end
end
def Rs.to {α : Type} (r : Rs α) (ρ : EnvD) (k : α → Store → RS) : RS := match r with
  | .ok a st => k a st
  | .ex e st => .go (.xc e) ρ st
  | .bad => .bad
@[simp] theorem Rs.to_ok {α : Type} (a : α) (st : Store) (ρ : EnvD) (k : α → Store → RS) : (Rs.ok a st).to ρ k = k a st := rfl
@[simp] theorem Rs.to_ex {α : Type} (e : Exc) (st : Store) (ρ : EnvD) (k : α → Store → RS) : (Rs.ex e st : Rs α).to ρ k = .go (.xc e) ρ st := rfl
@[simp] theorem Rs.to_bad {α : Type} (ρ : EnvD) (k : α → Store → RS) : (Rs.bad : Rs α).to ρ k = .bad := rfl
/-- behind a turn: the next one, or the loop's end -/
def RS.turn (r : RS) (k : EnvD → Store → RS) : RS := match r with
  | .go .nx ρ st => k ρ st
  | .go .ct ρ st => k ρ st
  | .go .bk ρ st => .go .nx ρ st
  | .go f ρ st => .go f ρ st
  | .bad => .bad
def RS.seq (r : RS) (k : EnvD → Store → RS) : RS := match r with
  | .go .nx ρ st => k ρ st
  | .go f ρ st => .go f ρ st
  | .bad => .bad
/-- an error of a try's body -/
def RS.hdl (r : RS) (k : Exc → EnvD → Store → RS) : RS := match r with
  | .go (.xc e) ρ st => k e ρ st
  | .go f ρ st => .go f ρ st
  | .bad => .bad
@[simp] theorem RS.hdl_nx (ρ : EnvD) (st : Store) (k : Exc → EnvD → Store → RS) : (RS.go .nx ρ st).hdl k = .go .nx ρ st := rfl
@[simp] theorem RS.hdl_ct (ρ : EnvD) (st : Store) (k : Exc → EnvD → Store → RS) : (RS.go .ct ρ st).hdl k = .go .ct ρ st := rfl
@[simp] theorem RS.hdl_bk (ρ : EnvD) (st : Store) (k : Exc → EnvD → Store → RS) : (RS.go .bk ρ st).hdl k = .go .bk ρ st := rfl
@[simp] theorem RS.hdl_rt (d : D) (ρ : EnvD) (st : Store) (k : Exc → EnvD → Store → RS) : (RS.go (.rt d) ρ st).hdl k = .go (.rt d) ρ st := rfl
@[simp] theorem RS.hdl_xc (e : Exc) (ρ : EnvD) (st : Store) (k : Exc → EnvD → Store → RS) : (RS.go (.xc e) ρ st).hdl k = k e ρ st := rfl
@[simp] theorem RS.hdl_bad (k : Exc → EnvD → Store → RS) : RS.bad.hdl k = .bad := rfl
/-- the except clause -/
def hdlE (i : Option Nat) (ys ns : List Nat) (h : HS) (e : Exc) (ρ : EnvD) (st : Store) : RS :=
  if ys.contains e.cls = true then (match evH h e with
    | some p => (match i with
      | some i => if i < ρ.length then .go (.rt (.py p)) (ρ.set i none) st else .bad
      | none => .go (.rt (.py p)) ρ st)
    | none => .bad)
  else if ns.contains e.cls = true then .go (.xc e) ρ st else .bad
def smallL (i : Int) : Bool := decide (i.natAbs.log2 < 1920)
@[simp] theorem RS.turn_nx (ρ : EnvD) (st : Store) (k : EnvD → Store → RS) : (RS.go .nx ρ st).turn k = k ρ st := rfl
@[simp] theorem RS.turn_ct (ρ : EnvD) (st : Store) (k : EnvD → Store → RS) : (RS.go .ct ρ st).turn k = k ρ st := rfl
@[simp] theorem RS.turn_bk (ρ : EnvD) (st : Store) (k : EnvD → Store → RS) : (RS.go .bk ρ st).turn k = .go .nx ρ st := rfl
@[simp] theorem RS.turn_rt (d : D) (ρ : EnvD) (st : Store) (k : EnvD → Store → RS) : (RS.go (.rt d) ρ st).turn k = .go (.rt d) ρ st := rfl
@[simp] theorem RS.turn_xc (e : Exc) (ρ : EnvD) (st : Store) (k : EnvD → Store → RS) : (RS.go (.xc e) ρ st).turn k = .go (.xc e) ρ st := rfl
@[simp] theorem RS.turn_bad (k : EnvD → Store → RS) : RS.bad.turn k = .bad := rfl
@[simp] theorem RS.seq_nx (ρ : EnvD) (st : Store) (k : EnvD → Store → RS) : (RS.go .nx ρ st).seq k = k ρ st := rfl
@[simp] theorem RS.seq_ct (ρ : EnvD) (st : Store) (k : EnvD → Store → RS) : (RS.go .ct ρ st).seq k = .go .ct ρ st := rfl
@[simp] theorem RS.seq_bk (ρ : EnvD) (st : Store) (k : EnvD → Store → RS) : (RS.go .bk ρ st).seq k = .go .bk ρ st := rfl
@[simp] theorem RS.seq_rt (d : D) (ρ : EnvD) (st : Store) (k : EnvD → Store → RS) : (RS.go (.rt d) ρ st).seq k = .go (.rt d) ρ st := rfl
@[simp] theorem RS.seq_xc (e : Exc) (ρ : EnvD) (st : Store) (k : EnvD → Store → RS) : (RS.go (.xc e) ρ st).seq k = .go (.xc e) ρ st := rfl
@[simp] theorem RS.seq_bad (k : EnvD → Store → RS) : RS.bad.seq k = .bad := rfl
def forLoop (f : D → EnvD → Store → RS) : List D → EnvD → Store → RS
  | [], ρ, st => .go .nx ρ st
  | d :: ds, ρ, st => (f d ρ st).turn fun ρ st => forLoop f ds ρ st
def liveLoop (n : Nat) (f : D → EnvD → Store → RS) : Nat → Nat → EnvD → Store → RS
  | 0, _, _, _ => .bad
  | k + 1, i, ρ, st => (match st[n]? with
    | some (.lst ds) => (match ds[i]? with
      | some d => (f d ρ st).turn fun ρ st => liveLoop n f k (i + 1) ρ st
      | none => .go .nx ρ st)
    | _ => .bad)
def whlLoop (t : EnvD → Store → Rs Bool) (f : EnvD → Store → RS) : Nat → EnvD → Store → RS
  | 0, _, _ => .bad
  | n + 1, ρ, st => (t ρ st).to ρ fun b st => if b = true then (f ρ st).turn fun ρ st => whlLoop t f n ρ st else .go .nx ρ st
def putF (f : Str) (v : D) : List (Str × D) → List (Str × D)
  | [] => [(f, v)]
  | (g, x) :: r => if g = f then (g, v) :: r else (g, x) :: putF f v r
abbrev nx (ρ : EnvD) (st : Store) : RS := .go .nx ρ st
def bindT (tg : Tg) (st : Store) (d : D) (ρ : EnvD) (k : EnvD → Store → RS) : RS := match asg tg st d ρ with
  | some ρ' => k ρ' st
  | none => .bad
section
variable (Δ : Dn) (fu : Nat)
mutual
noncomputable def ex : S → EnvD → Store → RS
  | .set i e, ρ, st => (ev Δ e ρ st).to ρ fun d st => nx (ρ.set i (some d)) st
  | .asg t e, ρ, st => (ev Δ e ρ st).to ρ fun d st => bindT t st d ρ nx
  | .swp i j a b, ρ, st => (ev Δ a ρ st).to ρ fun x st => (ev Δ b ρ st).to ρ fun y st => nx ((ρ.set i (some x)).set j (some y)) st
  | .stI a i v, ρ, st => (ev Δ v ρ st).to ρ fun z st => (ev Δ a ρ st).to ρ fun x st => (ev Δ i ρ st).to ρ fun y st => (match setix st x y z with
    | some st' => nx ρ st'
    | none => .bad)
  | .stF a f cs v, ρ, st => (ev Δ v ρ st).to ρ fun z st => (ev Δ a ρ st).to ρ fun x st => (match x with
    | .ref n => (match st[n]? with
      | some (.ins c fs) => if (cs.contains c && decide (fs.length < 20)) = true then nx ρ (st.set n (.ins c (putF f z fs))) else .bad
      | _ => .bad)
    | _ => .bad)
  | .aug i op e, ρ, st => (match ρ[i]? with
    | some (some x) => (ev Δ e ρ st).to ρ fun y st => (match augI op x y with
      | some z => nx (ρ.set i (some z)) st
      | none => .bad)
    | _ => .bad)
  | .ext i e, ρ, st => (match ρ[i]? with
    | some (some (.ref n)) => (ev Δ e ρ st).to ρ fun y st => (match st[n]?, listOf st y with
      | some (.lst ds), some l => if ds.length + l.length ≤ line then nx ρ (st.set n (.lst (ds ++ l))) else .bad
      | _, _ => .bad)
    | _ => .bad)
  | .app a v, ρ, st => (ev Δ a ρ st).to ρ fun x st => if isLst st x = true then (ev Δ v ρ st).to ρ fun z st => (match appD st x z with
    | some st' => nx ρ st'
    | none => .bad) else .bad
  | .ife t a b, ρ, st => (evT Δ t ρ st).to ρ fun k st => if k = true then exs a ρ st else exs b ρ st
  | .for tg it b, ρ, st => (evI Δ it ρ st).to ρ fun ds st => forLoop (fun d ρ st => bindT tg st d ρ (exs b)) ds ρ st
  | .whl t b, ρ, st => whlLoop (evT Δ t) (exs b) fu ρ st
  | .ret e, ρ, st => (ev Δ e ρ st).to ρ fun d st => .go (.rt d) ρ st
  | .expr e, ρ, st => (ev Δ e ρ st).to ρ fun _ st => nx ρ st
  | .brk, ρ, st => .go .bk ρ st
  | .cnt, ρ, st => .go .ct ρ st
  | .pass, ρ, st => nx ρ st
  | .drop js, ρ, st => nx (wipe ρ js) st
  | .bad, _, _ => .bad
  | .rse c f a, ρ, st => (ev Δ a ρ st).to ρ fun d st => (match d with
    | .py (.int i) => if smallL i = true then .go (.xc ⟨c, some (f, .int i)⟩) ρ st else .bad
    | _ => .bad)
  | .rse0 c, ρ, st => .go (.xc ⟨c, none⟩) ρ st
  | .tr b i ys ns h, ρ, st => (exs b ρ st).hdl (hdlE i ys ns h)
  | .augI a i op e, ρ, st => (ev Δ a ρ st).to ρ fun x st => (ev Δ i ρ st).to ρ fun y st => (Rs.of (getix st x y) st).to ρ fun z st => (ev Δ e ρ st).to ρ fun v st => (match augI op z v with
    | some r => (match setix st x y r with
      | some st' => nx ρ st'
      | none => .bad)
    | none => .bad)
  | .augF a f cs op e, ρ, st => (ev Δ a ρ st).to ρ fun x st => (match x with
    | .ref n => (match st[n]? with
      | some (.ins c fs) => if cs.contains c = true then (Rs.of (fs.lookup f) st).to ρ fun z st => (ev Δ e ρ st).to ρ fun v st => (match augI op z v with
        | some r => (match st[n]? with
          | some (.ins c' fs') => if (decide (c' = c) && decide (fs'.length < 20)) = true then nx ρ (st.set n (.ins c (putF f r fs'))) else .bad
          | _ => .bad)
        | none => .bad) else .bad
      | _ => .bad)
    | _ => .bad)
  | .extF a f cs e, ρ, st => (ev Δ a ρ st).to ρ fun x st => (match x with
    | .ref n => (match st[n]? with
      | some (.ins c fs) => if cs.contains c = true then (match fs.lookup f with
        | some (.ref m) => (ev Δ e ρ st).to ρ fun v st => (match st[m]?, listOf st v, st[n]? with
          | some (.lst ds), some l, some (.ins c' fs') => if (decide (c' = c) && (decide (fs'.length < 20) && decide (ds.length + l.length ≤ line))) = true then nx ρ ((st.set m (.lst (ds ++ l))).set n (.ins c (putF f (.ref m) fs'))) else .bad
          | _, _, _ => .bad)
        | _ => .bad) else .bad
      | _ => .bad)
    | _ => .bad)
  | .forL tg a b, ρ, st => (ev Δ a ρ st).to ρ fun x st => (match x with
    | .ref n => liveLoop n (fun d ρ st => bindT tg st d ρ (exs b)) fu 0 ρ st
    | _ => .bad)
noncomputable def exs : Ss → EnvD → Store → RS
  | .nil, ρ, st => nx ρ st
  | .cons s r, ρ, st => (ex s ρ st).seq (exs r)
end
/-- behind a call: what no one can reach is forgotten -/
def trim (n : Nat) (d : D) (st : Store) : Store := if refsUnder n 3 d && (st.take n).all (cellUnder n) then st.take n else st
/-- a def: ar parameters, sl slots -/
noncomputable def runFn (ar sl : Nat) (b : Ss) (ds : List D) (st : Store) : Rs D :=
  if ds.length = ar then
    match exs Δ fu b (ds.map some ++ List.replicate (sl - ar) none) st with
    | .go (.rt d) _ st' => .ok d (trim st.length d st')
    | .go .nx _ st' => .ok (.py .none) (trim st.length (.py .none) st')
    | .go (.xc e) _ st' => .ex e (trim st.length (.py .none) st')
    | _ => .bad
  else .bad
end
end Ev
namespace Ev
open PySem PySem.Spec PyProof.Rows L2
def Le (F F' : Hp) : Prop := ∀ a o, F a = some o → F' a = some o
theorem Le.refl {F : Hp} : Le F F := fun _ _ e => e
theorem Le.trans {F G H : Hp} (a : Le F G) (b : Le G H) : Le F H := fun x o e => b x o (a x o e)
theorem Le.sqL {K : PySem.W.Frag} {F G : Hp} (l : Le F G) {a : Addr} {xs : List V} (h : SqL K F a xs) : SqL K G a xs := by
  rcases h with (h | ⟨o, h⟩) | h
  · exact .inl (.inl (l _ _ h))
  · exact .inl (.inr ⟨o, l _ _ h⟩)
  · exact .inr h
mutual
inductive Dq (F : Hp) : V → PyData → Prop
  | non : Dq F .non .none
  | bl (b : Bool) : Dq F (.bl b) (.bool b)
  | int (i : Int) : Dq F (.int i) (.int i)
  | str (x : Str) : Dq F (.str x) (.str x)
  | lst {a : Addr} {xs : List V} {ds : List PyData} : F a = some (.lst xs) → DqAll F xs ds → Dq F (.ref a) (.list ds)
  | tup {a : Addr} {xs : List V} {ds : List PyData} : F a = some (.tup xs) → DqAll F xs ds → Dq F (.ref a) (.tuple ds)
inductive DqAll (F : Hp) : List V → List PyData → Prop
  | nil : DqAll F [] []
  | cons {v : V} {vs : List V} {d : PyData} {ds : List PyData} : Dq F v d → DqAll F vs ds → DqAll F (v :: vs) (d :: ds)
end
mutual
theorem Dq.mono {F G : Hp} (l : Le F G) : ∀ {v : V} {d : PyData}, Dq F v d → Dq G v d
  | _, _, .non => .non
  | _, _, .bl b => .bl b
  | _, _, .int i => .int i
  | _, _, .str x => .str x
  | _, _, .lst h t => .lst (l _ _ h) (DqAll.mono l t)
  | _, _, .tup h t => .tup (l _ _ h) (DqAll.mono l t)
theorem DqAll.mono {F G : Hp} (l : Le F G) : ∀ {vs : List V} {ds : List PyData}, DqAll F vs ds → DqAll G vs ds
  | _, _, .nil => .nil
  | _, _, .cons h t => .cons (Dq.mono l h) (DqAll.mono l t)
end
mutual
theorem Dq.dp {K : PySem.W.Frag} {F : Hp} : ∀ {v : V} {d : PyData}, Dq F v d → Dp K F v d
  | _, _, .non => .non
  | _, _, .bl b => .bl b
  | _, _, .int i => .int i
  | _, _, .str x => .str x
  | _, _, .lst h t => .lst (.inl (.inl h)) (DqAll.dp t)
  | _, _, .tup h t => .tup (.inl (.inl h)) (DqAll.dp t)
theorem DqAll.dp {K : PySem.W.Frag} {F : Hp} : ∀ {vs : List V} {ds : List PyData}, DqAll F vs ds → DpAll K F vs ds
  | _, _, .nil => .nil
  | _, _, .cons h t => .cons (Dq.dp h) (DqAll.dp t)
end
theorem DqAll.length {F : Hp} : ∀ {vs : List V} {ds : List PyData}, DqAll F vs ds → vs.length = ds.length
  | _, _, .nil => rfl
  | _, _, .cons _ t => by rw [List.length_cons, List.length_cons, DqAll.length t]
theorem DqAll.get {F : Hp} : ∀ {vs : List V} {ds : List PyData} {j : Nat} {d : PyData}, DqAll F vs ds → ds[j]? = some d → ∃ v, vs[j]? = some v ∧ Dq F v d
  | _, _, _, _, .nil, e => by simp at e
  | _, _, 0, _, .cons h _, e => by simp at e; subst e; exact ⟨_, rfl, h⟩
  | _, _, j + 1, _, .cons _ t, e => by
    obtain ⟨v, h1, h2⟩ := DqAll.get (j := j) t (by simpa using e)
    exact ⟨v, by simpa using h1, h2⟩
theorem DqAll.append {F : Hp} : ∀ {vs : List V} {ds : List PyData} {us : List V} {es : List PyData}, DqAll F vs ds → DqAll F us es → DqAll F (vs ++ us) (ds ++ es)
  | _, _, _, _, .nil, h => h
  | _, _, _, _, .cons h t, g => .cons h (DqAll.append t g)
theorem DqAll.rep {F : Hp} {vs : List V} {ds : List PyData} (h : DqAll F vs ds) : ∀ n : Nat, DqAll F (List.replicate n vs).flatten (List.replicate n ds).flatten
  | 0 => .nil
  | n + 1 => by
    rw [List.replicate_succ, List.replicate_succ, List.flatten_cons, List.flatten_cons]
    exact h.append (DqAll.rep h n)
theorem DqAll.drop {F : Hp} : ∀ {vs : List V} {ds : List PyData} (n : Nat), DqAll F vs ds → DqAll F (vs.drop n) (ds.drop n)
  | _, _, 0, h => h
  | _, _, _ + 1, .nil => .nil
  | _, _, n + 1, .cons _ t => DqAll.drop n t
theorem DqAll.take {F : Hp} : ∀ {vs : List V} {ds : List PyData} (n : Nat), DqAll F vs ds → DqAll F (vs.take n) (ds.take n)
  | _, _, 0, _ => .nil
  | _, _, _ + 1, .nil => .nil
  | _, _, n + 1, .cons h t => .cons h (DqAll.take n t)
theorem DqAll.ints {F : Hp} : ∀ {vs : List V} {ds : List PyData} {ns : List Int}, DqAll F vs ds → intsOf ds = some ns → vs = ns.map V.int
  | _, _, _, .nil, e => by cases e; rfl
  | _, _, _, .cons (d := .int i) (.int _) t, e => by
    simp only [intsOf, Option.map_eq_some_iff] at e
    obtain ⟨ms, e1, rfl⟩ := e
    rw [DqAll.ints t e1]; rfl
  | _, _, _, .cons (d := .none) _ _, e => by simp [intsOf] at e
  | _, _, _, .cons (d := .bool _) _ _, e => by simp [intsOf] at e
  | _, _, _, .cons (d := .str _) _ _, e => by simp [intsOf] at e
  | _, _, _, .cons (d := .list _) _ _, e => by simp [intsOf] at e
  | _, _, _, .cons (d := .tuple _) _ _, e => by simp [intsOf] at e
  | _, _, _, .cons (d := .dict _) _ _, e => by simp [intsOf] at e

/-- where the classes stand among the addresses -/
abbrev cOff : Nat := 1000000
abbrev tOff : Nat := 2000000
section
variable (K : PySem.W.Frag) (fa : Nat → Addr)
mutual
inductive RV (w : List Addr) (F : Hp) : V → D → Prop
  | py {v : V} {d : PyData} : Dq F v d → RV w F v (.py d)
  | scr {a : Addr} {ns : List Int} : SqL K F a (ns.map V.int) → RV w F (.ref a) (.scr ns)
  | ref {n : Nat} {a : Addr} : w[n]? = some a → RV w F (.ref a) (.ref n)
  | fn {f : Nat} : RV w F (.ref (fa f)) (.fn f)
  | tp {a : Addr} {vs : List V} {ds : List D} : F a = some (.tup vs) → RVs w F vs ds → RV w F (.ref a) (.tp ds)
  | ob {a : Addr} {c : Nat} {dx : Addr} {fv : List (Str × V)} {fs : List (Str × PD)} : F a = some (.ins (fa (cOff + c)) dx fv) → Paired (fun (p : Str × V) (q : Str × PD) => p.1 = q.1 ∧ Dq F p.2 q.2) fv fs → RV w F (.ref a) (.ob c fs)
inductive RVs (w : List Addr) (F : Hp) : List V → List D → Prop
  | nil : RVs w F [] []
  | cons {v : V} {vs : List V} {d : D} {ds : List D} : RV w F v d → RVs w F vs ds → RVs w F (v :: vs) (d :: ds)
end
end
theorem pre_get {w w' : List Addr} (p : w <+: w') {n : Nat} {a : Addr} (h : w[n]? = some a) : w'[n]? = some a := by
  obtain ⟨r, rfl⟩ := p
  rw [List.getElem?_append_left (List.getElem?_eq_some_iff.mp h).1]
  exact h
section
variable {K : PySem.W.Frag} {fa : Nat → Addr} {w w' : List Addr} {F G : Hp}
mutual
theorem RV.mono (p : ∀ (n : Nat) (a : Addr), w[n]? = some a → w'[n]? = some a) (l : Le F G) : ∀ {v : V} {d : D}, RV K fa w F v d → RV K fa w' G v d
  | _, _, .py h => .py (Dq.mono l h)
  | _, _, .scr h => .scr (l.sqL h)
  | _, _, .ref h => .ref (p _ _ h)
  | _, _, .fn => .fn
  | _, _, .tp h t => .tp (l _ _ h) (RVs.mono p l t)
  | _, _, .ob h t => .ob (l _ _ h) (Paired.mapP t fun _ _ z => ⟨z.1, Dq.mono l z.2⟩)
theorem RVs.mono (p : ∀ (n : Nat) (a : Addr), w[n]? = some a → w'[n]? = some a) (l : Le F G) : ∀ {vs : List V} {ds : List D}, RVs K fa w F vs ds → RVs K fa w' G vs ds
  | _, _, .nil => .nil
  | _, _, .cons h t => .cons (RV.mono p l h) (RVs.mono p l t)
end
theorem RVs.length : ∀ {vs : List V} {ds : List D}, RVs K fa w F vs ds → vs.length = ds.length
  | _, _, .nil => rfl
  | _, _, .cons _ t => by rw [List.length_cons, List.length_cons, RVs.length t]
theorem RVs.get : ∀ {vs : List V} {ds : List D} {j : Nat} {d : D}, RVs K fa w F vs ds → ds[j]? = some d → ∃ v, vs[j]? = some v ∧ RV K fa w F v d
  | _, _, _, _, .nil, e => by simp at e
  | _, _, 0, _, .cons h _, e => by simp at e; subst e; exact ⟨_, rfl, h⟩
  | _, _, j + 1, _, .cons _ t, e => by
    obtain ⟨v, h1, h2⟩ := RVs.get (j := j) t (by simpa using e)
    exact ⟨v, by simpa using h1, h2⟩
theorem RVs.getV : ∀ {vs : List V} {ds : List D} {j : Nat} {v : V}, RVs K fa w F vs ds → vs[j]? = some v → ∃ d, ds[j]? = some d ∧ RV K fa w F v d
  | _, _, _, _, .nil, e => by simp at e
  | _, _, 0, _, .cons h _, e => by simp at e; subst e; exact ⟨_, rfl, h⟩
  | _, _, j + 1, _, .cons _ t, e => by
    obtain ⟨v, h1, h2⟩ := RVs.getV (j := j) t (by simpa using e)
    exact ⟨v, by simpa using h1, h2⟩
theorem RVs.append : ∀ {vs : List V} {ds : List D} {us : List V} {es : List D}, RVs K fa w F vs ds → RVs K fa w F us es → RVs K fa w F (vs ++ us) (ds ++ es)
  | _, _, _, _, .nil, h => h
  | _, _, _, _, .cons h t, g => .cons h (RVs.append t g)
theorem RVs.set {v : V} {d : D} (r : RV K fa w F v d) : ∀ {vs : List V} {ds : List D} (j : Nat), RVs K fa w F vs ds → RVs K fa w F (vs.set j v) (ds.set j d)
  | _, _, _, .nil => .nil
  | _, _, 0, .cons _ t => .cons r t
  | _, _, j + 1, .cons h t => .cons h (RVs.set r j t)
theorem RVs.of_dq : ∀ {vs : List V} {ds : List PyData}, DqAll F vs ds → RVs K fa w F vs (ds.map .py)
  | _, _, .nil => .nil
  | _, _, .cons h t => .cons (.py h) (RVs.of_dq t)
theorem RVs.pys : ∀ {vs : List V} {ds : List D} {ps : List PyData}, RVs K fa w F vs ds → Ev.pys ds = some ps → DqAll F vs ps
  | _, _, _, .nil, e => by cases e; exact .nil
  | _, _, _, .cons (d := .py d) (.py h) t, e => by
    simp only [Ev.pys, Option.map_eq_some_iff] at e
    obtain ⟨qs, e1, e2⟩ := e
    subst e2
    exact .cons h (RVs.pys t e1)
  | _, _, _, .cons (d := .ref _) _ _, e => by simp [Ev.pys] at e
  | _, _, _, .cons (d := .fn _) _ _, e => by simp [Ev.pys] at e
  | _, _, _, .cons (d := .tp _) _ _, e => by simp [Ev.pys] at e
  | _, _, _, .cons (d := .scr _) _ _, e => by simp [Ev.pys] at e
  | _, _, _, .cons (d := .ob _ _) _ _, e => by simp [Ev.pys] at e
end

def Cell.live : Cell → Prop
  | .frz _ => False
  | _ => True
def Live (w : List Addr) (st : Store) (a : Addr) : Prop := ∃ (n : Nat) (c : Cell), w[n]? = some a ∧ st[n]? = some c ∧ c.live
/-- what does not change: all but the cells that live and what is kept aside -/
noncomputable def FZ (hid : List Addr) (w : List Addr) (st : Store) (H : Hp) : Hp := fun a => open Classical in if Live w st a ∨ a ∈ hid then none else H a
theorem FZ.at {hid w : List Addr} {st : Store} {H : Hp} {a : Addr} {o : HO} : FZ hid w st H a = some o ↔ ¬ Live w st a ∧ a ∉ hid ∧ H a = some o := by
  unfold FZ
  by_cases h : Live w st a ∨ a ∈ hid
  · rw [if_pos h]
    constructor
    · intro q; cases q
    · rintro ⟨h1, h2, _⟩; exact (h.elim h1 h2).elim
  · rw [if_neg h]
    constructor
    · intro q; exact ⟨fun z => h (.inl z), fun z => h (.inr z), q⟩
    · rintro ⟨_, _, q⟩; exact q
theorem FZ.le {hid w : List Addr} {st : Store} {H : Hp} : Le (FZ hid w st H) H := fun _ _ e => (FZ.at.mp e).2.2
section
variable (K : PySem.W.Frag) (fa ca : Nat → Addr)
def CellOk (K : PySem.W.Frag) (fa ca : Nat → Addr) (w : List Addr) (F H : Hp) (a : Addr) : Cell → Prop
  | .lst ds => ∃ vs, H a = some (.lst vs) ∧ RVs K fa w F vs ds
  | .dct kvs => ∃ kv : List (List Key × V), H a = some (.dT kv) ∧ Paired (fun (p : List Key × V) (q : List Int × D) => p.1 = q.1.map Sum.inl ∧ RV K fa w F p.2 q.2) kv kvs
  | .ins c fs => ∃ (dx : Addr) (fv : List (Str × V)), H a = some (.ins (fa (cOff + c)) dx fv) ∧ Paired (fun (p : Str × V) (q : Str × D) => p.1 = q.1 ∧ RV K fa w F p.2 q.2) fv fs
  | .frz d => Dq F (.ref a) d
  | .tab j => a = fa (tOff + j) ∧ GxR.TabG H a
structure Good (hid w : List Addr) (st : Store) (H : Hp) : Prop where
  len : w.length = st.length
  nd : w.Nodup
  trk : ∀ a ∈ w, ∃ o, H a = some o
  asd : ∀ a ∈ hid, a ∉ w ∧ ∃ o, H a = some o
  cells : ∀ (n : Nat) (a : Addr) (c : Cell), w[n]? = some a → st[n]? = some c → CellOk K fa ca w (FZ hid w st H) H a c
structure Ext (hid w : List Addr) (st : Store) (H : Hp) (w' : List Addr) (st' : Store) (H' : Hp) : Prop where
  pre : w <+: w'
  le : Le (FZ hid w st H) (FZ hid w' st' H')
  asd : ∀ a ∈ hid, H' a = H a
def Slots (w : List Addr) (F : Hp) (ρ : EnvD) (σ : L2.St) : Prop := ρ.length = σ.length ∧ ∀ (i : Nat) (d : D), ρ[i]? = some (some d) → ∃ v, σ[i]? = some (some v) ∧ RV K fa w F v d
end
section
variable {K : PySem.W.Frag} {fa ca : Nat → Addr} {hid w w' w1 w2 : List Addr} {st st' st1 st2 : Store} {H H' H1 H2 : Hp}
theorem Ext.refl : Ext hid w st H w st H := ⟨List.prefix_refl _, Le.refl, fun _ _ => rfl⟩
theorem Ext.trans (a : Ext hid w st H w1 st1 H1) (b : Ext hid w1 st1 H1 w2 st2 H2) : Ext hid w st H w2 st2 H2 :=
  ⟨a.pre.trans b.pre, a.le.trans b.le, fun x h => (b.asd x h).trans (a.asd x h)⟩
theorem Ext.rv (x : Ext hid w st H w' st' H') {v : V} {d : D} (r : RV K fa w (FZ hid w st H) v d) : RV K fa w' (FZ hid w' st' H') v d := r.mono (fun _ _ h => pre_get x.pre h) x.le
theorem Ext.rvs (x : Ext hid w st H w' st' H') {vs : List V} {ds : List D} (r : RVs K fa w (FZ hid w st H) vs ds) : RVs K fa w' (FZ hid w' st' H') vs ds := r.mono (fun _ _ h => pre_get x.pre h) x.le
theorem Ext.slots (x : Ext hid w st H w' st' H') {ρ : EnvD} {σ : L2.St} (r : Slots K fa w (FZ hid w st H) ρ σ) : Slots K fa w' (FZ hid w' st' H') ρ σ :=
  ⟨r.1, fun i d e => let ⟨v, h1, h2⟩ := r.2 i d e; ⟨v, h1, x.rv h2⟩⟩
theorem w_inj (nd : w.Nodup) {n m : Nat} {a : Addr} (h : w[n]? = some a) (h' : w[m]? = some a) : n = m := by
  obtain ⟨h1, e1⟩ := List.getElem?_eq_some_iff.mp h
  obtain ⟨h2, e2⟩ := List.getElem?_eq_some_iff.mp h'
  exact (List.getElem_inj nd).mp (e1.trans e2.symm)
theorem Good.cell (g : Good K fa ca hid w st H) {n : Nat} {c : Cell} (e : st[n]? = some c) : ∃ a, w[n]? = some a ∧ CellOk K fa ca w (FZ hid w st H) H a c := by
  have h : n < w.length := by rw [g.len]; exact (List.getElem?_eq_some_iff.mp e).1
  exact ⟨w[n], List.getElem?_eq_getElem h, g.cells n _ c (List.getElem?_eq_getElem h) e⟩
theorem CellOk.keep {F F' : Hp} {a : Addr} {c : Cell} (h : CellOk K fa ca w F H a c) (p : ∀ (n : Nat) (a : Addr), w[n]? = some a → w'[n]? = some a) (l : Le F F') (e : c.live → H' a = H a) : CellOk K fa ca w' F' H' a c := by
  cases c with
  | lst ds => obtain ⟨vs, h1, h2⟩ := h; exact ⟨vs, (e trivial).trans h1, h2.mono p l⟩
  | dct kvs => obtain ⟨kv, h1, h2⟩ := h; exact ⟨kv, (e trivial).trans h1, Paired.mapP h2 fun _ _ z => ⟨z.1, z.2.mono p l⟩⟩
  | ins c fs => obtain ⟨dx, fv, h1, h2⟩ := h; exact ⟨dx, fv, (e trivial).trans h1, Paired.mapP h2 fun _ _ z => ⟨z.1, z.2.mono p l⟩⟩
  | frz d => exact Dq.mono l h
  | tab j => exact ⟨h.1, by unfold GxR.TabG; rw [e trivial]; exact h.2⟩
/-- an address that is not tracked is nowhere -/
theorem Good.notw (g : Good K fa ca hid w st H) {p : Addr} (hp : H p = none) : p ∉ w := fun h => by
  obtain ⟨o, e⟩ := g.trk p h
  rw [hp] at e; cases e
theorem Good.noth (g : Good K fa ca hid w st H) {p : Addr} (hp : H p = none) : p ∉ hid := fun h => by
  obtain ⟨_, o, e⟩ := g.asd p h
  rw [hp] at e; cases e
theorem not_live {p : Addr} (h : p ∉ w) : ¬ Live w st p := fun ⟨n, c, e, _⟩ => h (List.mem_of_getElem? e)
/-- a new frozen object -/
theorem Ext.new (g : Good K fa ca hid w st H) {p : Addr} {o : HO} (hp : H p = none) : Ext hid w st H w st (upd H p o) := by
  refine ⟨List.prefix_refl _, fun a u e => ?_, fun a h => upd_ne fun z => g.noth hp (z ▸ h)⟩
  obtain ⟨h1, h2, h3⟩ := FZ.at.mp e
  exact FZ.at.mpr ⟨h1, h2, by rw [upd_ne (ne_of_none h3 hp)]; exact h3⟩
theorem Good.new (g : Good K fa ca hid w st H) {p : Addr} {o : HO} (hp : H p = none) : Good K fa ca hid w st (upd H p o) := by
  have x := Ext.new (o := o) g hp
  refine ⟨g.len, g.nd, fun a h => ?_, fun a h => ?_, fun n a c h1 h2 => ?_⟩
  · obtain ⟨u, e⟩ := g.trk a h
    exact ⟨u, by rw [upd_ne (ne_of_none e hp)]; exact e⟩
  · obtain ⟨h1, u, e⟩ := g.asd a h
    exact ⟨h1, u, by rw [upd_ne (ne_of_none e hp)]; exact e⟩
  · obtain ⟨u, e⟩ := g.trk a (List.mem_of_getElem? h1)
    exact (g.cells n a c h1 h2).keep (fun _ _ z => z) x.le fun _ => upd_ne (ne_of_none e hp)
theorem FZ.new (g : Good K fa ca hid w st H) {p : Addr} {o : HO} (hp : H p = none) : FZ hid w st (upd H p o) p = some o :=
  FZ.at.mpr ⟨not_live (g.notw hp), g.noth hp, upd_same⟩
/-- an object kept aside is shown -/
theorem Good.show (g : Good K fa ca (p :: hid) w st H) : Good K fa ca hid w st H := by
  refine ⟨g.len, g.nd, g.trk, fun a h => g.asd a (List.mem_cons_of_mem _ h), fun n a c h1 h2 => (g.cells n a c h1 h2).keep (fun _ _ z => z) (fun b u e => ?_) fun _ => rfl⟩
  obtain ⟨h1, h2, h3⟩ := FZ.at.mp e
  exact FZ.at.mpr ⟨h1, fun z => h2 (List.mem_cons_of_mem _ z), h3⟩
theorem FZ.show {p : Addr} : Le (FZ (p :: hid) w st H) (FZ hid w st H) := fun b u e => by
  obtain ⟨h1, h2, h3⟩ := FZ.at.mp e
  exact FZ.at.mpr ⟨h1, fun z => h2 (List.mem_cons_of_mem _ z), h3⟩
/-- a new object is kept aside -/
theorem Good.aside (g : Good K fa ca hid w st H) {p : Addr} {o : HO} (hp : H p = none) : Good K fa ca (p :: hid) w st (upd H p o) := by
  have e : Le (FZ hid w st H) (FZ (p :: hid) w st (upd H p o)) := fun a u e => by
    obtain ⟨h1, h2, h3⟩ := FZ.at.mp e
    have ne := ne_of_none h3 hp
    exact FZ.at.mpr ⟨h1, fun z => (List.mem_cons.mp z).elim ne h2, by rw [upd_ne ne]; exact h3⟩
  refine ⟨g.len, g.nd, fun a h => ?_, fun a h => ?_, fun n a c h1 h2 => ?_⟩
  · obtain ⟨u, e⟩ := g.trk a h
    exact ⟨u, by rw [upd_ne (ne_of_none e hp)]; exact e⟩
  · rcases List.mem_cons.mp h with rfl | h
    · exact ⟨g.notw hp, o, upd_same⟩
    · obtain ⟨h1, u, e⟩ := g.asd a h
      exact ⟨h1, u, by rw [upd_ne (ne_of_none e hp)]; exact e⟩
  · obtain ⟨u, e'⟩ := g.trk a (List.mem_of_getElem? h1)
    exact (g.cells n a c h1 h2).keep (fun _ _ z => z) e fun _ => upd_ne (ne_of_none e' hp)
theorem FZ.aside (g : Good K fa ca hid w st H) {p : Addr} {o : HO} (hp : H p = none) : Le (FZ hid w st H) (FZ (p :: hid) w st (upd H p o)) := fun a u e => by
  obtain ⟨h1, h2, h3⟩ := FZ.at.mp e
  have ne := ne_of_none h3 hp
  exact FZ.at.mpr ⟨h1, fun z => (List.mem_cons.mp z).elim ne h2, by rw [upd_ne ne]; exact h3⟩
/-- an object kept aside changes -/
theorem FZ.turn {p : Addr} {o : HO} (hp : p ∈ hid) : FZ hid w st (upd H p o) = FZ hid w st H := by
  funext a
  by_cases e : a = p
  · subst e
    unfold FZ
    rw [if_pos (Or.inr hp), if_pos (Or.inr hp)]
  · unfold FZ
    rw [upd_ne e]
theorem Good.turn (g : Good K fa ca hid w st H) {p : Addr} {o : HO} (hp : p ∈ hid) : Good K fa ca hid w st (upd H p o) := by
  have up : ∀ b, (∃ u, H b = some u) → ∃ u, upd H p o b = some u := fun b ⟨u, e⟩ => by
    by_cases q : b = p
    · exact ⟨o, by rw [q]; exact upd_same⟩
    · exact ⟨u, by rw [upd_ne q]; exact e⟩
  refine ⟨g.len, g.nd, fun a h => up a (g.trk a h), fun a h => ⟨(g.asd a h).1, up a (g.asd a h).2⟩, fun n a c h1 h2 => ?_⟩
  have ne : a ≠ p := fun z => (g.asd p hp).1 (z ▸ List.mem_of_getElem? h1)
  rw [FZ.turn hp]
  exact (g.cells n a c h1 h2).keep (fun _ _ z => z) Le.refl fun _ => upd_ne ne
/-- an object kept aside becomes a cell -/
theorem live_app {p : Addr} {c : Cell} {a : Addr} (hl : w.length = st.length) (lc : c.live) : Live (w ++ [p]) (st ++ [c]) a ↔ Live w st a ∨ a = p := by
  constructor
  · rintro ⟨n, c', h1, h2, h3⟩
    by_cases hn : n < w.length
    · rw [List.getElem?_append_left hn] at h1
      rw [List.getElem?_append_left (by omega)] at h2
      exact .inl ⟨n, c', h1, h2, h3⟩
    · rw [List.getElem?_append_right (by omega)] at h1
      cases e : n - w.length with
      | zero => rw [e] at h1; exact .inr (Option.some.inj h1).symm
      | succ k => rw [e] at h1; simp at h1
  · rintro (⟨n, c', h1, h2, h3⟩ | rfl)
    · have hn := (List.getElem?_eq_some_iff.mp h1).1
      exact ⟨n, c', by rw [List.getElem?_append_left hn]; exact h1, by rw [List.getElem?_append_left (by omega)]; exact h2, h3⟩
    · exact ⟨w.length, c, by simp, by rw [hl]; simp, lc⟩
theorem FZ.toCell {p : Addr} {c : Cell} (hl : w.length = st.length) (lc : c.live) : FZ hid (w ++ [p]) (st ++ [c]) H = FZ (p :: hid) w st H := by
  funext a
  unfold FZ
  have : (Live (w ++ [p]) (st ++ [c]) a ∨ a ∈ hid) ↔ (Live w st a ∨ a ∈ p :: hid) := by
    rw [live_app hl lc, List.mem_cons, or_assoc]
  by_cases h : Live w st a ∨ a ∈ p :: hid
  · rw [if_pos h, if_pos (this.mpr h)]
  · rw [if_neg h, if_neg (fun z => h (this.mp z))]
theorem Good.toCell (g : Good K fa ca (p :: hid) w st H) {c : Cell} (lc : c.live) (hp : p ∉ hid) (ok : CellOk K fa ca (w ++ [p]) (FZ (p :: hid) w st H) H p c) : Good K fa ca hid (w ++ [p]) (st ++ [c]) H := by
  have pw := (g.asd p List.mem_cons_self).1
  have pre : ∀ (n : Nat) (a : Addr), w[n]? = some a → (w ++ [p])[n]? = some a := fun n a h => pre_get (List.prefix_append _ _) h
  refine ⟨by rw [List.length_append, List.length_append, g.len]; rfl, ?_, fun a h => ?_, fun a h => ?_, fun n a c' h1 h2 => ?_⟩
  · rw [List.nodup_append]
    refine ⟨g.nd, by simp, fun a ha b hb => ?_⟩
    rw [List.mem_singleton.mp hb]
    exact fun z => pw (z ▸ ha)
  · rcases List.mem_append.mp h with h | h
    · exact g.trk a h
    · rw [List.mem_singleton.mp h]
      exact (g.asd p List.mem_cons_self).2
  · obtain ⟨h1, h2⟩ := g.asd a (List.mem_cons_of_mem _ h)
    refine ⟨fun z => ?_, h2⟩
    rcases List.mem_append.mp z with z | z
    · exact h1 z
    · rw [List.mem_singleton.mp z] at h
      exact hp h
  · rw [FZ.toCell g.len lc]
    by_cases hn : n < w.length
    · rw [List.getElem?_append_left hn] at h1
      rw [List.getElem?_append_left (by rw [← g.len]; exact hn)] at h2
      exact (g.cells n a c' h1 h2).keep pre Le.refl fun _ => rfl
    · rw [List.getElem?_append_right (by omega)] at h1
      rw [List.getElem?_append_right (by rw [← g.len]; omega)] at h2
      cases e : n - w.length with
      | zero =>
        rw [e] at h1
        rw [← g.len, e] at h2
        cases h1
        cases h2
        exact ok
      | succ k => rw [e] at h1; simp at h1
theorem Ext.toCell {c : Cell} (hl : w.length = st.length) (lc : c.live) : Le (FZ (p :: hid) w st H) (FZ hid (w ++ [p]) (st ++ [c]) H) := by
  rw [FZ.toCell hl lc]
  exact Le.refl
/-- a cell changes -/
theorem live_set {n : Nat} {a b : Addr} {c c' : Cell} (h1 : st[n]? = some c) (l1 : c.live) (l2 : c'.live) : Live w (st.set n c') b ↔ Live w st b := by
  have hn := (List.getElem?_eq_some_iff.mp h1).1
  constructor
  · rintro ⟨m, d, e1, e2, e3⟩
    by_cases q : n = m
    · subst q; exact ⟨n, c, e1, h1, l1⟩
    · rw [List.getElem?_set_ne q] at e2; exact ⟨m, d, e1, e2, e3⟩
  · rintro ⟨m, d, e1, e2, e3⟩
    by_cases q : n = m
    · subst q; exact ⟨n, c', e1, List.getElem?_set_self hn, l2⟩
    · exact ⟨m, d, e1, by rw [List.getElem?_set_ne q]; exact e2, e3⟩
theorem FZ.write {n : Nat} {a : Addr} {c c' : Cell} {o : HO} (h0 : w[n]? = some a) (h1 : st[n]? = some c) (l1 : c.live) (l2 : c'.live) : FZ hid w (st.set n c') (upd H a o) = FZ hid w st H := by
  funext b
  by_cases e : b = a
  · subst e
    have L : Live w st b := ⟨n, c, h0, h1, l1⟩
    unfold FZ
    rw [if_pos (Or.inl ((live_set (a := b) h1 l1 l2).mpr L)), if_pos (Or.inl L)]
  · unfold FZ
    rw [upd_ne e]
    by_cases h : Live w st b ∨ b ∈ hid
    · rw [if_pos h, if_pos (h.imp (live_set (a := a) h1 l1 l2).mpr id)]
    · rw [if_neg h, if_neg fun z => h (z.imp (live_set (a := a) h1 l1 l2).mp id)]
theorem Ext.write (g : Good K fa ca hid w st H) {n : Nat} {a : Addr} {c c' : Cell} {o : HO} (h0 : w[n]? = some a) (h1 : st[n]? = some c) (l1 : c.live) (l2 : c'.live) : Ext hid w st H w (st.set n c') (upd H a o) :=
  ⟨List.prefix_refl _, by rw [FZ.write h0 h1 l1 l2]; exact Le.refl, fun b hb => upd_ne fun z => (g.asd b hb).1 (z ▸ List.mem_of_getElem? h0)⟩
theorem Good.write (g : Good K fa ca hid w st H) {n : Nat} {a : Addr} {c c' : Cell} {o : HO} (h0 : w[n]? = some a) (h1 : st[n]? = some c) (l1 : c.live) (l2 : c'.live)
    (ok : CellOk K fa ca w (FZ hid w st H) (upd H a o) a c') : Good K fa ca hid w (st.set n c') (upd H a o) := by
  have up : ∀ b, (∃ u, H b = some u) → ∃ u, upd H a o b = some u := fun b ⟨u, e⟩ => by
    by_cases q : b = a
    · exact ⟨o, by rw [q]; exact upd_same⟩
    · exact ⟨u, by rw [upd_ne q]; exact e⟩
  refine ⟨by rw [List.length_set]; exact g.len, g.nd, fun b h => up b (g.trk b h), fun b h => ⟨(g.asd b h).1, up b (g.asd b h).2⟩, fun m b d e1 e2 => ?_⟩
  rw [FZ.write h0 h1 l1 l2]
  by_cases q : n = m
  · subst q
    rw [h0] at e1; cases e1
    rw [List.getElem?_set_self (List.getElem?_eq_some_iff.mp h1).1] at e2
    cases e2
    exact ok
  · rw [List.getElem?_set_ne q] at e2
    have ne : b ≠ a := fun z => q (w_inj g.nd h0 (z ▸ e1))
    exact (g.cells m b d e1 e2).keep (fun _ _ z => z) Le.refl fun _ => upd_ne ne
/-- a cell is frozen -/
theorem Le.freeze {n : Nat} {d : PD} : Le (FZ hid w st H) (FZ hid w (st.set n (.frz d)) H) := fun b u e => by
  obtain ⟨h1, h2, h3⟩ := FZ.at.mp e
  refine FZ.at.mpr ⟨?_, h2, h3⟩
  rintro ⟨m, c, e1, e2, e3⟩
  by_cases q : n = m
  · subst q
    rw [List.getElem?_set] at e2
    split at e2
    · split at e2
      · cases e2; exact e3
      · cases e2
    · rename_i z; exact z rfl
  · rw [List.getElem?_set_ne q] at e2
    exact h1 ⟨m, c, e1, e2, e3⟩
theorem Ext.freeze {n : Nat} {d : PD} : Ext hid w st H w (st.set n (.frz d)) H := ⟨List.prefix_refl _, Le.freeze, fun _ _ => rfl⟩
theorem Good.freeze (g : Good K fa ca hid w st H) {n : Nat} {a : Addr} {d : PD} (h0 : w[n]? = some a) (ok : Dq (FZ hid w (st.set n (.frz d)) H) (.ref a) d) : Good K fa ca hid w (st.set n (.frz d)) H := by
  refine ⟨by rw [List.length_set]; exact g.len, g.nd, g.trk, g.asd, fun m b c e1 e2 => ?_⟩
  by_cases q : n = m
  · subst q
    rw [h0] at e1; cases e1
    have hn : n < st.length := by rw [← g.len]; exact (List.getElem?_eq_some_iff.mp h0).1
    rw [List.getElem?_set_self hn] at e2
    cases e2
    exact ok
  · rw [List.getElem?_set_ne q] at e2
    exact (g.cells m b c e1 e2).keep (fun _ _ z => z) Le.freeze fun _ => rfl
end
end Ev
set_option maxHeartbeats 1000000
namespace Ev
open PySem PySem.Spec PyProof.Rows L2
theorem PE.imp {X : Cx} {e : Expr} {t t' : TE} (h : PE X e t) (i : ∀ σ H Q, t' σ H Q → t σ H Q) : PE X e t' := ⟨fun pins s σ H Q I q => h.run pins s σ H Q I (i σ H Q q)⟩
theorem PT.imp {X : Cx} {e : Expr} {t t' : TT} (h : PT X e t) (i : ∀ σ H Q, t' σ H Q → t σ H Q) : PT X e t' := ⟨fun pins s σ H Q I q => h.run pins s σ H Q I (i σ H Q q)⟩
theorem PA.imp {X : Cx} {e : List Expr} {t t' : TA} (h : PA X e t) (i : ∀ σ H Q, t' σ H Q → t σ H Q) : PA X e t' := ⟨fun p pins s σ H Q I q => h.run p pins s σ H Q I (i σ H Q q)⟩
theorem PS.imp {X : Cx} {e : Stmt} {t t' : TS} (h : PS X e t) (i : ∀ D σ H, t' D σ H → t D σ H) : PS X e t' := ⟨fun pins s σ H D I q => h.run pins s σ H D I (i D σ H q)⟩
theorem PSs.imp {X : Cx} {e : List Stmt} {t t' : TS} (h : PSs X e t) (i : ∀ D σ H, t' D σ H → t D σ H) : PSs X e t' := ⟨fun pins s σ H D I q => h.run pins s σ H D I (i D σ H q)⟩
theorem PI.imp {X : Cx} {tg e : Expr} {t t' : TI} (h : PI X tg e t) (i : ∀ σ H R, t' σ H R → t σ H R) : PI X tg e t' := ⟨fun pins s σ H R I q => h.run pins s σ H R I (i σ H R q)⟩
theorem OpR.or {X : Cx} {f : Value → Value → Sem Value} {r r' : R2} (h : OpR X f r) (h' : OpR X f r') : OpR X f (fun x y H Q => r x y H Q ∨ r' x y H Q) := fun pins s σ H x y v u Q I rx ry q => q.elim (h pins s σ H x y v u Q I rx ry) (h' pins s σ H x y v u Q I rx ry)

section
/-- an error as it lies -/
def RX (ca : Nat → Addr) (cls : Value) (dd : Option Addr) (H : Hp) (e : Exc) : Prop := cls = .ref (ca e.cls) ∧ (e.fld = none → dd = none) ∧ ∀ f p, e.fld = some (f, p) → ∃ d v, dd = some d ∧ H d = some (.xd [(f, v)]) ∧ Dq (fun _ => none) v p
variable (K : PySem.W.Frag) (fa ca : Nat → Addr) {α β : Type} (rel : List Addr → Hp → β → α → Prop)
def PostG (hid w : List Addr) (st : Store) (H : Hp) (E : XK) (r : Rs α) (Q : β → Hp → Prop) : Prop := match r with
  | .ok d st' => ∀ x w' H', Ext hid w st H w' st' H' → Good K fa ca hid w' st' H' → rel w' (FZ hid w' st' H') x d → Q x H'
  | .ex e st' => ∀ cls dd w' H', Ext hid w st H w' st' H' → Good K fa ca hid w' st' H' → RX ca cls dd H' e → E cls dd H'
  | .bad => False
end
abbrev relV (K : PySem.W.Frag) (fa : Nat → Addr) : List Addr → Hp → V → D → Prop := RV K fa
abbrev relA (K : PySem.W.Frag) (fa : Nat → Addr) : List Addr → Hp → List V → List D → Prop := RVs K fa
abbrev relB : List Addr → Hp → Bool → Bool → Prop := fun _ _ a b => a = b
abbrev relO : List Addr → Hp → Option Int → Option Int → Prop := fun _ _ a b => a = b
section
variable {K : PySem.W.Frag} {fa ca : Nat → Addr} {hid w w' : List Addr} {st st' : Store} {H H' : Hp} {E : XK}
variable {α β α' β' : Type} {rel : List Addr → Hp → β → α → Prop} {rel' : List Addr → Hp → β' → α' → Prop}
theorem PostG.base {r : Rs α} {Q : β → Hp → Prop} (x : Ext hid w st H w' st' H') (h : PostG K fa ca rel hid w st H E r Q) : PostG K fa ca rel hid w' st' H' E r Q := by
  cases r with
  | ok d s => exact fun v w2 H2 y g r => h v w2 H2 (x.trans y) g r
  | ex e s => exact fun c d w2 H2 y g r => h c d w2 H2 (x.trans y) g r
  | bad => exact h
theorem PostG.mono {r : Rs α} {Q Q' : β → Hp → Prop} (h : PostG K fa ca rel hid w st H E r Q) (i : ∀ x H', Q x H' → Q' x H') : PostG K fa ca rel hid w st H E r Q' := by
  cases r with
  | ok d s => exact fun v w2 H2 y g r => i _ _ (h v w2 H2 y g r)
  | ex e s => exact h
  | bad => exact h
theorem PostG.bind {r : Rs α} {k : α → Store → Rs α'} {Q : β' → Hp → Prop} (h : PostG K fa ca rel' hid w st H E (r.bind k) Q) :
    PostG K fa ca rel hid w st H E r fun x H1 => ∃ a w1 st1, Ext hid w st H w1 st1 H1 ∧ Good K fa ca hid w1 st1 H1 ∧ rel w1 (FZ hid w1 st1 H1) x a ∧ r = .ok a st1 ∧ PostG K fa ca rel' hid w1 st1 H1 E (k a st1) Q := by
  cases r with
  | ok d s => exact fun v w2 H2 y g r => ⟨d, w2, s, y, g, r, rfl, PostG.base y h⟩
  | ex e s => exact h
  | bad => exact h
/-- the value is here -/
theorem PostG.here {a : α} {Q : β → Hp → Prop} (h : PostG K fa ca rel hid w st H E (.ok a st) Q) (g : Good K fa ca hid w st H) {x : β} (r : rel w (FZ hid w st H) x a) : Q x H := h x w H Ext.refl g r
/-- the value is a new frozen object -/
theorem PostG.new {a : α} {Q : β → Hp → Prop} (h : PostG K fa ca rel hid w st H E (.ok a st) Q) (g : Good K fa ca hid w st H) {p : Addr} {o : HO} (hp : H p = none) {x : β} (r : rel w (FZ hid w st (upd H p o)) x a) : Q x (upd H p o) :=
  h x w _ (Ext.new g hp) (g.new hp) r
theorem PostG.of {o : Option α} {Q : β → Hp → Prop} (h : PostG K fa ca rel hid w st H E (.of o st) Q) : ∃ a, o = some a ∧ PostG K fa ca rel hid w st H E (.ok a st) Q := by
  cases o with
  | none => exact h.elim
  | some a => exact ⟨a, rfl, h⟩
end
/-- a reading by the evaluator -/
def tG {α β : Type} (K : PySem.W.Frag) (fa ca : Nat → Addr) (W : WX) (rel : List Addr → Hp → β → α → Prop) (f : EnvD → Store → Rs α) : L2.St → Hp → (β → Hp → Prop) → Prop := fun σ H Q =>
  ∃ (hid w : List Addr) (st : Store) (ρ : EnvD), Good K fa ca hid w st H ∧ Slots K fa w (FZ hid w st H) ρ σ ∧ PostG K fa ca rel hid w st H (fun c d H' => W c d σ H') (f ρ st) Q
section
variable {X : Cx} {fa ca : Nat → Addr} {W : WX} {Δ : Dn}
abbrev DE (X : Cx) (fa ca : Nat → Addr) (W : WX) (Δ : Dn) (e : Expr) (c : E) : Prop := PE X e (tG X.K fa ca W (relV X.K fa) (ev Δ c))
abbrev DA (X : Cx) (fa ca : Nat → Addr) (W : WX) (Δ : Dn) (es : List Expr) (c : Es) : Prop := PA X es (tG X.K fa ca W (relA X.K fa) (evs Δ c))
abbrev DT (X : Cx) (fa ca : Nat → Addr) (W : WX) (Δ : Dn) (e : Expr) (c : T) : Prop := PT X e (tG X.K fa ca W relB (evT Δ c))
abbrev DTs (X : Cx) (fa ca : Nat → Addr) (W : WX) (Δ : Dn) (es : List Expr) (c : T) : Prop := PTs X es (tG X.K fa ca W relB (evT Δ c))
abbrev DO (X : Cx) (fa ca : Nat → Addr) (W : WX) (Δ : Dn) (e : Option Expr) (c : O) : Prop := PO X e (tG X.K fa ca W relO (evO Δ c))

theorem tG.two {f g : EnvD → Store → Rs D} {op : D → D → Store → Rs D} {r : R2} {ta tb : TE} {σ : L2.St} {H : Hp} {Q : VK}
    (h : tG X.K fa ca W (relV X.K fa) (fun ρ st => (f ρ st).bind fun x st => (g ρ st).bind fun y st => op x y st) σ H Q)
    (ha : ∀ σ H Q, tG X.K fa ca W (relV X.K fa) f σ H Q → ta σ H Q) (hb : ∀ σ H Q, tG X.K fa ca W (relV X.K fa) g σ H Q → tb σ H Q)
    (hop : ∀ hid w st H E x y d d', Good X.K fa ca hid w st H → RV X.K fa w (FZ hid w st H) x d → RV X.K fa w (FZ hid w st H) y d' → PostG X.K fa ca (relV X.K fa) hid w st H E (op d d' st) Q → r x y H Q) : tOp r ta tb σ H Q := by
  obtain ⟨hid, w, st, ρ, g0, s0, p⟩ := h
  refine ha σ H _ ⟨hid, w, st, ρ, g0, s0, (PostG.bind (rel := relV X.K fa) p).mono fun x H1 ⟨d1, w1, st1, e1, g1, r1, _, p1⟩ => ?_⟩
  refine hb σ H1 _ ⟨hid, w1, st1, ρ, g1, e1.slots s0, (PostG.bind (rel := relV X.K fa) p1).mono fun y H2 ⟨d2, w2, st2, e2, g2, r2, _, p2⟩ => ?_⟩
  exact hop hid w2 st2 H2 _ x y d1 d2 g2 (e2.rv r1) r2 p2
theorem tG.one {f : EnvD → Store → Rs D} {op : D → Store → Rs D} {r : V → Hp → VK → Prop} {ta : TE} {σ : L2.St} {H : Hp} {Q : VK}
    (h : tG X.K fa ca W (relV X.K fa) (fun ρ st => (f ρ st).bind fun x st => op x st) σ H Q)
    (ha : ∀ σ H Q, tG X.K fa ca W (relV X.K fa) f σ H Q → ta σ H Q)
    (hop : ∀ hid w st H E x d, Good X.K fa ca hid w st H → RV X.K fa w (FZ hid w st H) x d → PostG X.K fa ca (relV X.K fa) hid w st H E (op d st) Q → r x H Q) : ta σ H (fun x H1 => r x H1 Q) := by
  obtain ⟨hid, w, st, ρ, g0, s0, p⟩ := h
  refine ha σ H _ ⟨hid, w, st, ρ, g0, s0, (PostG.bind (rel := relV X.K fa) p).mono fun x H1 ⟨d1, w1, st1, e1, g1, r1, _, p1⟩ => ?_⟩
  exact hop hid w1 st1 H1 _ x d1 g1 r1 p1

theorem de_var {i : Nat} {x : Str} {pos : Pos} (hN : X.N[i]? = some x) (hv : Vis X.env.scope x) (hd : (x == ("__debug__" : Str)) = false) (hcd : (x == ("__classdict__" : Str)) = false) : DE X fa ca W Δ (.Name x pos) (.var i) := by
  refine PE.imp (pe_var hN hv hd hcd) fun σ H Q ⟨hid, w, st, ρ, g, s, p⟩ => ?_
  simp only [ev] at p
  split at p
  · rename_i n e
    obtain ⟨v, e1, r1⟩ := s.2 _ _ e
    refine ⟨v, e1, ?_⟩
    split at p
    · rename_i d e2
      obtain ⟨a, ea, ok⟩ := g.cell e2
      cases r1 with
      | ref h =>
        rw [ea] at h; cases h
        exact p.here g (RV.py ok)
    · exact p.here g r1
  · rename_i d _ e
    obtain ⟨v, e1, r1⟩ := s.2 _ _ e
    exact ⟨v, e1, p.here g r1⟩
  · exact p.elim
theorem de_con {e : Expr} {d : PD} {v : V} (h : PE X e (tC v)) (r : ∀ F : Hp, Dq F v d) : DE X fa ca W Δ e (.con d) := by
  refine PE.imp h fun σ H Q ⟨hid, w, st, ρ, g, s, p⟩ => ?_
  exact PostG.here (a := D.py d) (show PostG X.K fa ca (relV X.K fa) hid w st H _ (.ok (.py d) st) Q by simpa only [ev] using p) g (RV.py (r _))
theorem de_fnv {e : Expr} {f : Nat} (h : PE X e (tC (.ref (fa f)))) : DE X fa ca W Δ e (.fnv f) := by
  refine PE.imp h fun σ H Q ⟨hid, w, st, ρ, g, s, p⟩ => ?_
  exact PostG.here (a := D.fn f) (show PostG X.K fa ca (relV X.K fa) hid w st H _ (.ok (.fn f) st) Q by simpa only [ev] using p) g RV.fn

theorem da_nil : DA X fa ca W Δ [] .nil := by
  refine PA.imp pa_nil fun σ H Q ⟨hid, w, st, ρ, g, s, p⟩ => ?_
  simp only [evs] at p
  exact p.here g RVs.nil
theorem da_cons {e : Expr} {es : List Expr} {c : E} {r : Es} (ha : DE X fa ca W Δ e c) (hr : DA X fa ca W Δ es r) (hs : starEach (e :: es) X.env = (false, eval e X.env) :: starEach es X.env) : DA X fa ca W Δ (e :: es) (.cons c r) := by
  refine PA.imp (pa_cons ha hr hs) fun σ H Q ⟨hid, w, st, ρ, g, s, p⟩ => ?_
  simp only [evs] at p
  refine ⟨hid, w, st, ρ, g, s, (PostG.bind (rel := relV X.K fa) p).mono fun x H1 ⟨d1, w1, st1, e1, g1, r1, _, p1⟩ => ?_⟩
  refine ⟨hid, w1, st1, ρ, g1, e1.slots s, (PostG.bind (rel := relA X.K fa) p1).mono fun xs H2 ⟨ds, w2, st2, e2, g2, r2, _, p2⟩ => ?_⟩
  exact p2.here g2 (RVs.cons (e2.rv r1) r2)

theorem listOf_ok {K : PySem.W.Frag} {hid w : List Addr} {st : Store} {H : Hp} {v : V} {d : D} {l : List D} (g : Good K fa ca hid w st H) (r : RV K fa w (FZ hid w st H) v d) (h : listOf st d = some l) : ∃ a vs, v = .ref a ∧ H a = some (.lst vs) ∧ RVs K fa w (FZ hid w st H) vs l := by
  cases r with
  | py hd =>
    rename_i p
    cases p with
    | list ds =>
      simp only [listOf, Option.some.injEq] at h
      subst h
      cases hd with
      | lst hs ha => exact ⟨_, _, rfl, FZ.le _ _ hs, RVs.of_dq ha⟩
    | _ => simp [listOf] at h
  | ref hw =>
    simp only [listOf] at h
    split at h
    · rename_i ds e
      cases h
      obtain ⟨a, ea, vs, h1, h2⟩ := g.cell e
      rw [ea] at hw; cases hw
      exact ⟨_, vs, rfl, h1, h2⟩
    · rename_i ds e
      cases h
      obtain ⟨a, ea, ok⟩ := g.cell e
      rw [ea] at hw; cases hw
      cases (show Dq (FZ hid w st H) (.ref _) (.list ds) from ok) with
      | lst hs ha => exact ⟨_, _, rfl, FZ.le _ _ hs, RVs.of_dq ha⟩
    · cases h
  | fn => simp [listOf] at h
  | tp _ _ => simp [listOf] at h
  | scr _ => simp [listOf] at h
  | ob _ _ => simp [listOf] at h
theorem tupOf_ok {K : PySem.W.Frag} {hid w : List Addr} {st : Store} {H : Hp} {v : V} {d : D} {l : List D} (r : RV K fa w (FZ hid w st H) v d) (h : tupOf d = some l) : ∃ a vs, v = .ref a ∧ H a = some (.tup vs) ∧ RVs K fa w (FZ hid w st H) vs l := by
  cases r with
  | py hd =>
    rename_i p
    cases p with
    | tuple ds =>
      simp only [tupOf, Option.some.injEq] at h
      subst h
      cases hd with
      | tup hs ha => exact ⟨_, _, rfl, FZ.le _ _ hs, RVs.of_dq ha⟩
    | _ => simp [tupOf] at h
  | ref hw => simp [tupOf] at h
  | fn => simp [tupOf] at h
  | scr _ => simp [tupOf] at h
  | ob _ _ => simp [tupOf] at h
  | tp h1 h2 =>
    simp only [tupOf, Option.some.injEq] at h
    subst h
    exact ⟨_, _, rfl, FZ.le _ _ h1, h2⟩
theorem seqOf_ok {K : PySem.W.Frag} {hid w : List Addr} {st : Store} {H : Hp} {v : V} {d : D} {l : List D} (g : Good K fa ca hid w st H) (r : RV K fa w (FZ hid w st H) v d) (h : seqOf st d = some l) : ∃ a vs, v = .ref a ∧ (H a = some (.lst vs) ∨ H a = some (.tup vs)) ∧ RVs K fa w (FZ hid w st H) vs l := by
  unfold seqOf at h
  split at h
  · rename_i l' e
    cases h
    obtain ⟨a, vs, e1, e2, e3⟩ := listOf_ok g r e
    exact ⟨a, vs, e1, .inl e2, e3⟩
  · obtain ⟨a, vs, e1, e2, e3⟩ := tupOf_ok r h
    exact ⟨a, vs, e1, .inr e2, e3⟩
theorem isEmpty_rvs {K : PySem.W.Frag} {w : List Addr} {F : Hp} {vs : List V} {l : List D} (r : RVs K fa w F vs l) : vs.isEmpty = l.isEmpty := by
  cases r <;> rfl
theorem truth_ok {K : PySem.W.Frag} {hid w : List Addr} {st : Store} {H : Hp} {v : V} {d : D} {k : Bool} (g : Good K fa ca hid w st H) (r : RV K fa w (FZ hid w st H) v d) (h : truth st d = some k) : TruV K v H k := by
  have go : ∀ {d : D}, RV K fa w (FZ hid w st H) v d → (seqOf st d).map (!·.isEmpty) = some k → TruV K v H k := fun {d} r h => by
    obtain ⟨l, e, e2⟩ := Option.map_eq_some_iff.mp h
    obtain ⟨a, vs, e1, e2', e3⟩ := seqOf_ok g r e
    subst e1
    rw [← e2, ← isEmpty_rvs e3]
    rcases e2' with q | q
    · exact .inl ⟨vs, SqL.of q, rfl⟩
    · exact .inr (.inl ⟨vs, SqT.of q, rfl⟩)
  cases r with
  | py hd =>
    cases hd with
    | non => simp only [truth, Option.some.injEq] at h; exact h.symm
    | bl b => simp only [truth, Option.some.injEq] at h; exact h.symm
    | int i => simp only [truth, Option.some.injEq] at h; exact h.symm
    | str x =>
      simp only [truth] at h
      split at h
      · rename_i hl
        refine ⟨by rw [sizeLine_eq]; exact hl, ?_⟩
        rw [← Option.some.inj h]
        by_cases q : x.length = 0
        · rw [q]; rfl
        · have q2 : ¬ ((x.length : Int) = 0) := by omega
          rw [show (x.length != 0) = true from bne_iff_ne.mpr q, show ((x.length : Int) != 0) = true from bne_iff_ne.mpr q2]
      · cases h
    | lst hs ha => exact go (RV.py (.lst hs ha)) h
    | tup hs ha => exact go (RV.py (.tup hs ha)) h
  | ref hw => exact go (RV.ref hw) h
  | fn => exact go RV.fn h
  | scr h1 => exact go (RV.scr h1) h
  | ob h1 h2 => exact go (RV.ob h1 h2) h
  | tp h1 h2 => exact go (RV.tp h1 h2) h
end
end Ev
set_option maxHeartbeats 1000000
namespace Ev
open PySem PySem.Spec PyProof.Rows L2
theorem tuple_mul1 (l : Addr) (items : Array Value) (n : Nat) (dd : Option Addr) (sl : Array (Option Value)) (x : Int) (u : Tok) (c0 : (decide (x < -(2 ^ 63)) || decide (x ≥ 2 ^ 63)) = false) (c1 : (items.isEmpty || x == 1) = true) :
    Meets (Builtin.«tuple.__mul__» ⟨[.ref l, .int x u], []⟩) (fun _ R s => s.heap.get? l = some { cls := .type "tuple", dict := dd, data := .seq items n, slots := sl } ∧ R (.ok (.ret (Value.ref l))) s) :=
  .of_wp fun prog w A R s h => by
    obtain ⟨hp, g, d, tk, os⟩ := s
    obtain ⟨hl, h⟩ := h
    have f1 := AutoSeq1.idx_int
    wp_walk using wpAny_loadPart' hl
    repeat (first
      | (refine wpAny_ite_false (decide_eq_false (by rw [c0]; exact Bool.false_ne_true)) ?_; wp_walk using wpAny_loadPart' hl)
      | (refine wpAny_ite_true (decide_eq_true c1) ?_; wp_walk using wpAny_loadPart' hl))
    all_goals exact ⟨_, rfl, h⟩
def rRep1 : R2 := fun x y H Q => ∃ l xs, x = .ref l ∧ y = .int 1 ∧ H l = some (.tup xs) ∧ Q (.ref l) H
section
variable {X : Cx}
theorem op_rep1 : OpR X (binaryOp .Mult) rRep1 := by
  intro pins s σ H x y v u Q I rx ry h
  obtain ⟨l, xs, rfl, rfl, hT, q⟩ := h
  cases rx
  obtain ⟨t, rfl⟩ := ry
  obtain ⟨its, r, ⟨⟨cls, dd, data, sl⟩, ho, hc, n, hd⟩, hs⟩ := I.tuple (SqT.of hT)
  simp only at hc hd
  subst hc hd
  have c1 : (its.toArray.isEmpty || (1 : Int) == 1) = true := by simp
  exact wpAny_binaryOp_repeat_ref (T := "tuple") (U := "int") (by decide) ⟨_, ho, rfl⟩ (fun s' => typeIs_int s' 1 t) noFill_tuple_mul F.fills_int_mul F.slot_int_rmul repeat_tuple F.slot_int_index.lookup
    (call_meets F.slot_int_rmul (typeIs_int s 1 t) F.entry_int_rmul (F.args_int_rmul_2 _ _) (int_rmul_tuple 1 t l its.toArray n dd sl)
      ⟨ho, rfl, ⟨_, ho, rfl⟩, call_meets F.slot_tuple_mul ⟨_, ho, rfl⟩ F.entry_tuple_mul (F.args_tuple_mul_2 _ _) (tuple_mul1 l its.toArray n dd sl 1 t (by decide) c1) ⟨ho, ⟨.ref l, H, I, rfl, q⟩⟩⟩)
end
def rAddX (K : PySem.W.Frag) : R2 := fun x y H Q => ((rI0 fun i j => .int (i + j)) x y H Q) ∨ ((∃ i j, x = .str i ∧ y = .str j ∧ i.length + j.length ≤ sizeLine ∧ Q (.str (i ++ j)) H) ∨ (rCatA K x y H Q ∨ rCat x y H Q))
def rMulX (K : PySem.W.Frag) : R2 := fun x y H Q => ((rI CMul fun i j => .int (i * j)) x y H Q) ∨ (rRep x y H Q ∨ (rRepT K x y H Q ∨ rRep1 x y H Q))
def rB (K : PySem.W.Frag) : BOp → R2
  | .add => rAddX K
  | .sub => rI0 fun i j => .int (i - j)
  | .mul => rMulX K
  | .fdiv => rI CDiv fun i j => .int (i / j)
  | .mod => rI (fun _ j => 0 < j) fun i j => .int (i % j)
  | .pow => rI CPow fun i j => .int (i ^ j.toNat)
def opB : BOp → Operator
  | .add => .Add | .sub => .Sub | .mul => .Mult | .fdiv => .FloorDiv | .mod => .Mod | .pow => .Pow
theorem op_B {X : Cx} : ∀ op : BOp, OpR X (binaryOp (opB op)) (rB X.K op)
  | .add => op_add.or (op_add_str.or (op_catA.or op_cat))
  | .sub => op_sub
  | .mul => op_mul.or (op_rep.or (op_repT.or op_rep1))
  | .fdiv => op_fdiv
  | .mod => op_mod
  | .pow => op_pow
section
variable {K : PySem.W.Frag} {fa ca : Nat → Addr} {hid w : List Addr} {st : Store} {H : Hp} {E : XK} {x y : V} {d d' z : D} {Q : VK}
abbrev PostV (K : PySem.W.Frag) (fa ca : Nat → Addr) := PostG K fa ca (relV K fa)
theorem pv_py {p : PD} (g : Good K fa ca hid w st H) (h : PostV K fa ca hid w st H E (.ok (.py p) st) Q) (r : Dq (FZ hid w st H) x p) : Q x H := h.here g (RV.py r)
theorem pv_new {p : PD} {a : Addr} {o : HO} (g : Good K fa ca hid w st H) (h : PostV K fa ca hid w st H E (.ok (.py p) st) Q) (hp : H a = none) (r : Dq (FZ hid w st (upd H a o)) (.ref a) p) : Q (.ref a) (upd H a o) := h.new g hp (RV.py r)
theorem small_ok {i : Int} (h : small i = true) : -(2 ^ 64) < i ∧ i < 2 ^ 64 := by
  unfold small at h
  rw [Bool.and_eq_true, decide_eq_true_eq, decide_eq_true_eq] at h
  exact h
theorem Dq.new {ps : List PD} {a : Addr} {vs : List V} (g : Good K fa ca hid w st H) (hp : H a = none) (r : DqAll (FZ hid w st H) vs ps) : Dq (FZ hid w st (upd H a (.lst vs))) (.ref a) (.list ps) :=
  .lst (FZ.new g hp) (DqAll.mono (Ext.new g hp).le r)
theorem Dq.newT {ps : List PD} {a : Addr} {vs : List V} (g : Good K fa ca hid w st H) (hp : H a = none) (r : DqAll (FZ hid w st H) vs ps) : Dq (FZ hid w st (upd H a (.tup vs))) (.ref a) (.tuple ps) :=
  .tup (FZ.new g hp) (DqAll.mono (Ext.new g hp).le r)
theorem bop_ok (g : Good K fa ca hid w st H) (rx : RV K fa w (FZ hid w st H) x d) (ry : RV K fa w (FZ hid w st H) y d') : ∀ op : BOp, bop st op d d' = some z → PostV K fa ca hid w st H E (.ok z st) Q → rB K op x y H Q := by
  intro op e h
  unfold bop at e
  split at e
  · cases e; cases rx with | py rx => cases rx; cases ry with | py ry => cases ry; exact .inl ⟨_, _, rfl, rfl, pv_py g h (.int _)⟩
  · cases e; cases rx with | py rx => cases rx; cases ry with | py ry => cases ry; exact ⟨_, _, rfl, rfl, pv_py g h (.int _)⟩
  · split at e
    · rename_i c
      cases e; cases rx with | py rx => cases rx; cases ry with | py ry => cases ry; exact .inl ⟨_, _, rfl, rfl, (Bool.or_eq_true_iff.mp c).imp small_ok small_ok, pv_py g h (.int _)⟩
    · cases e
  · split at e
    · rename_i c
      rw [Bool.and_eq_true, decide_eq_true_eq, decide_eq_true_eq] at c
      cases e; cases rx with | py rx => cases rx; cases ry with | py ry => cases ry; exact ⟨_, _, rfl, rfl, c, pv_py g h (.int _)⟩
    · cases e
  · split at e
    · rename_i c
      rw [decide_eq_true_eq] at c
      cases e; cases rx with | py rx => cases rx; cases ry with | py ry => cases ry; exact ⟨_, _, rfl, rfl, c, pv_py g h (.int _)⟩
    · cases e
  · split at e
    · rename_i c
      rw [Bool.and_eq_true, Bool.and_eq_true, decide_eq_true_eq, decide_eq_true_eq] at c
      have c3 := small_ok c.2
      cases e; cases rx with | py rx => cases rx; cases ry with | py ry => cases ry; exact ⟨_, _, rfl, rfl, ⟨c.1.1, c.1.2, by omega⟩, pv_py g h (.int _)⟩
    · cases e
  · split at e
    · rename_i c
      cases e; cases rx with | py rx => cases rx; cases ry with | py ry => cases ry; exact .inr (.inl ⟨_, _, rfl, rfl, by rw [sizeLine_eq]; exact c, pv_py g h (.str _)⟩)
    · cases e
  · split at e
    · rename_i c
      cases e
      cases rx with
      | py rx =>
        cases rx with
        | tup h1 t1 =>
          cases ry with
          | py ry =>
            cases ry with
            | tup h2 t2 =>
              refine .inr (.inr (.inl ⟨_, _, _, _, rfl, rfl, SqT.of (FZ.le _ _ h1), SqT.of (FZ.le _ _ h2), by rw [t1.length, t2.length, sizeLine_eq]; exact c, fun e => ?_, fun _ e => ?_, fun _ _ p hp => ?_⟩))
              · subst e; cases t1; exact pv_py g h (.tup h2 t2)
              · subst e; cases t2; rw [List.append_nil] at h; exact pv_py g h (.tup h1 t1)
              · exact pv_new g h hp (Dq.newT g hp (t1.append t2))
    · cases e
  · split at e
    · rename_i c
      cases e
      cases rx with
      | py rx =>
        cases rx with
        | lst h1 t1 =>
          cases ry with
          | py ry =>
            cases ry with
            | lst h2 t2 =>
              exact .inr (.inr (.inr ⟨_, _, _, _, rfl, rfl, FZ.le _ _ h1, FZ.le _ _ h2, by rw [t1.length, t2.length, sizeLine_eq]; exact c, fun p hp => pv_new g h hp (Dq.new g hp (t1.append t2))⟩))
    · cases e
  · split at e
    · rename_i c
      rw [Bool.and_eq_true, Bool.and_eq_true, decide_eq_true_eq, decide_eq_true_eq, decide_eq_true_eq] at c
      cases e
      cases rx with
      | py rx =>
        cases rx with
        | lst h1 t1 =>
          cases ry with
          | py ry =>
            cases ry
            exact .inr (.inl ⟨_, _, _, rfl, rfl, FZ.le _ _ h1, by omega, by omega, by rw [t1.length, sizeLine_eq]; exact c.2, fun p hp => pv_new g h hp (Dq.new g hp (t1.rep _))⟩)
    · cases e
  · split at e
    · rename_i c
      subst c
      cases e
      cases rx with
      | py rx =>
        cases rx with
        | tup h1 t1 =>
          cases ry with
          | py ry =>
            cases ry
            exact .inr (.inr (.inr ⟨_, _, rfl, rfl, FZ.le _ _ h1, pv_py g h (.tup h1 t1)⟩))
    · split at e
      · rename_i c
        rw [Bool.and_eq_true, Bool.and_eq_true, Bool.and_eq_true, decide_eq_true_eq, decide_eq_true_eq, decide_eq_true_eq] at c
        cases e
        cases rx with
        | py rx =>
          cases rx with
          | tup h1 t1 =>
            cases ry with
            | py ry =>
              cases ry
              refine .inr (.inr (.inl ⟨_, _, _, rfl, rfl, SqT.of (FZ.le _ _ h1), fun e => ?_, c.1.1.1, c.1.1.2, by rw [t1.length]; exact c.2, fun p hp => pv_new g h hp (Dq.newT g hp (t1.rep _))⟩))
              subst e
              cases t1
              simp at c
      · cases e
  · cases e
end
section
variable {X : Cx} {fa ca : Nat → Addr} {W : WX} {Δ : Dn} {a b : Expr} {ea eb : E} {pos : Pos}
theorem de_bin (op : BOp) (ha : DE X fa ca W Δ a ea) (hb : DE X fa ca W Δ b eb) : DE X fa ca W Δ (.BinOp a (opB op) b pos) (.bin op ea eb) := by
  refine PE.imp (pe_op (op_B op) ha hb) fun σ H Q h => ?_
  have h' : tG X.K fa ca W (relV X.K fa) (fun ρ st => (ev Δ ea ρ st).bind fun x st => (ev Δ eb ρ st).bind fun y st => .of (bop st op x y) st) σ H Q := by
    obtain ⟨hid, w, st, ρ, g, s, p⟩ := h
    exact ⟨hid, w, st, ρ, g, s, by simpa only [ev] using p⟩
  refine tG.two h' (fun _ _ _ z => z) (fun _ _ _ z => z) fun hid w st H E x y d d' g rx ry p => ?_
  obtain ⟨z, e, p⟩ := p.of
  exact bop_ok g rx ry op e p
theorem de_neg (ha : DE X fa ca W Δ a ea) : DE X fa ca W Δ (.UnaryOp .USub a pos) (.neg ea) := by
  refine PE.imp (pe_un un_neg ha) fun σ H Q h => ?_
  have h' : tG X.K fa ca W (relV X.K fa) (fun ρ st => (ev Δ ea ρ st).bind fun x st => .of ((intOf x).map fun i => .py (.int (-i))) st) σ H Q := by
    obtain ⟨hid, w, st, ρ, g, s, p⟩ := h
    exact ⟨hid, w, st, ρ, g, s, by simpa only [ev] using p⟩
  refine tG.one h' (fun _ _ _ z => z) fun hid w st H E x d g rx p => ?_
  obtain ⟨z, e, p⟩ := p.of
  obtain ⟨i, e1, rfl⟩ := Option.map_eq_some_iff.mp e
  unfold intOf at e1
  split at e1
  · cases e1
    cases rx with
    | py rx => cases rx; exact ⟨_, rfl, pv_py g p (.int _)⟩
  · cases e1
end
end Ev
set_option maxHeartbeats 1000000
namespace Ev
open PySem PySem.Spec PyProof.Rows L2
theorem lexAt_shift (e r : Nat → Bool) (z : Bool) : ∀ (k i : Nat), Ob.lexAt e r z (i + 1) k = Ob.lexAt (fun j => e (j + 1)) (fun j => r (j + 1)) z i k
  | 0, _ => rfl
  | k + 1, i => by
    rw [Ob.lexAt_succ, Ob.lexAt_succ, lexAt_shift e r z k (i + 1)]
theorem lexAt_congr {e e' r r' : Nat → Bool} {z : Bool} : ∀ (k i : Nat), (∀ j, i ≤ j → j < i + k → e j = e' j) → (∀ j, i ≤ j → j < i + k → r j = r' j) → Ob.lexAt e r z i k = Ob.lexAt e' r' z i k
  | 0, _, _, _ => rfl
  | k + 1, i, he, hr => by
    rw [Ob.lexAt_succ, Ob.lexAt_succ, he i (Nat.le_refl _) (by omega), hr i (Nat.le_refl _) (by omega), lexAt_congr k (i + 1) (fun j h1 h2 => he j (by omega) (by omega)) (fun j h1 h2 => hr j (by omega) (by omega))]
abbrev pairLt (xs ys : List PD) (j : Nat) : Bool := (ltPD (xs.getD j .none) (ys.getD j .none)).getD false
theorem ltAll_lex : ∀ (xs ys : List PD) (b : Bool), ltAll xs ys = some b → b = Ob.lexAt (SeqAt.pairEq xs ys) (pairLt xs ys) (decide (xs.length < ys.length)) 0 (min xs.length ys.length)
  | [], [], b, h => by cases h; rfl
  | [], _ :: _, b, h => by
    cases h
    simp [Ob.lexAt]
  | _ :: _, [], b, h => by
    cases h
    simp [Ob.lexAt]
  | x :: xs, y :: ys, b, h => by
    simp only [ltAll, Option.bind_eq_some_iff] at h
    obtain ⟨r, h1, h2⟩ := h
    have ih := ltAll_lex xs ys r h1
    have e1 : min (x :: xs).length (y :: ys).length = min xs.length ys.length + 1 := by simp only [List.length_cons]; omega
    rw [e1, Ob.lexAt_succ, lexAt_shift]
    have e2 : SeqAt.pairEq (x :: xs) (y :: ys) 0 = PyData.eqv x y := rfl
    have e3 : pairLt (x :: xs) (y :: ys) 0 = (ltPD x y).getD false := rfl
    have e4 : decide ((x :: xs).length < (y :: ys).length) = decide (xs.length < ys.length) := by simp
    rw [e2, e3, e4]
    by_cases q : PyData.eqv x y = true
    · rw [if_pos q] at h2 ⊢
      cases h2
      exact ih
    · rw [if_neg q] at h2 ⊢
      rw [h2]
      rfl
theorem ltAll_at : ∀ (xs ys : List PD) (b : Bool), ltAll xs ys = some b → ∀ j, j < xs.length → j < ys.length → SeqAt.pairEq xs ys j = false → ltPD (xs.getD j .none) (ys.getD j .none) = some (pairLt xs ys j)
  | [], _, _, _, j, h1, _, _ => absurd h1 (Nat.not_lt_zero _)
  | _ :: _, [], _, _, j, _, h2, _ => absurd h2 (Nat.not_lt_zero _)
  | x :: xs, y :: ys, b, h, j, h1, h2, hj => by
    simp only [ltAll, Option.bind_eq_some_iff] at h
    obtain ⟨r, h3, h4⟩ := h
    cases j with
    | zero =>
      have q : ¬ PyData.eqv x y = true := by
        have : PyData.eqv x y = false := hj
        rw [this]; exact Bool.false_ne_true
      rw [if_neg q] at h4
      show ltPD x y = some ((ltPD x y).getD false)
      rw [h4]; rfl
    | succ j => exact ltAll_at xs ys r h3 j (Nat.lt_of_succ_lt_succ h1) (Nat.lt_of_succ_lt_succ h2) hj
mutual
theorem rcLt_reads : ∀ (da db : PD) (A : Around) (s : Shared) (a b : Value) (as bs : List Addr) (r : Bool), Reads s.heap a da as → Reads s.heap b db bs → da.canLay0 = true → db.canLay0 = true → A.units + da.depth < cLine → ltPD da db = some r → Ob.RcOp .Lt A s a b r
  | .int i, .int j, A, s, _, _, _, _, r, ra, rb, _, _, _, h => by
    cases ra; cases rb
    simp only [ltPD, Option.some.injEq] at h
    subst h
    exact Ob.RcOp.lt_int _ _ _ _
  | .tuple xs, .tuple ys, A, s, _, _, _, _, r, ra, rb, ha, hb, hu, h => by
    simp only [ltPD] at h
    have ha' : PyData.canLayAll0 xs = true := ha
    have hb' : PyData.canLayAll0 ys = true := hb
    have hd : A.units + (PyData.depthAll xs + 1) < cLine := hu
    cases ra with
    | @tuple a1 o1 v1 n1 _ _ h1 h2 h3 h4 =>
      cases rb with
      | @tuple b1 o2 v2 n2 _ _ k1 k2 k3 k4 =>
        have l1 : v1.size = xs.length := by have := SeqAt.ReadsAll.length _ _ _ h4; simpa using this
        have l2 : v2.size = ys.length := by have := SeqAt.ReadsAll.length _ _ _ k4; simpa using this
        have z := Ob.RcOp.tuples_lt (A := A) (s := s) (l := a1) (b := b1) (items := v1) (items2 := v2) (e := SeqAt.pairEq xs ys) (r := pairLt xs ys) ⟨o1, h1, h2, n1, h3⟩ ⟨o2, k1, k2, n2, k3⟩ (by omega)
          (fun j j1 j2 => by
            have := SeqAt.eqAt_readsAll xs ys A.in1 s v1.toList v2.toList _ _ h4 k4 ha' hb' (by
              have q : min (PyData.depthAll xs) (PyData.depthAll ys) ≤ PyData.depthAll xs := Nat.min_le_left _ _
              show A.units + 1 + _ < cLine
              omega) j (by simpa using j1) (by simpa using j2)
            simpa using this)
          (fun j j1 j2 hj => by
            have := rcLt_readsAll xs ys A.in1 s v1.toList v2.toList _ _ h4 k4 ha' hb' (by show A.units + 1 + _ < cLine; omega) j (pairLt xs ys j) (by simpa using j1) (by simpa using j2) (ltAll_at xs ys r h j (by omega) (by omega) hj)
            simpa using this)
        rw [l1, l2, ← ltAll_lex xs ys r h] at z
        exact z
  | .none, _, _, _, _, _, _, _, _, _, _, _, _, _, h => by simp [ltPD] at h
  | .bool _, _, _, _, _, _, _, _, _, _, _, _, _, _, h => by simp [ltPD] at h
  | .str _, _, _, _, _, _, _, _, _, _, _, _, _, _, h => by simp [ltPD] at h
  | .list _, _, _, _, _, _, _, _, _, _, _, _, _, _, h => by simp [ltPD] at h
  | .dict _, _, _, _, _, _, _, _, _, _, _, _, _, _, h => by simp [ltPD] at h
  | .int _, .none, _, _, _, _, _, _, _, _, _, _, _, _, h => by simp [ltPD] at h
  | .int _, .bool _, _, _, _, _, _, _, _, _, _, _, _, _, h => by simp [ltPD] at h
  | .int _, .str _, _, _, _, _, _, _, _, _, _, _, _, _, h => by simp [ltPD] at h
  | .int _, .list _, _, _, _, _, _, _, _, _, _, _, _, _, h => by simp [ltPD] at h
  | .int _, .tuple _, _, _, _, _, _, _, _, _, _, _, _, _, h => by simp [ltPD] at h
  | .int _, .dict _, _, _, _, _, _, _, _, _, _, _, _, _, h => by simp [ltPD] at h
  | .tuple _, .none, _, _, _, _, _, _, _, _, _, _, _, _, h => by simp [ltPD] at h
  | .tuple _, .bool _, _, _, _, _, _, _, _, _, _, _, _, _, h => by simp [ltPD] at h
  | .tuple _, .int _, _, _, _, _, _, _, _, _, _, _, _, _, h => by simp [ltPD] at h
  | .tuple _, .str _, _, _, _, _, _, _, _, _, _, _, _, _, h => by simp [ltPD] at h
  | .tuple _, .list _, _, _, _, _, _, _, _, _, _, _, _, _, h => by simp [ltPD] at h
  | .tuple _, .dict _, _, _, _, _, _, _, _, _, _, _, _, _, h => by simp [ltPD] at h
theorem rcLt_readsAll : ∀ (xs ys : List PD) (A : Around) (s : Shared) (vs ws : List Value) (as bs : List Addr), ReadsAll s.heap vs xs as → ReadsAll s.heap ws ys bs → PyData.canLayAll0 xs = true → PyData.canLayAll0 ys = true →
    A.units + PyData.depthAll xs < cLine → ∀ j (r : Bool) (h1 : j < vs.length) (h2 : j < ws.length), ltPD (xs.getD j .none) (ys.getD j .none) = some r → Ob.RcOp .Lt A s vs[j] ws[j] r
  | [], _, _, _, _, _, _, _, ra, _, _, _, _, j, _, h1, _, _ => by cases ra; exact absurd h1 (Nat.not_lt_zero _)
  | _ :: _, [], _, _, _, _, _, _, _, rb, _, _, _, j, _, _, h2, _ => by cases rb; exact absurd h2 (Nat.not_lt_zero _)
  | x :: xs, y :: ys, A, s, _, _, _, _, ra, rb, ha, hb, hu, j, r, h1, h2, h => by
    have ha' : x.canLay0 = true ∧ PyData.canLayAll0 xs = true := by simpa [PyData.canLayAll0] using ha
    have hb' : y.canLay0 = true ∧ PyData.canLayAll0 ys = true := by simpa [PyData.canLayAll0] using hb
    have hd : A.units + max x.depth (PyData.depthAll xs) < cLine := hu
    cases ra with
    | cons r1 rs =>
      cases rb with
      | cons r' rs' =>
        cases j with
        | zero => exact rcLt_reads x y A s _ _ _ _ r r1 r' ha'.1 hb'.1 (by omega) h
        | succ j => exact rcLt_readsAll xs ys A s _ _ _ _ rs rs' ha'.2 hb'.2 (by omega) j r (Nat.lt_of_succ_lt_succ h1) (Nat.lt_of_succ_lt_succ h2) h
end
def rLtD (K : PySem.W.Frag) : R2 := fun x y H Q => ∃ d e r, Dp K H x d ∧ Dp K H y e ∧ SeqAt.shaped d = true ∧ SeqAt.shaped e = true ∧ ltPD d e = some r ∧ Q (.bl r) H
section
variable {X : Cx}
theorem op_ltD (hu : X.A.units + 64 < cLine) : OpR X (compareOp .Lt) (rLtD X.K) := by
  intro pins s σ H x y v u Q I rx ry h
  obtain ⟨d, e, r, hd, he, sd, se, hl, q⟩ := h
  obtain ⟨as, r1⟩ := Dp.reads I d x v hd rx
  obtain ⟨bs, r2⟩ := Dp.reads I e y u he ry
  have h1 := SeqAt.depth_of_shaped sd
  exact rcLt_reads d e X.A s v u as bs r r1 r2 (SeqAt.canLay_of_shaped sd) (SeqAt.canLay_of_shaped se) (by omega) hl _ _ _ _ ⟨.bl r, H, I, rfl, q⟩
end
def opC : COp → CmpOp
  | .lt => .Lt | .le => .LtE | .gt => .Gt | .ge => .GtE | .eq => .Eq | .ne => .NotEq | .isin => .In | .notin => .NotIn
end Ev
set_option maxHeartbeats 1000000
namespace Ev
open PySem PySem.Spec PyProof.Rows L2
section
variable {K : PySem.W.Frag} {fa ca : Nat → Addr} {hid w : List Addr} {st : Store} {H : Hp} {E : XK}
theorem mapM_some {α β : Type} {f : α → Option β} : ∀ {l : List α} {r : List β}, l.mapM f = some r → (l = [] ∧ r = []) ∨ ∃ a l' b r', l = a :: l' ∧ r = b :: r' ∧ f a = some b ∧ l'.mapM f = some r'
  | [], r, h => by
    simp at h
    exact .inl ⟨rfl, h⟩
  | a :: l', r, h => by
    rw [List.mapM_cons] at h
    simp only [bind, Option.bind_eq_some_iff, pure, Option.some.injEq] at h
    obtain ⟨b, h1, r', h2, h3⟩ := h
    exact .inr ⟨a, l', b, r', rfl, h3.symm, h1, h2⟩
mutual
theorem Dq.dpH {F : Hp} {v : V} {d : PD} (l : Le F H) (h : Dq F v d) : Dp K H v d := Dq.dp (Dq.mono l h)
end
theorem valF_ok (g : Good K fa ca hid w st H) : ∀ (n : Nat) {v : V} {d : D} {p : PD}, RV K fa w (FZ hid w st H) v d → valF n st d = some p → Dp K H v p := by
  intro n
  induction n with
  | zero =>
    intro v d p r h
    cases r with
    | py q => simp only [valF_py, Option.some.injEq] at h; subst h; exact Dq.dpH FZ.le q
    | ref _ => simp [valF] at h
    | fn => simp [valF] at h
    | tp _ _ => simp [valF] at h
    | scr _ => simp [valF] at h
    | ob _ _ => simp [valF] at h
  | succ n ih =>
    have all : ∀ {vs : List V} {ds : List D} {ps : List PD}, RVs K fa w (FZ hid w st H) vs ds → ds.mapM (valF n st) = some ps → DpAll K H vs ps := by
      intro vs ds
      induction ds generalizing vs with
      | nil =>
        intro ps r h
        cases r
        simp at h
        subst h
        exact .nil
      | cons d ds ihd =>
        intro ps r h
        cases r with
        | cons r1 r2 =>
          rcases mapM_some h with ⟨e, _⟩ | ⟨a, l', b, r', e, e2, h1, h2⟩
          · cases e
          · cases e
            subst e2
            exact .cons (ih r1 h1) (ihd r2 h2)
    intro v d p r h
    cases r with
    | py q => simp only [valF_py, Option.some.injEq] at h; subst h; exact Dq.dpH FZ.le q
    | ref hw =>
      simp only [valF] at h
      split at h
      · rename_i ds e
        obtain ⟨ps, h1, rfl⟩ := Option.map_eq_some_iff.mp h
        obtain ⟨a, ea, vs, h2, h3⟩ := g.cell e
        rw [ea] at hw; cases hw
        exact .lst (SqL.of h2) (all h3 h1)
      · rename_i d e
        cases h
        obtain ⟨a, ea, ok⟩ := g.cell e
        rw [ea] at hw; cases hw
        exact Dq.dpH FZ.le ok
      · cases h
    | fn => simp [valF] at h
    | tp h1 h2 =>
      simp only [valF] at h
      obtain ⟨ps, h3, rfl⟩ := Option.map_eq_some_iff.mp h
      exact .tup (SqT.of (FZ.le _ _ h1)) (all h2 h3)
    | scr _ => simp [valF] at h
    | ob _ _ => simp [valF] at h
theorem val_ok (g : Good K fa ca hid w st H) {v : V} {d : D} {p : PD} (r : RV K fa w (FZ hid w st H) v d) (h : val st d = some p) : Dp K H v p := valF_ok g 6 r h
theorem keyOf_ok {v : V} {d : D} {k : List Int} (r : RV K fa w (FZ hid w st H) v d) (h : keyOf d = some k) : ∃ b, v = .ref b ∧ H b = some (.tup ((k.map (Sum.inl : Int → Key)).map kV)) := by
  unfold keyOf at h
  split at h
  · rename_i ds
    cases r with
    | py q =>
      cases q with
      | tup h1 h2 =>
        refine ⟨_, rfl, ?_⟩
        have e := FZ.le _ _ h1
        rw [DqAll.ints h2 h] at e
        rw [List.map_map]
        exact e
  · cases h
abbrev KVD (K : PySem.W.Frag) (fa : Nat → Addr) (w : List Addr) (F : Hp) : List (List Key × V) → List (List Int × D) → Prop := Paired fun p q => p.1 = q.1.map Sum.inl ∧ RV K fa w F p.2 q.2
theorem inl_inj {a b : List Int} : a.map (Sum.inl : Int → Key) = b.map Sum.inl ↔ a = b := by
  constructor
  · intro h
    exact List.map_inj_right (fun _ _ e => Sum.inl.inj e) |>.mp h
  · rintro rfl; rfl
theorem KVD.val {F : Hp} {kv : List (List Key × V)} {kvs : List (List Int × D)} (r : KVD K fa w F kv kvs) (k : List Int) : (∀ d, valK kvs k = some d → ∃ v, valV kv (k.map Sum.inl) = some v ∧ RV K fa w F v d) ∧ (valK kvs k = none → valV kv (k.map Sum.inl) = none) := by
  induction r with
  | nil => exact ⟨fun d e => (by cases e), fun _ => rfl⟩
  | @cons p q ps qs hr ht ih =>
    obtain ⟨e1, e2⟩ := hr
    by_cases hk : q.1 = k
    · have h1 : valK (q :: qs) k = some q.2 := by simp [valK, List.find?_cons, hk]
      have h2 : valV (p :: ps) (k.map Sum.inl) = some p.2 := valV_pos (by rw [e1, hk])
      rw [h1, h2]
      exact ⟨fun d e => ⟨_, rfl, by cases e; exact e2⟩, fun e => by cases e⟩
    · have h1 : valK (q :: qs) k = valK qs k := by simp [valK, List.find?_cons, hk]
      have h2 : valV (p :: ps) (k.map Sum.inl) = valV ps (k.map Sum.inl) := valV_neg (by rw [e1]; exact fun z => hk (inl_inj.mp z))
      rw [h1, h2]
      exact ih
theorem KVD.any {F : Hp} {kv : List (List Key × V)} {kvs : List (List Int × D)} (r : KVD K fa w F kv kvs) (k : List Int) : (kv.any fun kv => decide (kv.1 = k.map Sum.inl)) = kvs.any fun kv => decide (kv.1 = k) := by
  induction r with
  | nil => rfl
  | @cons p q ps qs hr ht ih =>
    rw [List.any_cons, List.any_cons, ih, hr.1]
    congr 1
    exact decide_eq_decide.mpr inl_inj
theorem Paired.append {α β : Type} {F : α → β → Prop} : ∀ {l₁ : List α} {l₂ : List β} {m₁ : List α} {m₂ : List β}, Paired F l₁ l₂ → Paired F m₁ m₂ → Paired F (l₁ ++ m₁) (l₂ ++ m₂)
  | _, _, _, _, .nil, h => h
  | _, _, _, _, .cons r t, h => .cons r (Paired.append t h)
theorem KVD.repl {F : Hp} {kv : List (List Key × V)} {kvs : List (List Int × D)} (r : KVD K fa w F kv kvs) (k : List Int) {v : V} {d : D} (rv : RV K fa w F v d) :
    KVD K fa w F (kv.map fun kv => if kv.1 = k.map Sum.inl then (kv.1, v) else kv) (kvs.map fun kv => if kv.1 = k then (kv.1, d) else kv) := by
  induction r with
  | nil => exact .nil
  | @cons p q ps qs hr ht ih =>
    rw [List.map_cons, List.map_cons]
    refine .cons ?_ ih
    by_cases hk : q.1 = k
    · rw [if_pos hk, if_pos (by rw [hr.1, hk])]
      exact ⟨hr.1, rv⟩
    · rw [if_neg hk, if_neg (by rw [hr.1]; exact fun z => hk (inl_inj.mp z))]
      exact hr
theorem KVD.put {F : Hp} {kv : List (List Key × V)} {kvs : List (List Int × D)} (r : KVD K fa w F kv kvs) (k : List Int) {v : V} {d : D} (rv : RV K fa w F v d) : KVD K fa w F (L2.putK kv (k.map Sum.inl) v) (Ev.putK kvs k d) := by
  unfold L2.putK Ev.putK
  rw [r.any k]
  split
  · exact KVD.repl r k rv
  · exact Paired.append r (.cons ⟨rfl, rv⟩ .nil)
end
section
variable {X : Cx}
def rInDict : R2 := fun x y H Q => ∃ a o, y = .ref a ∧ DGet H a x o ∧ Q (.bl o.isSome) H
def rNotInDict : R2 := fun x y H Q => ∃ a o, y = .ref a ∧ DGet H a x o ∧ Q (.bl (!o.isSome)) H
theorem op_inDict (hu : X.A.units + 1 < cLine) : OpR X (compareOp .In) rInDict := by
  intro pins s σ H x y v u Q I rx ry h
  obtain ⟨a, o, rfl, g, q⟩ := h
  cases ry
  exact d_in hu I g rx fun s3 I3 => ⟨.bl o.isSome, H, I3, rfl, q⟩
theorem op_notInDict (hu : X.A.units + 1 < cLine) : OpR X (compareOp .NotIn) rNotInDict := by
  intro pins s σ H x y v u Q I rx ry h
  obtain ⟨a, o, rfl, g, q⟩ := h
  cases ry
  exact d_notIn hu I g rx fun s3 I3 => ⟨.bl (!o.isSome), H, I3, rfl, q⟩
def rIxD : R2 := fun x y H Q => ∃ a v, x = .ref a ∧ DGet H a y (some v) ∧ Q v H
theorem ix_dict (hu : X.A.units + 1 < cLine) : IxR X rIxD := by
  intro value slice pins s σ H x y v u Q I rx ry h hs
  obtain ⟨a, z, rfl, g, q⟩ := h
  cases rx
  exact tail_any (dict_typeIs I g) PySem.F.slot_dict_getitem.lookup (d_getItem hu I g ry fun w' s3 I3 rw' => ⟨z, H, I3, rw', q⟩) hs
def rSetD : V → V → V → Hp → (Hp → Prop) → Prop := fun o i v H Q => ∃ a H', o = .ref a ∧ DPut H a i v H' ∧ Q H'
theorem set_dict (hu : X.A.units + 1 < cLine) : PSet X rSetD := by
  intro pins s σ H o i v ov iv u Q I ro ri rv h
  obtain ⟨a, H', rfl, g, q⟩ := h
  cases ro
  exact d_setItem hu I g ri rv fun s4 I4 => ⟨H', I4, q⟩
def rC (K : PySem.W.Frag) : COp → R2
  | .lt => fun x y H Q => (rI0 fun i j => .bl (decide (i < j))) x y H Q ∨ rLtD K x y H Q
  | .le => rI0 fun i j => .bl (decide (i ≤ j))
  | .gt => rI0 fun i j => .bl (decide (j < i))
  | .ge => rI0 fun i j => .bl (decide (j ≤ i))
  | .eq => rEqD K
  | .ne => rNeD K
  | .isin => fun x y H Q => rInD K x y H Q ∨ rInDict x y H Q
  | .notin => fun x y H Q => rNotInD K x y H Q ∨ rNotInDict x y H Q
theorem op_C (hu : X.A.units + 65 < cLine) : ∀ op : COp, OpR X (compareOp (opC op)) (rC X.K op)
  | .lt => op_lt.or (op_ltD (by omega))
  | .le => op_le
  | .gt => op_gt
  | .ge => op_ge
  | .eq => op_eqD (by omega)
  | .ne => op_neD (by omega)
  | .isin => (op_inD hu).or (op_inDict (by omega))
  | .notin => (op_notInD hu).or (op_notInDict (by omega))
end
section
variable {K : PySem.W.Frag} {fa ca : Nat → Addr} {hid w : List Addr} {st : Store} {H : Hp} {x y : V} {d d' : D} {b : Bool} {Q : VK}
theorem shaped2 {p q : PD} (h : (SeqAt.shaped p && SeqAt.shaped q) = true) : SeqAt.shaped p = true ∧ SeqAt.shaped q = true := Bool.and_eq_true_iff.mp h
theorem isin_ok (g : Good K fa ca hid w st H) (rx : RV K fa w (FZ hid w st H) x d) (ry : RV K fa w (FZ hid w st H) y d') (h : isinD st d d' = some b) :
    (∃ p ds, Dp K H x p ∧ Dp K H y (.list ds) ∧ SeqAt.shaped p = true ∧ SeqAt.shaped (.list ds) = true ∧ b = ds.any fun z => PyData.eqv z p) ∨ ∃ a o, y = .ref a ∧ DGet H a x o ∧ b = o.isSome := by
  unfold isinD at h
  split at h
  · split at h
    · rename_i n kvs e
      obtain ⟨k, e1, rfl⟩ := Option.map_eq_some_iff.mp h
      obtain ⟨a, ea, kv, h1, h2⟩ := g.cell e
      cases ry with
      | ref hw =>
        rw [ea] at hw; cases hw
        obtain ⟨c, rfl, hc⟩ := keyOf_ok rx e1
        obtain ⟨z1, z2⟩ := KVD.val h2 k
        refine .inr ⟨a, _, rfl, DGet.t h1 hc, ?_⟩
        cases e3 : valK kvs k with
        | none => rw [z2 e3]; rfl
        | some d3 => obtain ⟨v3, e4, _⟩ := z1 d3 e3; rw [e4]; rfl
    · rename_i n ds e
      split at h
      · rename_i p ps e1 e2
        split at h
        · rename_i c
          cases h
          obtain ⟨a, ea, vs, h1, h2⟩ := g.cell e
          cases ry with
          | ref hw =>
            rw [ea] at hw; cases hw
            exact .inl ⟨p, ps, val_ok g rx e1, .lst (SqL.of h1) (DqAll.dp (K := K) ((h2.pys e2).mono FZ.le)), (shaped2 c).1, (shaped2 c).2, rfl⟩
        · cases h
      · cases h
    · cases h
  · rename_i ds
    split at h
    · rename_i p e
      split at h
      · rename_i c
        cases h
        cases ry with
        | py q => exact .inl ⟨p, ds, val_ok g rx e, Dq.dpH FZ.le q, (shaped2 c).1, (shaped2 c).2, rfl⟩
      · cases h
    · cases h
  · cases h
theorem cop_ok (g : Good K fa ca hid w st H) (rx : RV K fa w (FZ hid w st H) x d) (ry : RV K fa w (FZ hid w st H) y d') (op : COp) (h : cop st op d d' = some b) (q : Q (.bl b) H) : rC K op x y H Q := by
  have intz : ∀ {i j : Int}, d = .py (.int i) → d' = .py (.int j) → x = .int i ∧ y = .int j := fun {i j} e1 e2 => by
    subst e1 e2
    cases rx with | py rx => cases rx; cases ry with | py ry => cases ry; exact ⟨rfl, rfl⟩
  cases op with
  | eq =>
    simp only [cop] at h
    split at h
    · rename_i p p' e1 e2
      split at h
      · rename_i c
        cases h
        exact ⟨p, p', val_ok g rx e1, val_ok g ry e2, (shaped2 c).1, (shaped2 c).2, q⟩
      · cases h
    · cases h
  | ne =>
    simp only [cop] at h
    split at h
    · rename_i p p' e1 e2
      split at h
      · rename_i c
        cases h
        exact ⟨p, p', val_ok g rx e1, val_ok g ry e2, (shaped2 c).1, (shaped2 c).2, q⟩
      · cases h
    · cases h
  | isin =>
    simp only [cop] at h
    rcases isin_ok g rx ry h with ⟨p, ds, h1, h2, h3, h4, rfl⟩ | ⟨a, o, rfl, h1, rfl⟩
    · exact .inl ⟨p, ds, h1, h2, h3, h4, q⟩
    · exact .inr ⟨a, o, rfl, h1, q⟩
  | notin =>
    simp only [cop] at h
    obtain ⟨c, h', rfl⟩ := Option.map_eq_some_iff.mp h
    rcases isin_ok g rx ry h' with ⟨p, ds, h1, h2, h3, h4, rfl⟩ | ⟨a, o, rfl, h1, rfl⟩
    · exact .inl ⟨p, ds, h1, h2, h3, h4, q⟩
    · exact .inr ⟨a, o, rfl, h1, q⟩
  | lt =>
    simp only [cop] at h
    split at h
    · rename_i i j
      obtain ⟨rfl, rfl⟩ := intz rfl rfl
      cases h
      exact .inl ⟨_, _, rfl, rfl, q⟩
    · rename_i p p' _
      split at h
      · rename_i c
        cases rx with
        | py r1 => cases ry with | py r2 => exact .inr ⟨p, p', b, Dq.dpH FZ.le r1, Dq.dpH FZ.le r2, (shaped2 c).1, (shaped2 c).2, h, q⟩
      · cases h
    · cases h
  | le =>
    simp only [cop] at h
    split at h
    · obtain ⟨rfl, rfl⟩ := intz rfl rfl
      cases h
      exact ⟨_, _, rfl, rfl, q⟩
    · cases h
    · cases h
  | gt =>
    simp only [cop] at h
    split at h
    · obtain ⟨rfl, rfl⟩ := intz rfl rfl
      cases h
      exact ⟨_, _, rfl, rfl, q⟩
    · cases h
    · cases h
  | ge =>
    simp only [cop] at h
    split at h
    · obtain ⟨rfl, rfl⟩ := intz rfl rfl
      cases h
      exact ⟨_, _, rfl, rfl, q⟩
    · cases h
    · cases h
end
end Ev
set_option maxHeartbeats 1000000
namespace Ev
open PySem PySem.Spec PyProof.Rows L2
theorem tG.cast {α β : Type} {K : PySem.W.Frag} {fa ca : Nat → Addr} {W : WX} {rel : List Addr → Hp → β → α → Prop} {f g : EnvD → Store → Rs α} {σ : L2.St} {H : Hp} {Q : β → Hp → Prop} (e : ∀ ρ st, f ρ st = g ρ st) (h : tG K fa ca W rel f σ H Q) : tG K fa ca W rel g σ H Q := by
  obtain ⟨hid, w, st, ρ, g0, s, p⟩ := h
  exact ⟨hid, w, st, ρ, g0, s, by rw [← e]; exact p⟩
section
variable {X : Cx} {fa ca : Nat → Addr} {W : WX} {Δ : Dn} {a b c : Expr} {ea eb ec : E} {pos : Pos}
theorem tCmp_of {op : COp} {σ : L2.St} {H : Hp} {Q QQ : VK} (hQ : ∀ (b : Bool) H, Q (.bl b) H → QQ (.bl b) H) (h : tG X.K fa ca W (relV X.K fa) (ev Δ (.cmp op ea eb)) σ H Q) :
    tOp (rC X.K op) (tG X.K fa ca W (relV X.K fa) (ev Δ ea)) (tG X.K fa ca W (relV X.K fa) (ev Δ eb)) σ H QQ := by
  obtain ⟨hid, w, st, ρ, g0, s0, p⟩ := h
  simp only [ev] at p
  refine ⟨hid, w, st, ρ, g0, s0, (PostG.bind (rel := relV X.K fa) p).mono fun x H1 ⟨d1, w1, st1, e1, g1, r1, _, p1⟩ => ?_⟩
  refine ⟨hid, w1, st1, ρ, g1, e1.slots s0, (PostG.bind (rel := relV X.K fa) p1).mono fun y H2 ⟨d2, w2, st2, e2, g2, r2, _, p2⟩ => ?_⟩
  obtain ⟨z, e, p2⟩ := p2.of
  obtain ⟨k, e4, rfl⟩ := Option.map_eq_some_iff.mp e
  exact cop_ok g2 (e2.rv r1) r2 op e4 (hQ k _ (pv_py g2 p2 (.bl k)))
theorem de_cmp (hu : X.A.units + 65 < cLine) (op : COp) (ha : DE X fa ca W Δ a ea) (hb : DE X fa ca W Δ b eb) (hm : behindInMarks (opC op) b = false) : DE X fa ca W Δ (.Compare a [opC op] [b] pos) (.cmp op ea eb) :=
  PE.imp (pe_cmpR (op_C hu op) ha hb hm) fun σ H Q h => tCmp_of (fun _ _ z => z) h
theorem tChain_of {op op' : COp} {σ : L2.St} {H : Hp} {Q : VK} {QQ : VK} (hQ : ∀ (b : Bool) H, Q (.bl b) H → QQ (.bl b) H)
    (h : tG X.K fa ca W (relV X.K fa) (ev Δ (.cmp2 op op' ea eb ec)) σ H Q) :
    tChain (rC X.K op) (rC X.K op') (tG X.K fa ca W (relV X.K fa) (ev Δ ea)) (tG X.K fa ca W (relV X.K fa) (ev Δ eb)) (tG X.K fa ca W (relV X.K fa) (ev Δ ec)) σ H QQ := by
  obtain ⟨hid, w, st, ρ, g0, s0, p⟩ := h
  simp only [ev] at p
  refine ⟨hid, w, st, ρ, g0, s0, (PostG.bind (rel := relV X.K fa) p).mono fun x H1 ⟨d1, w1, st1, e1, g1, r1, _, p1⟩ => ?_⟩
  refine ⟨hid, w1, st1, ρ, g1, e1.slots s0, (PostG.bind (rel := relV X.K fa) p1).mono fun y H2 ⟨d2, w2, st2, e2, g2, r2, _, p2⟩ => ?_⟩
  cases q : cop st2 op d1 d2 with
  | none => rw [q] at p2; exact p2.elim
  | some k =>
    rw [q] at p2
    simp only [Rs.of_some, Rs.bind_ok] at p2
    refine cop_ok g2 (e2.rv r1) r2 op q ⟨k, rfl, ?_⟩
    cases k with
    | false =>
      rw [if_neg (by decide)] at p2 ⊢
      exact hQ false _ (pv_py g2 p2 (.bl false))
    | true =>
      rw [if_pos rfl] at p2 ⊢
      refine ⟨hid, w2, st2, ρ, g2, (e1.trans e2).slots s0, (PostG.bind (rel := relV X.K fa) p2).mono fun z H3 ⟨d3, w3, st3, e3, g3, r3, _, p3⟩ => ?_⟩
      obtain ⟨z', e, p3⟩ := p3.of
      obtain ⟨k2, e4, rfl⟩ := Option.map_eq_some_iff.mp e
      exact cop_ok g3 (e3.rv r2) r3 op' e4 (hQ k2 _ (pv_py g3 p3 (.bl k2)))
theorem de_cmp2 (hu : X.A.units + 65 < cLine) (op op' : COp) (ha : DE X fa ca W Δ a ea) (hb : DE X fa ca W Δ b eb) (hc : DE X fa ca W Δ c ec) (hm : lastMarks [opC op, opC op'] [b, c] = false) : DE X fa ca W Δ (.Compare a [opC op, opC op'] [b, c] pos) (.cmp2 op op' ea eb ec) :=
  PE.imp (pe_chain (op_C hu op) (op_C hu op') ha hb hc hm) fun σ H Q h => tChain_of (fun _ _ z => z) h
theorem evT_v {e : E} {ρ : EnvD} {st : Store} : evT Δ (.v e) ρ st = (ev Δ e ρ st).bind fun d st => .of (truth st d) st := by rw [evT]
/-- a test by a value that is a bool -/
theorem tG.tb {e : E} {σ : L2.St} {H : Hp} {Q : Bool → Hp → Prop} (h : tG X.K fa ca W relB (evT Δ (.v e)) σ H Q) : tG X.K fa ca W (relV X.K fa) (ev Δ e) σ H (fun x H1 => ∃ k, TruV X.K x H1 k ∧ Q k H1) := by
  obtain ⟨hid, w, st, ρ, g0, s0, p⟩ := h
  rw [evT_v] at p
  refine ⟨hid, w, st, ρ, g0, s0, (PostG.bind (rel := relV X.K fa) p).mono fun x H1 ⟨d1, w1, st1, e1, g1, r1, _, p1⟩ => ?_⟩
  obtain ⟨z, e, p1⟩ := p1.of
  exact ⟨z, truth_ok g1 r1 e, p1.here g1 rfl⟩
/-- a comparison as a test -/
theorem dt_cmp (hu : X.A.units + 65 < cLine) (op : COp) (ha : DE X fa ca W Δ a ea) (hb : DE X fa ca W Δ b eb) (hm : behindInMarks (opC op) b = false) : DT X fa ca W Δ (.Compare a [opC op] [b] pos) (.v (.cmp op ea eb)) := by
  refine PT.imp (pt_cmpR (op_C hu op) ha hb hm) fun σ H Q h => ?_
  refine tCmp_of (QQ := fun x H' => ∃ k, x = .bl k ∧ Q k H') (fun b H' z => ?_) (tG.tb h)
  obtain ⟨k, t, q⟩ := z
  have e : k = b := t
  exact ⟨b, rfl, by rw [← e]; exact q⟩
theorem dt_cmp2 (hu : X.A.units + 65 < cLine) (op op' : COp) (ha : DE X fa ca W Δ a ea) (hb : DE X fa ca W Δ b eb) (hc : DE X fa ca W Δ c ec) (hm : lastMarks [opC op, opC op'] [b, c] = false) : DT X fa ca W Δ (.Compare a [opC op, opC op'] [b, c] pos) (.v (.cmp2 op op' ea eb ec)) := by
  refine PT.imp (pt_chain (op_C hu op) (op_C hu op') ha hb hc hm) fun σ H Q h => ?_
  refine tChain_of (QQ := fun x H' => ∃ k, x = .bl k ∧ Q k H') (fun b H' z => ?_) (tG.tb h)
  obtain ⟨k, t, q⟩ := z
  have e : k = b := t
  exact ⟨b, rfl, by rw [← e]; exact q⟩
/-- another expression as a test -/
theorem dt_v (h : DE X fa ca W Δ a ea) (he : ∀ whole, isTrue a X.env whole = (do let v ← whole; standAt a.pos; holding [v] (truthy v))) : DT X fa ca W Δ a (.v ea) :=
  PT.imp (pt_truth h he) fun σ H Q q => tG.tb q
theorem isB_of {x : V} {d : D} {k b : Bool} {K : PySem.W.Frag} {w : List Addr} {F : Hp} (r : RV K fa w F x d) (e : isc (.bool b) d = some k) : ∃ c : Bool, x = .bl c ∧ k = decide (c = b) := by
  cases r with
  | py q => cases q <;> first | (simp [isc] at e; done) | (simp only [isc, Option.some.injEq] at e; exact ⟨_, rfl, e.symm⟩)
  | ref _ => simp [isc] at e
  | fn => simp [isc] at e
  | tp _ _ => simp [isc] at e
  | scr _ => simp [isc] at e
  | ob _ _ => simp [isc] at e
theorem isN_of {x : V} {d : D} {k : Bool} {K : PySem.W.Frag} {w : List Addr} {F : Hp} (r : RV K fa w F x d) (e : isc .none d = some k) : k = decide (x = V.non) := by
  cases r with
  | py q => cases q <;> (simp only [isc, Option.some.injEq] at e; subst e; simp)
  | ref _ => simp only [isc, Option.some.injEq] at e; subst e; simp
  | fn => simp [isc] at e
  | tp _ _ => simp only [isc, Option.some.injEq] at e; subst e; simp
  | scr _ => simp [isc] at e
  | ob _ _ => simp only [isc, Option.some.injEq] at e; subst e; simp
def rIsX (ng : Bool) : R2 := fun x y H Q => (y = .non ∧ Q (.bl (decide (x = .non) != ng)) H) ∨ ∃ a b : Bool, x = .bl a ∧ y = .bl b ∧ Q (.bl (decide (a = b) != ng)) H
def opIs : Bool → CmpOp
  | false => .Is
  | true => .IsNot
theorem op_IsX {X : Cx} : ∀ ng : Bool, OpR X (compareOp (opIs ng)) (rIsX ng)
  | false => fun pins s σ H x y v u Q I rx ry h => by
    rcases h with ⟨e, q⟩ | ⟨a, b, e1, e2, q⟩
    · exact op_isN pins s σ H x y v u Q I rx ry ⟨e, by simpa using q⟩
    · exact op_isBl pins s σ H x y v u Q I rx ry ⟨a, b, e1, e2, by simpa using q⟩
  | true => fun pins s σ H x y v u Q I rx ry h => by
    rcases h with ⟨e, q⟩ | ⟨a, b, e1, e2, q⟩
    · exact op_notN pins s σ H x y v u Q I rx ry ⟨e, by simpa using q⟩
    · exact op_notBl pins s σ H x y v u Q I rx ry ⟨a, b, e1, e2, by simpa using q⟩
theorem tIs_of {c : PD} {v : V} {ng : Bool} {σ : L2.St} {H : Hp} {Q QQ : VK} (hc : (c = .none ∧ v = .non) ∨ ∃ b, c = .bool b ∧ v = .bl b) (hQ : ∀ (b : Bool) H, Q (.bl b) H → QQ (.bl b) H) (h : tG X.K fa ca W (relV X.K fa) (ev Δ (.isc c ng ea)) σ H Q) :
    tOp (rIsX ng) (tG X.K fa ca W (relV X.K fa) (ev Δ ea)) (tC v) σ H QQ := by
  obtain ⟨hid, w, st, ρ, g0, s0, p⟩ := h
  simp only [ev] at p
  refine ⟨hid, w, st, ρ, g0, s0, (PostG.bind (rel := relV X.K fa) p).mono fun x H1 ⟨d1, w1, st1, e1, g1, r1, _, p1⟩ => ?_⟩
  obtain ⟨z, e, p1⟩ := p1.of
  obtain ⟨k, e4, rfl⟩ := Option.map_eq_some_iff.mp e
  have q := hQ _ _ (pv_py g1 p1 (.bl (k != ng)))
  rcases hc with ⟨rfl, rfl⟩ | ⟨b, rfl, rfl⟩
  · exact .inl ⟨rfl, by rw [← isN_of r1 e4]; exact q⟩
  · obtain ⟨c, rfl, hk⟩ := isB_of r1 e4
    exact .inr ⟨c, b, rfl, rfl, by rw [← hk]; exact q⟩
theorem de_isc {c : PD} {v : V} {ng : Bool} {b : Expr} (hc : (c = .none ∧ v = .non) ∨ ∃ b, c = .bool b ∧ v = .bl b) (hb : PE X b (tC v)) (ha : DE X fa ca W Δ a ea) : DE X fa ca W Δ (.Compare a [opIs ng] [b] pos) (.isc c ng ea) :=
  PE.imp (pe_cmpR (op_IsX ng) ha hb (nomark _ (by cases ng <;> decide) (by cases ng <;> decide))) fun σ H Q h => tIs_of hc (fun _ _ z => z) h
theorem dt_isc {c : PD} {v : V} {ng : Bool} {b : Expr} (hc : (c = .none ∧ v = .non) ∨ ∃ b, c = .bool b ∧ v = .bl b) (hb : PE X b (tC v)) (ha : DE X fa ca W Δ a ea) : DT X fa ca W Δ (.Compare a [opIs ng] [b] pos) (.v (.isc c ng ea)) := by
  refine PT.imp (pt_cmpR (op_IsX ng) ha hb (nomark _ (by cases ng <;> decide) (by cases ng <;> decide))) fun σ H Q h => ?_
  refine tIs_of (QQ := fun x H' => ∃ k, x = .bl k ∧ Q k H') hc (fun b H' z => ?_) (tG.tb h)
  obtain ⟨k, t, q⟩ := z
  have e : k = b := t
  exact ⟨b, rfl, by rw [← e]; exact q⟩
theorem de_and {rest : List Expr} (ha : DE X fa ca W Δ a ea) (hb : DE X fa ca W Δ (.BoolOp .And (b :: rest) pos) eb) : DE X fa ca W Δ (.BoolOp .And (a :: b :: rest) pos) (.and ea eb) := by
  refine PE.imp (pe_and ha hb) fun σ H Q ⟨hid, w, st, ρ, g0, s0, p⟩ => ?_
  simp only [ev] at p
  refine ⟨hid, w, st, ρ, g0, s0, (PostG.bind (rel := relV X.K fa) p).mono fun x H1 ⟨d1, w1, st1, e1, g1, r1, _, p1⟩ => ?_⟩
  split at p1
  · cases r1 with | py q => cases q; exact ⟨true, rfl, by rw [if_pos rfl]; exact ⟨hid, w1, st1, ρ, g1, e1.slots s0, p1⟩⟩
  · cases r1 with | py q => cases q; exact ⟨false, rfl, by rw [if_neg (by decide)]; exact pv_py g1 p1 (.bl false)⟩
  · exact p1.elim
theorem de_or {rest : List Expr} (ha : DE X fa ca W Δ a ea) (hb : DE X fa ca W Δ (.BoolOp .Or (b :: rest) pos) eb) : DE X fa ca W Δ (.BoolOp .Or (a :: b :: rest) pos) (.or ea eb) := by
  refine PE.imp (pe_or ha hb) fun σ H Q ⟨hid, w, st, ρ, g0, s0, p⟩ => ?_
  simp only [ev] at p
  refine ⟨hid, w, st, ρ, g0, s0, (PostG.bind (rel := relV X.K fa) p).mono fun x H1 ⟨d1, w1, st1, e1, g1, r1, _, p1⟩ => ?_⟩
  split at p1
  · cases r1 with | py q => cases q; exact ⟨true, rfl, by rw [if_pos rfl]; exact pv_py g1 p1 (.bl true)⟩
  · cases r1 with | py q => cases q; exact ⟨false, rfl, by rw [if_neg (by decide)]; exact ⟨hid, w1, st1, ρ, g1, e1.slots s0, p1⟩⟩
  · exact p1.elim
theorem de_one {op : BoolOp} (h : DE X fa ca W Δ a ea) : DE X fa ca W Δ (.BoolOp op [a] pos) ea := pe_one h
theorem de_nt (ha : DE X fa ca W Δ a ea) : DE X fa ca W Δ (.UnaryOp .Not a pos) (.nt ea) := by
  refine PE.imp (pe_notT ha) fun σ H Q h => ?_
  refine tG.one (r := fun x H Q => ∃ k, TruV X.K x H k ∧ Q (.bl (!k)) H) (tG.cast (g := fun ρ st => (ev Δ ea ρ st).bind fun x st => .of ((truth st x).map fun b => .py (.bool (!b))) st) (fun ρ st => by rw [ev]) h) (fun _ _ _ z => z) fun hid w st H E x d g rx p => ?_
  obtain ⟨z, e, p⟩ := p.of
  obtain ⟨k, e1, rfl⟩ := Option.map_eq_some_iff.mp e
  exact ⟨k, truth_ok g rx e1, pv_py g p (.bl _)⟩
theorem de_ife {t : T} {tb : Expr} (ht : DT X fa ca W Δ tb t) (ha : DE X fa ca W Δ a ea) (hb : DE X fa ca W Δ b eb) : DE X fa ca W Δ (.IfExp tb a b pos) (.ife t ea eb) := by
  refine PE.imp (pe_ifExp ht ha hb) fun σ H Q ⟨hid, w, st, ρ, g0, s0, p⟩ => ?_
  simp only [ev] at p
  refine ⟨hid, w, st, ρ, g0, s0, (PostG.bind (rel := relB) p).mono fun x H1 ⟨d1, w1, st1, e1, g1, r1, _, p1⟩ => ?_⟩
  cases (show x = d1 from r1)
  cases x with
  | true => rw [if_pos rfl] at p1 ⊢; exact ⟨hid, w1, st1, ρ, g1, e1.slots s0, p1⟩
  | false => rw [if_neg (by decide)] at p1 ⊢; exact ⟨hid, w1, st1, ρ, g1, e1.slots s0, p1⟩
theorem dw_and {rest : List Expr} {ta tb : T} (ha : DT X fa ca W Δ a ta) (hb : PW X (.BoolOp .And (b :: rest) pos) (tG X.K fa ca W relB (evT Δ tb))) : PW X (.BoolOp .And (a :: b :: rest) pos) (tG X.K fa ca W relB (evT Δ (.and ta tb))) := by
  have h := pw_and ha hb
  refine ⟨fun wh pins s σ H Q I q => h.run wh pins s σ H Q I ?_⟩
  obtain ⟨hid, w, st, ρ, g0, s0, p⟩ := q
  simp only [evT] at p
  refine ⟨hid, w, st, ρ, g0, s0, (PostG.bind (rel := relB) p).mono fun x H1 ⟨d1, w1, st1, e1, g1, r1, _, p1⟩ => ?_⟩
  cases (show x = d1 from r1)
  cases x with
  | true => rw [if_pos rfl] at p1 ⊢; exact ⟨hid, w1, st1, ρ, g1, e1.slots s0, p1⟩
  | false => rw [if_neg (by decide)] at p1 ⊢; exact p1.here g1 rfl
theorem dw_or {rest : List Expr} {ta tb : T} (ha : DT X fa ca W Δ a ta) (hb : PW X (.BoolOp .Or (b :: rest) pos) (tG X.K fa ca W relB (evT Δ tb))) : PW X (.BoolOp .Or (a :: b :: rest) pos) (tG X.K fa ca W relB (evT Δ (.or ta tb))) := by
  have h := pw_or ha hb
  refine ⟨fun wh pins s σ H Q I q => h.run wh pins s σ H Q I ?_⟩
  obtain ⟨hid, w, st, ρ, g0, s0, p⟩ := q
  simp only [evT] at p
  refine ⟨hid, w, st, ρ, g0, s0, (PostG.bind (rel := relB) p).mono fun x H1 ⟨d1, w1, st1, e1, g1, r1, _, p1⟩ => ?_⟩
  cases (show x = d1 from r1)
  cases x with
  | true => rw [if_pos rfl] at p1 ⊢; exact p1.here g1 rfl
  | false => rw [if_neg (by decide)] at p1 ⊢; exact ⟨hid, w1, st1, ρ, g1, e1.slots s0, p1⟩
theorem dw_and1 {ta : T} (ha : DT X fa ca W Δ a ta) : PW X (.BoolOp .And [a] pos) (tG X.K fa ca W relB (evT Δ ta)) := pw_and1 ha
theorem dw_or1 {ta : T} (ha : DT X fa ca W Δ a ta) : PW X (.BoolOp .Or [a] pos) (tG X.K fa ca W relB (evT Δ ta)) := pw_or1 ha
theorem dt_nt {ta : T} (ha : DT X fa ca W Δ a ta) : DT X fa ca W Δ (.UnaryOp .Not a pos) (.nt ta) := by
  refine PT.imp (pt_not ha) fun σ H Q ⟨hid, w, st, ρ, g0, s0, p⟩ => ?_
  simp only [evT] at p
  exact ⟨hid, w, st, ρ, g0, s0, (PostG.bind (rel := relB) p).mono fun x H1 ⟨d1, w1, st1, e1, g1, r1, _, p1⟩ => by cases r1; exact p1.here g1 rfl⟩
theorem dts_nil : DTs X fa ca W Δ [] .yes := by
  refine ⟨fun pins s σ H Q I h => pts_nil.run pins s σ H Q I ?_⟩
  obtain ⟨hid, w, st, ρ, g0, s0, p⟩ := h
  simp only [evT] at p
  exact p.here g0 rfl
theorem dts_one {t : T} (h : DT X fa ca W Δ a t) : DTs X fa ca W Δ [a] t := pts_one h
theorem atI_map {α β : Type} {f : α → β} {xs : List α} {i : Int} {j : Nat} {a : α} (h : ixN xs.length i = some j) (e : xs[j]? = some a) (ys : List β) (hl : ys.length = xs.length) {b : β} (hb : ys[j]? = some b) : atI ys i = some b := by
  unfold atI
  rw [hl]
  rw [show L2.ixN xs.length i = some j from h]
  exact hb
def rIxX (K : PySem.W.Frag) : R2 := fun x y H Q => rIxL K x y H Q ∨ (rIxT K x y H Q ∨ rIxD x y H Q)
theorem ix_X (hu : X.A.units + 1 < cLine) : IxR X (rIxX X.K) := ix_list.or (ix_tup.or (ix_dict hu))
theorem intOf_ok {K : PySem.W.Frag} {w : List Addr} {F : Hp} {y : V} {d : D} {i : Int} (r : RV K fa w F y d) (h : intOf d = some i) : y = .int i := by
  unfold intOf at h
  split at h
  · cases h; cases r with | py q => cases q; rfl
  · cases h
theorem getix_ok {K : PySem.W.Frag} {hid w : List Addr} {st : Store} {H : Hp} {x y : V} {d d' z : D} {Q : VK} {E : XK} (g : Good K fa ca hid w st H) (rx : RV K fa w (FZ hid w st H) x d) (ry : RV K fa w (FZ hid w st H) y d') (h : getix st d d' = some z)
    (p : PostV K fa ca hid w st H E (.ok z st) Q) : rIxX K x y H Q := by
  have seqd : ∀ {vs : List V} {ds : List PD} {i : Int} {j : Nat}, DqAll (FZ hid w st H) vs ds → intOf d' = some i → ixN ds.length i = some j → (ds[j]?).map D.py = some z → ∃ v, y = .int i ∧ atI vs i = some v ∧ Q v H := by
    intro vs ds i j r h1 h2 h3
    obtain ⟨q, h4, rfl⟩ := Option.map_eq_some_iff.mp h3
    obtain ⟨v, h5, h6⟩ := r.get h4
    exact ⟨v, intOf_ok ry h1, atI_map (f := fun (_ : PD) => v) h2 h4 vs r.length h5, pv_py g p h6⟩
  unfold getix at h
  split at h
  · split at h
    · rename_i n kvs e
      obtain ⟨k, e1, e2⟩ := Option.bind_eq_some_iff.mp h
      obtain ⟨a, ea, kv, h1, h2⟩ := g.cell e
      cases rx with
      | ref hw =>
        rw [ea] at hw; cases hw
        obtain ⟨c, rfl, hc⟩ := keyOf_ok ry e1
        obtain ⟨v, e3, r3⟩ := (KVD.val h2 k).1 _ e2
        exact .inr (.inr ⟨a, v, rfl, by have := DGet.t h1 hc; rw [e3] at this; exact this, p.here g r3⟩)
    · rename_i n ds e
      obtain ⟨i, e1, e2⟩ := Option.bind_eq_some_iff.mp h
      obtain ⟨j, e3, e4⟩ := Option.bind_eq_some_iff.mp e2
      obtain ⟨a, ea, vs, h1, h2⟩ := g.cell e
      cases rx with
      | ref hw =>
        rw [ea] at hw; cases hw
        obtain ⟨v, h5, h6⟩ := h2.get e4
        exact .inl ⟨a, vs, i, v, rfl, intOf_ok ry e1, SqL.of h1, atI_map (f := fun (_ : D) => v) e3 e4 vs h2.length h5, p.here g h6⟩
    · rename_i n ds e
      obtain ⟨i, e1, e2⟩ := Option.bind_eq_some_iff.mp h
      obtain ⟨j, e3, e4⟩ := Option.bind_eq_some_iff.mp e2
      obtain ⟨a, ea, ok⟩ := g.cell e
      cases rx with
      | ref hw =>
        rw [ea] at hw; cases hw
        cases (show Dq (FZ hid w st H) (.ref _) (.list ds) from ok) with
        | lst hs ha =>
          obtain ⟨v, h5, h6, h7⟩ := seqd ha e1 e3 e4
          exact .inl ⟨_, _, i, v, rfl, h5, SqL.of (FZ.le _ _ hs), h6, h7⟩
    · cases h
  · rename_i ds
    obtain ⟨i, e1, e2⟩ := Option.bind_eq_some_iff.mp h
    obtain ⟨j, e3, e4⟩ := Option.bind_eq_some_iff.mp e2
    cases rx with
    | py q =>
      cases q with
      | lst hs ha =>
        obtain ⟨v, h5, h6, h7⟩ := seqd ha e1 e3 e4
        exact .inl ⟨_, _, i, v, rfl, h5, SqL.of (FZ.le _ _ hs), h6, h7⟩
  · rename_i ds
    obtain ⟨i, e1, e2⟩ := Option.bind_eq_some_iff.mp h
    obtain ⟨j, e3, e4⟩ := Option.bind_eq_some_iff.mp e2
    cases rx with
    | py q =>
      cases q with
      | tup hs ha =>
        obtain ⟨v, h5, h6, h7⟩ := seqd ha e1 e3 e4
        exact .inr (.inl ⟨_, _, i, v, rfl, h5, SqT.of (FZ.le _ _ hs), h6, h7⟩)
  · rename_i ds
    obtain ⟨i, e1, e2⟩ := Option.bind_eq_some_iff.mp h
    obtain ⟨j, e3, e4⟩ := Option.bind_eq_some_iff.mp e2
    cases rx with
    | tp hs ha =>
      obtain ⟨v, h5, h6⟩ := ha.get e4
      exact .inr (.inl ⟨_, _, i, v, rfl, intOf_ok ry e1, SqT.of (FZ.le _ _ hs), atI_map (f := fun (_ : D) => v) e3 e4 _ ha.length h5, p.here g h6⟩)
  · rename_i ns
    obtain ⟨i, e1, e2⟩ := Option.bind_eq_some_iff.mp h
    obtain ⟨j, e3, e4⟩ := Option.bind_eq_some_iff.mp e2
    obtain ⟨q, h4, rfl⟩ := Option.map_eq_some_iff.mp e4
    cases rx with
    | scr hs => exact .inl ⟨_, _, i, .int q, rfl, intOf_ok ry e1, FZ.le.sqL hs, atI_map (f := fun (_ : Int) => V.int q) e3 h4 _ (by rw [List.length_map]) (by rw [List.getElem?_map, h4]; rfl), pv_py g p (.int q)⟩
  · cases h
theorem de_ix (hu : X.A.units + 1 < cLine) (ha : DE X fa ca W Δ a ea) (hb : DE X fa ca W Δ b eb) (hs : PlainIx b) : DE X fa ca W Δ (.Subscript a b pos) (.ix ea eb) := by
  refine PE.imp (pe_ix (ix_X hu) ha hb hs) fun σ H Q h => ?_
  refine tG.two (tG.cast (g := fun ρ st => (ev Δ ea ρ st).bind fun x st => (ev Δ eb ρ st).bind fun y st => .of (getix st x y) st) (fun ρ st => by rw [ev]) h) (fun _ _ _ z => z) (fun _ _ _ z => z) fun hid w st H E x y d d' g rx ry p => ?_
  obtain ⟨z, e, p⟩ := p.of
  exact getix_ok g rx ry e p
theorem do_no : DO X fa ca W Δ none .no := by
  refine ⟨fun pins s σ H Q I h => po_none.run pins s σ H Q I ?_⟩
  obtain ⟨hid, w, st, ρ, g0, s0, p⟩ := h
  simp only [evO] at p
  exact p.here g0 rfl
theorem do_so (h : DE X fa ca W Δ a ea) : DO X fa ca W Δ (some a) (.so ea) := by
  refine ⟨fun pins s σ H Q I hw => (po_some h).run pins s σ H Q I ?_⟩
  obtain ⟨hid, w, st, ρ, g0, s0, p⟩ := hw
  simp only [evO] at p
  refine ⟨hid, w, st, ρ, g0, s0, (PostG.bind (rel := relV X.K fa) p).mono fun x H1 ⟨d1, w1, st1, e1, g1, r1, _, p1⟩ => ?_⟩
  obtain ⟨z, e, p1⟩ := p1.of
  obtain ⟨i, e2, rfl⟩ := Option.map_eq_some_iff.mp e
  exact ⟨i, intOf_ok r1 e2, p1.here g1 rfl⟩
theorem cutV_eq {F : Hp} {vs : List V} {ds : List PD} (r : DqAll F vs ds) (lo hi : Option Int) : DqAll F (cutV vs lo hi) (cut ds lo hi) := by
  unfold cutV cut
  rw [r.length]
  exact (r.drop _).take _
theorem cut_whole {lo hi : Option Int} {ds : List PD} (hw : HT.sIx ds.length 0 lo = 0 ∧ HT.sIx ds.length ds.length hi = ds.length) : cut ds lo hi = ds := by
  unfold cut
  rw [hw.1, hw.2]
  simp
theorem de_sl {lo hi : Option Expr} {ol oh : O} {p2 : Pos} (ha : DE X fa ca W Δ a ea) (hl : DO X fa ca W Δ lo ol) (hh : DO X fa ca W Δ hi oh) : DE X fa ca W Δ (.Subscript a (.Slice lo hi none p2) pos) (.sl ea ol oh) := by
  refine PE.imp (pe_slice (sl_tupA.or sl_list) ha hl hh) fun σ H Q ⟨hid, w, st, ρ, g0, s0, p⟩ => ?_
  simp only [ev] at p
  refine ⟨hid, w, st, ρ, g0, s0, (PostG.bind (rel := relV X.K fa) p).mono fun x H1 ⟨d1, w1, st1, e1, g1, r1, _, p1⟩ => ?_⟩
  refine ⟨hid, w1, st1, ρ, g1, e1.slots s0, (PostG.bind (rel := relO) p1).mono fun l H2 ⟨l', w2, st2, e2, g2, r2, _, p2⟩ => ?_⟩
  refine ⟨hid, w2, st2, ρ, g2, (e1.trans e2).slots s0, (PostG.bind (rel := relO) p2).mono fun h H3 ⟨h', w3, st3, e3, g3, r3, _, p3⟩ => ?_⟩
  cases (show l = l' from r2)
  cases (show h = h' from r3)
  obtain ⟨z, e, p3⟩ := p3.of
  have rx := (e2.trans e3).rv r1
  unfold slcD at e
  split at e
  · cases e
    cases rx with
    | py q =>
      cases q with
      | tup hs ht =>
        refine .inl ⟨_, _, rfl, SqT.of (FZ.le _ _ hs), fun hw => ?_, fun _ p hp => pv_new g3 p3 hp (Dq.newT g3 hp (cutV_eq ht _ _))⟩
        rw [cut_whole (by rw [← ht.length]; exact hw)] at p3
        exact pv_py g3 p3 (.tup hs ht)
  · cases e
    cases rx with
    | py q =>
      cases q with
      | lst hs ht => exact .inr ⟨_, _, rfl, SqL.of (FZ.le _ _ hs), fun p hp => pv_new g3 p3 hp (Dq.new g3 hp (cutV_eq ht _ _))⟩
  · cases e
end
end Ev
set_option maxHeartbeats 1000000
namespace Ev
open PySem PySem.Spec PyProof.Rows L2
def Es.len : Es → Nat
  | .nil => 0
  | .cons _ r => r.len + 1
theorem evs_len {Δ : Dn} : ∀ (es : Es) {ρ : EnvD} {st st' : Store} {ds : List D}, evs Δ es ρ st = .ok ds st' → ds.length = es.len
  | .nil, _, _, _, _, h => by simp only [evs, Rs.ok.injEq] at h; rw [← h.1]; rfl
  | .cons e r, ρ, st, st', ds, h => by
    simp only [evs] at h
    cases h1 : ev Δ e ρ st with
    | ex e s => rw [h1] at h; cases h
    | bad => rw [h1] at h; cases h
    | ok d s =>
      rw [h1] at h
      simp only [Rs.bind_ok] at h
      cases h2 : evs Δ r ρ s with
      | ex e s => rw [h2] at h; cases h
      | bad => rw [h2] at h; cases h
      | ok ds' s' =>
        rw [h2] at h
        simp only [Rs.bind_ok, Rs.ok.injEq] at h
        rw [← h.1, List.length_cons, evs_len r h2]
        rfl
/-- a new list, kept aside -/
def PostL (K : PySem.W.Frag) (fa ca : Nat → Addr) (hid w : List Addr) (st : Store) (H : Hp) (E : XK) (r : Rs (List D)) (Q : VK) : Prop := match r with
  | .ok ds st' => ∀ p vs w' H', p ∉ hid → Good K fa ca (p :: hid) w' st' H' → H' p = some (.lst vs) → RVs K fa w' (FZ (p :: hid) w' st' H') vs ds → w <+: w' → Le (FZ hid w st H) (FZ (p :: hid) w' st' H') → (∀ a ∈ hid, H' a = H a) → Q (.ref p) H'
  | .ex e st' => ∀ cls dd w' H', Ext hid w st H w' st' H' → Good K fa ca hid w' st' H' → RX ca cls dd H' e → E cls dd H'
  | .bad => False
def tL (K : PySem.W.Frag) (fa ca : Nat → Addr) (W : WX) (f : EnvD → Store → Rs (List D)) : TE := fun σ H Q =>
  ∃ (hid w : List Addr) (st : Store) (ρ : EnvD), Good K fa ca hid w st H ∧ Slots K fa w (FZ hid w st H) ρ σ ∧ PostL K fa ca hid w st H (fun c d H' => W c d σ H') (f ρ st) Q
section
variable {K : PySem.W.Frag} {fa ca : Nat → Addr} {hid w w' : List Addr} {st st' : Store} {H H' : Hp} {E : XK}
theorem PostL.base {r : Rs (List D)} {Q : VK} (x : Ext hid w st H w' st' H') (h : PostL K fa ca hid w st H E r Q) : PostL K fa ca hid w' st' H' E r Q := by
  cases r with
  | ok d s => exact fun p vs w2 H2 np g h1 h2 h3 h4 h5 => h p vs w2 H2 np g h1 h2 (x.pre.trans h3) (x.le.trans h4) fun a ha => (h5 a ha).trans (x.asd a ha)
  | ex e s => exact fun c d w2 H2 y g r => h c d w2 H2 (x.trans y) g r
  | bad => exact h
theorem PostL.bind {α β : Type} {rel : List Addr → Hp → β → α → Prop} {r : Rs α} {k : α → Store → Rs (List D)} {Q : VK} (h : PostL K fa ca hid w st H E (r.bind k) Q) :
    PostG K fa ca rel hid w st H E r fun x H1 => ∃ a w1 st1, Ext hid w st H w1 st1 H1 ∧ Good K fa ca hid w1 st1 H1 ∧ rel w1 (FZ hid w1 st1 H1) x a ∧ r = .ok a st1 ∧ PostL K fa ca hid w1 st1 H1 E (k a st1) Q := by
  cases r with
  | ok d s => exact fun v w2 H2 y g r => ⟨d, w2, s, y, g, r, rfl, PostL.base y h⟩
  | ex e s => exact h
  | bad => exact h
theorem PostL.new {ds : List D} {Q : VK} (h : PostL K fa ca hid w st H E (.ok ds st) Q) (g : Good K fa ca hid w st H) {p : Addr} {vs : List V} (hp : H p = none) (r : RVs K fa w (FZ hid w st H) vs ds) : Q (.ref p) (upd H p (.lst vs)) :=
  h p vs w _ (g.noth hp) (g.aside hp) upd_same (r.mono (fun _ _ z => z) (FZ.aside g hp)) (List.prefix_refl _) (FZ.aside g hp) fun a ha => upd_ne fun z => g.noth hp (z ▸ ha)
end
section
variable {X : Cx} {fa ca : Nat → Addr} {W : WX} {Δ : Dn} {a b c : Expr} {es : List Expr} {ea eb ec : E} {pos : Pos}
abbrev DL (X : Cx) (fa ca : Nat → Addr) (W : WX) (Δ : Dn) (e : Expr) (l : L) : Prop := PE X e (tL X.K fa ca W (evL Δ l))
theorem mkTup_ok {K : PySem.W.Frag} {w : List Addr} {F : Hp} {p : Addr} {vs : List V} {ds : List D} (hp : F p = some (.tup vs)) (r : RVs K fa w F vs ds) : RV K fa w F (.ref p) (mkTup ds) := by
  unfold mkTup
  cases e : Ev.pys ds with
  | some ps => exact .py (.tup hp (r.pys e))
  | none => exact .tp hp r
theorem de_tup {x1 : Nat} {ee : Es} (hl : ee.len ≤ 1000) (h : DA X fa ca W Δ es ee) : DE X fa ca W Δ (.Tuple es x1 pos) (.tup ee) := by
  refine PE.imp (pe_tup h) fun σ H Q ⟨hid, w, st, ρ, g0, s0, p⟩ => ?_
  simp only [ev] at p
  refine ⟨hid, w, st, ρ, g0, s0, (PostG.bind (rel := relA X.K fa) p).mono fun xs H1 ⟨ds, w1, st1, e1, g1, r1, e2, p1⟩ => ⟨?_, fun p hp => ?_⟩⟩
  · rw [r1.length, evs_len ee e2, sizeLine_eq]; omega
  · exact p1.new g1 hp (mkTup_ok (FZ.new g1 hp) (r1.mono (fun _ _ z => z) (Ext.new g1 hp).le))
theorem dl_lst {ee : Es} (h : DA X fa ca W Δ es ee) : DL X fa ca W Δ (.List es pos) (.lst ee) := by
  refine PE.imp (pe_lst h) fun σ H Q ⟨hid, w, st, ρ, g0, s0, p⟩ => ?_
  simp only [evL] at p
  refine ⟨hid, w, st, ρ, g0, s0, (PostL.bind (rel := relA X.K fa) p).mono fun xs H1 ⟨ds, w1, st1, e1, g1, r1, e2, p1⟩ => ?_⟩
  split at p1
  · rename_i hl
    exact ⟨by rw [r1.length, sizeLine_eq]; exact hl, fun p hp => p1.new g1 hp r1⟩
  · exact p1.elim
theorem rd_li {l : L} {σ : L2.St} {H : Hp} {Q : VK} (h : tG X.K fa ca W (relV X.K fa) (ev Δ (.li l)) σ H Q) : tL X.K fa ca W (evL Δ l) σ H Q := by
  obtain ⟨hid, w, st, ρ, g0, s0, p⟩ := h
  refine ⟨hid, w, st, ρ, g0, s0, ?_⟩
  simp only [ev] at p
  cases e : evL Δ l ρ st with
  | ex _ _ => rw [e] at p; exact p
  | bad => rw [e] at p; exact p
  | ok ds s =>
    rw [e] at p
    simp only [Rs.bind_ok] at p
    intro q vs w' H' np g h1 h2 h3 h4 h5
    split at p
    · rename_i ps e2
      have fz : FZ hid w' s H' q = some (.lst vs) := FZ.at.mpr ⟨not_live (g.asd q List.mem_cons_self).1, np, h1⟩
      exact p _ w' H' ⟨h3, h4.trans FZ.show, h5⟩ g.show (.py (.lst fz (DqAll.mono FZ.show (h2.pys e2))))
    · exact p.elim
theorem rd_cell {l : L} {σ : L2.St} {H : Hp} {Q : VK} (h : tG X.K fa ca W (relV X.K fa) (ev Δ (.cell l)) σ H Q) : tL X.K fa ca W (evL Δ l) σ H Q := by
  obtain ⟨hid, w, st, ρ, g0, s0, p⟩ := h
  refine ⟨hid, w, st, ρ, g0, s0, ?_⟩
  simp only [ev] at p
  cases e : evL Δ l ρ st with
  | ex _ _ => rw [e] at p; exact p
  | bad => rw [e] at p; exact p
  | ok ds s =>
    rw [e] at p
    simp only [Rs.bind_ok] at p
    intro q vs w' H' np g h1 h2 h3 h4 h5
    have ok : CellOk X.K fa ca (w' ++ [q]) (FZ (q :: hid) w' s H') H' q (.lst ds) := ⟨vs, h1, h2.mono (fun _ _ z => pre_get (List.prefix_append _ _) z) Le.refl⟩
    refine p _ (w' ++ [q]) H' ⟨h3.trans (List.prefix_append _ _), h4.trans (Ext.toCell g.len trivial), h5⟩ (g.toCell trivial np ok) (.ref ?_)
    rw [← g.len]
    simp
theorem de_li {l : L} (h : DL X fa ca W Δ a l) : DE X fa ca W Δ a (.li l) := PE.imp h fun _ _ _ => rd_li
theorem de_cell {l : L} (h : DL X fa ca W Δ a l) : DE X fa ca W Δ a (.cell l) := PE.imp h fun _ _ _ => rd_cell
theorem de_dnew : DE X fa ca W Δ (.Dict [] [] pos) .dnew := by
  refine PE.imp pe_dnewT fun σ H Q ⟨hid, w, st, ρ, g0, s0, p⟩ q hq => ?_
  simp only [ev] at p
  have g := g0.aside (o := .dT []) hq
  refine p _ (w ++ [q]) _ ⟨List.prefix_append _ _, (FZ.aside g0 hq).trans (Ext.toCell g.len trivial), fun a ha => upd_ne fun z => g0.noth hq (z ▸ ha)⟩ (g.toCell trivial (g0.noth hq) ⟨[], upd_same, .nil⟩) (.ref ?_)
  rw [← g0.len]
  simp
theorem dl_seq {p : Pos} (hg : Gl X "list") (hm : X.mg "list" = none) (ha : DE X fa ca W Δ a ea) (hs : starEach [a] X.env = (false, eval a X.env) :: starEach [] X.env) : DL X fa ca W Δ (.Call (.Name "list" p) [a] [] pos) (.seq ea) := by
  refine PE.imp (pe_callTy call_list_of hg hm boot_list (pa_cons ha pa_nil hs) (by decide) (by decide) hs (by rfl)) fun σ H Q ⟨hid, w, st, ρ, g0, s0, p⟩ => ?_
  simp only [evL] at p
  refine ⟨hid, w, st, ρ, g0, s0, (PostL.bind (rel := relV X.K fa) p).mono fun x H1 ⟨d1, w1, st1, e1, g1, r1, e2, p1⟩ => ?_⟩
  cases q : seqOf st1 d1 with
  | none => rw [q] at p1; exact p1.elim
  | some l =>
    rw [q] at p1
    obtain ⟨b, vs, rfl, h1, h2⟩ := seqOf_ok g1 r1 q
    exact ⟨b, vs, rfl, h1.imp SqL.of SqT.of, fun l hl => p1.new g1 hl h2⟩
theorem dq_app {F : Hp} {vs : List V} {ps : List PD} {v : V} {p : PD} (h : DqAll F vs ps) (h' : Dq F v p) : DqAll F (vs ++ [v]) (ps ++ [p]) := h.append (.cons h' .nil)
theorem frzD_ok {K : PySem.W.Frag} {fa ca : Nat → Addr} {hid w : List Addr} {H : Hp} : ∀ (k : Nat) {st st' : Store} {v : V} {d : D} {p : PD}, Good K fa ca hid w st H → RV K fa w (FZ hid w st H) v d → frzD k st d = some (p, st') →
    Good K fa ca hid w st' H ∧ Le (FZ hid w st H) (FZ hid w st' H) ∧ Dq (FZ hid w st' H) v p ∧ (∀ (n : Nat) (c : Cell), st[n]? = some c → ¬ c.live → st'[n]? = some c) := by
  intro k
  induction k with
  | zero =>
    intro st st' v d p g r h
    cases r with
    | py q => simp only [frzD, Option.some.injEq, Prod.mk.injEq] at h; obtain ⟨rfl, rfl⟩ := h; exact ⟨g, Le.refl, q, fun _ _ e _ => e⟩
    | ref _ => simp [frzD] at h
    | fn => simp [frzD] at h
    | tp _ _ => simp [frzD] at h
    | scr _ => simp [frzD] at h
    | ob _ _ => simp [frzD] at h
  | succ k ih =>
    have all : ∀ {ds : List D} {vs : List V} {st st' : Store} {us : List V} {ps qs : List PD}, Good K fa ca hid w st H → RVs K fa w (FZ hid w st H) vs ds → DqAll (FZ hid w st H) us ps →
        ds.foldlM (fun (p : List PD × Store) d => (frzD k p.2 d).map fun q => (p.1 ++ [q.1], q.2)) ((ps, st) : List PD × Store) = some (qs, st') →
        Good K fa ca hid w st' H ∧ Le (FZ hid w st H) (FZ hid w st' H) ∧ DqAll (FZ hid w st' H) (us ++ vs) qs ∧ (∀ (n : Nat) (c : Cell), st[n]? = some c → ¬ c.live → st'[n]? = some c) := by
      intro ds
      induction ds with
      | nil =>
        intro vs st st' us ps qs g r hu h
        cases r
        simp only [List.foldlM_nil, pure, Option.some.injEq, Prod.mk.injEq] at h
        obtain ⟨rfl, rfl⟩ := h
        rw [List.append_nil]
        exact ⟨g, Le.refl, hu, fun _ _ e _ => e⟩
      | cons d ds ihd =>
        intro vs st st' us ps qs g r hu h
        cases r with
        | @cons v1 vs1 _ _ r1 r2 =>
          rw [List.foldlM_cons] at h
          simp only [bind, Option.bind_eq_some_iff, Option.map_eq_some_iff] at h
          obtain ⟨⟨ps2, st2⟩, ⟨⟨p1, st1⟩, h1, h2⟩, h3⟩ := h
          simp only [Prod.mk.injEq] at h2
          obtain ⟨rfl, rfl⟩ := h2
          obtain ⟨g1, l1, q1, k1⟩ := ih g r1 h1
          obtain ⟨g2, l2, q2, k2⟩ := ihd g1 (r2.mono (fun _ _ z => z) l1) (dq_app (DqAll.mono l1 hu) q1) h3
          rw [List.append_assoc] at q2
          exact ⟨g2, l1.trans l2, q2, fun n c e hc => k2 n c (k1 n c e hc) hc⟩
    intro st st' v d p g r h
    cases r with
    | py q => simp only [frzD, Option.some.injEq, Prod.mk.injEq] at h; obtain ⟨rfl, rfl⟩ := h; exact ⟨g, Le.refl, q, fun _ _ e _ => e⟩
    | @ref n a hw =>
      simp only [frzD] at h
      split at h
      · rename_i d e
        cases h
        obtain ⟨a', ea, ok⟩ := g.cell e
        rw [ea] at hw; cases hw
        exact ⟨g, Le.refl, ok, fun _ _ e _ => e⟩
      · rename_i ds e
        obtain ⟨⟨qs, s2⟩, h1, h2⟩ := Option.map_eq_some_iff.mp h
        simp only [Prod.mk.injEq] at h2
        obtain ⟨rfl, rfl⟩ := h2
        obtain ⟨a', ea, vs, hv, rv⟩ := g.cell e
        rw [ea] at hw; cases hw
        obtain ⟨g1, l1, q1, k1⟩ := all g rv .nil h1
        rw [List.nil_append] at q1
        have fz : FZ hid w (s2.set n (.frz (.list qs))) H a = some (.lst vs) := by
          refine FZ.at.mpr ⟨?_, ?_, hv⟩
          · rintro ⟨m, c, e1, e2, e3⟩
            have : n = m := w_inj g.nd ea e1
            subst this
            have hn : n < s2.length := by rw [← g1.len]; exact (List.getElem?_eq_some_iff.mp ea).1
            rw [List.getElem?_set_self hn] at e2
            cases e2
            exact e3
          · exact fun z => (g.asd a z).1 (List.mem_of_getElem? ea)
        have dq : Dq (FZ hid w (s2.set n (.frz (.list qs))) H) (.ref a) (.list qs) := .lst fz (DqAll.mono Le.freeze q1)
        refine ⟨g1.freeze ea dq, l1.trans Le.freeze, dq, fun m c e1 e2 => ?_⟩
        have nm : n ≠ m := fun z => by
          subst z
          rw [e] at e1; cases e1
          exact e2 trivial
        rw [List.getElem?_set_ne nm]
        exact k1 m c e1 e2
      · cases h
    | fn => simp [frzD] at h
    | tp h1 h2 =>
      simp only [frzD] at h
      obtain ⟨⟨qs, s2⟩, h3, h4⟩ := Option.map_eq_some_iff.mp h
      simp only [Prod.mk.injEq] at h4
      obtain ⟨rfl, rfl⟩ := h4
      obtain ⟨g1, l1, q1, k1⟩ := all g h2 .nil h3
      rw [List.nil_append] at q1
      exact ⟨g1, l1, .tup (l1 _ _ h1) q1, k1⟩
    | scr _ => simp [frzD] at h
    | ob _ _ => simp [frzD] at h
theorem de_frz (h : DE X fa ca W Δ a ea) : DE X fa ca W Δ a (.frz ea) := by
  refine PE.imp h fun σ H Q ⟨hid, w, st, ρ, g0, s0, p⟩ => ?_
  simp only [ev] at p
  refine ⟨hid, w, st, ρ, g0, s0, (PostG.bind (rel := relV X.K fa) p).mono fun x H1 ⟨d1, w1, st1, e1, g1, r1, e2, p1⟩ => ?_⟩
  split at p1
  · rename_i q s2 e
    obtain ⟨g2, l2, dq, _⟩ := frzD_ok 6 g1 r1 e
    exact p1 x w1 H1 ⟨List.prefix_refl _, l2, fun _ _ => rfl⟩ g2 (.py dq)
  · exact p1.elim
end
end Ev
set_option maxHeartbeats 1000000
namespace Ev
open PySem PySem.Spec PyProof.Rows L2
/-- an iterator yields these, wherever the heap has grown -/
def IterOk (K : PySem.W.Frag) (fa ca : Nat → Addr) (w0 : List Addr) (F : Hp) (J : L2.It) (ds : List D) : Prop :=
  ∀ (i : Nat) (hid w : List Addr) (st : Store) (H : Hp), Good K fa ca hid w st H → (∀ (n : Nat) (a : Addr), w0[n]? = some a → w[n]? = some a) → Le F (FZ hid w st H) →
    (∀ d, ds[i]? = some d → J.go i H ∧ ∀ x H', J.yld i H x H' → Good K fa ca hid w st H' ∧ Ext hid w st H w st H' ∧ RV K fa w (FZ hid w st H') x d) ∧ (ds.length = i → J.stop i H)
abbrev relI (K : PySem.W.Frag) (fa ca : Nat → Addr) : List Addr → Hp → L2.It → List D → Prop := IterOk K fa ca
section
variable {X : Cx} {fa ca : Nat → Addr} {W : WX} {Δ : Dn} {a b c tg : Expr} {ea eb ec : E} {pos : Pos}
abbrev DI (X : Cx) (fa ca : Nat → Addr) (W : WX) (Δ : Dn) (tg e : Expr) (it : It) : Prop := PI X tg e (tG X.K fa ca W (relI X.K fa ca) (evI Δ it))
theorem iter_list {K : PySem.W.Frag} {w0 : List Addr} {F : Hp} {p : Addr} {vs : List V} {l : List D} (h1 : F p = some (.lst vs)) (h2 : RVs K fa w0 F vs l) : IterOk K fa ca w0 F (Itl K p) l := by
  intro i hid w st H g hw le
  have hp : H p = some (.lst vs) := FZ.le _ _ (le _ _ h1)
  refine ⟨fun d e => ?_, fun hl => ⟨vs, SqL.of hp, by rw [h2.length]; exact Nat.le_of_eq hl⟩⟩
  obtain ⟨v, e1, r⟩ := h2.get e
  refine ⟨⟨vs, v, SqL.of hp, e1⟩, fun x H' y => ?_⟩
  obtain ⟨rfl, y⟩ := y
  have := y vs (SqL.of hp)
  rw [e1] at this; cases this
  exact ⟨g, Ext.refl, r.mono hw le⟩
theorem iter_tup {K : PySem.W.Frag} {w0 : List Addr} {F : Hp} {p : Addr} {vs : List V} {l : List D} (h1 : F p = some (.tup vs)) (h2 : RVs K fa w0 F vs l) : IterOk K fa ca w0 F (Itt K p) l := by
  intro i hid w st H g hw le
  have hp : H p = some (.tup vs) := FZ.le _ _ (le _ _ h1)
  refine ⟨fun d e => ?_, fun hl => ⟨vs, SqT.of hp, by rw [h2.length]; exact Nat.le_of_eq hl⟩⟩
  obtain ⟨v, e1, r⟩ := h2.get e
  refine ⟨⟨vs, v, SqT.of hp, e1⟩, fun x H' y => ?_⟩
  obtain ⟨rfl, y⟩ := y
  have := y vs (SqT.of hp)
  rw [e1] at this; cases this
  exact ⟨g, Ext.refl, r.mono hw le⟩
/-- a list or a tuple that does not change, with its items -/
theorem froz_of {K : PySem.W.Frag} {w : List Addr} {st : Store} {F : Hp} {x : V} {d : D} {l : List D} (nr : ∀ n, d ≠ .ref n) (r : RV K fa w F x d) (h : seqOf st d = some l) :
    ∃ p vs, x = .ref p ∧ RVs K fa w F vs l ∧ (F p = some (.lst vs) ∨ F p = some (.tup vs)) := by
  unfold seqOf at h
  cases r with
  | py q =>
    cases q with
    | lst h1 h2 =>
      simp only [listOf] at h
      cases h
      exact ⟨_, _, rfl, RVs.of_dq h2, .inl h1⟩
    | tup h1 h2 =>
      simp only [listOf, tupOf] at h
      cases h
      exact ⟨_, _, rfl, RVs.of_dq h2, .inr h1⟩
    | _ => simp [listOf, tupOf] at h
  | ref _ => exact absurd rfl (nr _)
  | fn => simp [listOf, tupOf] at h
  | tp h1 h2 =>
    simp only [listOf, tupOf] at h
    cases h
    exact ⟨_, _, rfl, h2, .inr h1⟩
  | scr _ => simp [listOf, tupOf] at h
  | ob _ _ => simp [listOf, tupOf] at h
/-- a list or a tuple is walked -/
def iSeq (K : PySem.W.Frag) (tl : TE) : TI := fun σ H R => tl σ H fun x H1 => ∃ a, x = .ref a ∧ ((∃ xs, SqL K H1 a xs ∧ R (Itl K a) H1) ∨ ∃ xs, SqT K H1 a xs ∧ R (Itt K a) H1)
theorem pi_seq {l : Expr} {tl : TE} (hl : PE X l tl) : PI X tg l (iSeq X.K tl) := by
  refine ⟨fun pins s σ H R I h => ?_⟩
  refine thn (hl.run pins s σ H _ I h) fun v s1 ⟨x, H1, I1, r1, q1⟩ => ?_
  obtain ⟨a, e, q⟩ := q1
  subst e
  cases r1
  rcases q with ⟨xs, hq, q⟩ | ⟨xs, hq, q⟩
  · obtain ⟨its, rv, p, hz⟩ := I1.list hq
    refine wpAny_pyIter_list p.isList ?_
    refine ⟨s1.heap.objs.size, [s1.heap.objs.size], _, _, H1, rfl, I1.kept (t' := s1.toks) fun b o e => Heap.get?_push_of_some _ e, turn_list a _, ⟨_, Heap.get?_push_size _ rfl, rfl, rfl⟩, fun b hb => ?_, q⟩
    have e : b = s1.heap.objs.size := by simpa using hb
    subst e
    exact I1.fpOk (Nat.le_refl _) (I1.hok.fresh (Nat.le_refl _))
  · obtain ⟨its, rv, p, hz⟩ := I1.tuple hq
    refine wpAny_pyIter_tuple (show s1.heap.IsTuple a its.toArray from p) ?_
    refine ⟨s1.heap.objs.size, [s1.heap.objs.size], _, _, H1, rfl, I1.kept (t' := s1.toks) fun b o e => Heap.get?_push_of_some _ e, turn_tuple a _, ⟨_, Heap.get?_push_size _ rfl, rfl, rfl⟩, fun b hb => ?_, q⟩
    have e : b = s1.heap.objs.size := by simpa using hb
    subst e
    exact I1.fpOk (Nat.le_refl _) (I1.hok.fresh (Nat.le_refl _))
theorem di_e (h : DE X fa ca W Δ a ea) : DI X fa ca W Δ tg a (.e ea) := by
  refine PI.imp (pi_seq h) fun σ H R ⟨hid, w, st, ρ, g0, s0, p⟩ => ?_
  simp only [evI] at p
  refine ⟨hid, w, st, ρ, g0, s0, (PostG.bind (rel := relV X.K fa) p).mono fun x H1 ⟨d1, w1, st1, e1, g1, r1, _, p1⟩ => ?_⟩
  have go : (∀ n, d1 ≠ .ref n) → PostG X.K fa ca (relI X.K fa ca) hid w1 st1 H1 (fun c d H' => W c d σ H') (.of (seqOf st1 d1) st1) R → ∃ a, x = .ref a ∧ ((∃ xs, SqL X.K H1 a xs ∧ R (Itl X.K a) H1) ∨ ∃ xs, SqT X.K H1 a xs ∧ R (Itt X.K a) H1) := fun nr p1 => by
    obtain ⟨l, e, p1⟩ := p1.of
    obtain ⟨q, vs, rfl, rv, hq⟩ := froz_of nr r1 e
    refine ⟨q, rfl, ?_⟩
    rcases hq with hq | hq
    · exact .inl ⟨vs, SqL.of (FZ.le _ _ hq), p1.here g1 (iter_list hq rv)⟩
    · exact .inr ⟨vs, SqT.of (FZ.le _ _ hq), p1.here g1 (iter_tup hq rv)⟩
  cases d1 with
  | ref n => exact p1.elim
  | py d => exact go (fun n z => by cases z) p1
  | fn f => exact go (fun n z => by cases z) p1
  | tp l => exact go (fun n z => by cases z) p1
  | scr l => exact go (fun n z => by cases z) p1
  | ob c l => exact go (fun n z => by cases z) p1
theorem rangeD_get (lo hi : Int) (i : Nat) (d : D) (h : (rangeD lo hi)[i]? = some d) : i < (hi - lo).toNat ∧ d = .py (.int (lo + i)) := by
  unfold rangeD at h
  rw [List.getElem?_map] at h
  obtain ⟨j, h1, h2⟩ := Option.map_eq_some_iff.mp h
  obtain ⟨h3, h4⟩ := List.getElem?_eq_some_iff.mp h1
  rw [List.getElem_range] at h4
  subst h4
  rw [List.length_range] at h3
  exact ⟨h3, h2.symm⟩
theorem iter_range {K : PySem.W.Frag} {w0 : List Addr} {F : Hp} {lo hi : Int} {n : Nat} (hn : n = (hi - lo).toNat) : IterOk K fa ca w0 F (Itr lo n) (rangeD lo hi) := by
  subst hn
  intro i hid w st H g hw le
  refine ⟨fun d e => ?_, fun hl => ?_⟩
  · obtain ⟨h1, rfl⟩ := rangeD_get lo hi i d e
    refine ⟨h1, fun x H' y => ?_⟩
    obtain ⟨rfl, rfl⟩ := y
    exact ⟨g, Ext.refl, .py (.int _)⟩
  · unfold rangeD at hl
    rw [List.length_map, List.length_range] at hl
    exact Nat.le_of_eq hl
theorem fit_ok {i : Int} (h : fit i = true) : -(2 ^ 62) ≤ i ∧ i < 2 ^ 62 := by
  unfold fit at h
  rw [Bool.and_eq_true, decide_eq_true_eq, decide_eq_true_eq] at h
  exact h
theorem di_rng {p : Pos} (hg : Gl X "range") (hm : X.mg "range" = none) (ha : DE X fa ca W Δ a ea) (hs : starEach [a] X.env = [(false, eval a X.env)]) : DI X fa ca W Δ tg (.Call (.Name "range" p) [a] [] pos) (.rng ea) := by
  refine PI.imp (pi_range1 hg hm (pa_cons ha pa_nil hs) hs) fun σ H R ⟨hid, w, st, ρ, g0, s0, p⟩ => ?_
  simp only [evI] at p
  refine ⟨hid, w, st, ρ, g0, s0, (PostG.bind (rel := relV X.K fa) p).mono fun x H1 ⟨d1, w1, st1, e1, g1, r1, _, p1⟩ => ?_⟩
  split at p1
  · split at p1
    · rename_i hf
      cases r1 with
      | py q =>
        cases q
        exact ⟨_, rfl, (fit_ok hf).1, (fit_ok hf).2, p1.here g1 (iter_range (by rw [Int.sub_zero]))⟩
    · exact p1.elim
  · exact p1.elim
theorem di_rng2 {p : Pos} (hg : Gl X "range") (hm : X.mg "range" = none) (ha : DE X fa ca W Δ a ea) (hb : DE X fa ca W Δ b eb) (hs : starEach [a, b] X.env = [(false, eval a X.env), (false, eval b X.env)]) (hs2 : starEach [b] X.env = [(false, eval b X.env)]) :
    DI X fa ca W Δ tg (.Call (.Name "range" p) [a, b] [] pos) (.rng2 ea eb) := by
  refine PI.imp (pi_range2 hg hm (pa_cons ha (pa_cons hb pa_nil hs2) (by rw [hs, hs2])) hs hs2) fun σ H R ⟨hid, w, st, ρ, g0, s0, p⟩ => ?_
  simp only [evI] at p
  refine ⟨hid, w, st, ρ, g0, s0, (PostG.bind (rel := relV X.K fa) p).mono fun x H1 ⟨d1, w1, st1, e1, g1, r1, _, p1⟩ => ?_⟩
  refine ⟨hid, w1, st1, ρ, g1, e1.slots s0, (PostG.bind (rel := relV X.K fa) p1).mono fun y H2 ⟨d2, w2, st2, e2, g2, r2, _, p2⟩ => ?_⟩
  split at p2
  · split at p2
    · rename_i hf
      obtain ⟨f1, f2⟩ := Bool.and_eq_true_iff.mp hf
      cases r1 with
      | py q =>
        cases q
        cases r2 with
        | py q =>
          cases q
          exact ⟨_, _, rfl, ⟨(fit_ok f1).1, (fit_ok f1).2, (fit_ok f2).1, (fit_ok f2).2⟩, p2.here g2 (iter_range rfl)⟩
    · exact p2.elim
  · exact p2.elim
def Tg.slots : Tg → List Nat
  | .nm i => [i]
  | .two a b => a.slots ++ b.slots
  | .thr a b c => a.slots ++ (b.slots ++ c.slots)
def tTg (K : PySem.W.Frag) (fa ca : Nat → Addr) (tg : Tg) : TG := fun v σ H Q =>
  ∃ (hid w : List Addr) (st : Store) (ρ : EnvD) (d : D), Good K fa ca hid w st H ∧ Slots K fa w (FZ hid w st H) ρ σ ∧ RV K fa w (FZ hid w st H) v d ∧
    ∃ ρ', asg tg st d ρ = some ρ' ∧ ∀ σ', Slots K fa w (FZ hid w st H) ρ' σ' → σ'.length = σ.length → (∀ j, j ∉ tg.slots → σ'[j]? = σ[j]?) → Q σ' H
abbrev DG (X : Cx) (fa ca : Nat → Addr) (e : Expr) (tg : Tg) : Prop := PG X e (tTg X.K fa ca tg)
theorem Slots.set {K : PySem.W.Frag} {w : List Addr} {F : Hp} {ρ : EnvD} {σ : L2.St} (s : Slots K fa w F ρ σ) (i : Nat) {v : V} {d : D} (r : RV K fa w F v d) : Slots K fa w F (ρ.set i (some d)) (σ.set i (some v)) := by
  refine ⟨by rw [List.length_set, List.length_set]; exact s.1, fun j d' e => ?_⟩
  by_cases h : i = j
  · subst h
    have hi : i < ρ.length := by
      have := (List.getElem?_eq_some_iff.mp e).1
      rwa [List.length_set] at this
    rw [List.getElem?_set_self hi] at e
    cases e
    exact ⟨v, List.getElem?_set_self (by rw [← s.1]; exact hi), r⟩
  · rw [List.getElem?_set_ne h] at e
    obtain ⟨v', e', r'⟩ := s.2 j d' e
    exact ⟨v', by rw [List.getElem?_set_ne h]; exact e', r'⟩
theorem dg_nm {i : Nat} {x : Str} (hN : X.N.Nodup) (hi : X.N[i]? = some x) (hx : Loc X.env.scope x) (hf : X.fn x = true ∨ X.env.scope.names.lookup x = some .local) : DG X fa ca (.Name x pos) (.nm i) := by
  have h := pg_name (pos := pos) hN hi hx hf
  refine ⟨fun pins s σ H v u Q I r q => h.run pins s σ H v u Q I r ?_⟩
  obtain ⟨hid, w, st, ρ, d, g, s0, rv, ρ', e, q⟩ := q
  simp only [asg, Option.some.injEq] at e
  subst e
  exact q _ (s0.set i rv) (by rw [List.length_set]) fun j hj => List.getElem?_set_ne (fun z => hj (by rw [z]; exact List.mem_cons_self))
theorem PG.or {e : Expr} {t t' : TG} (h : PG X e t) (h' : PG X e t') : PG X e (fun v σ H Q => t v σ H Q ∨ t' v σ H Q) := ⟨fun pins s σ H v u Q I r q => q.elim (h.run pins s σ H v u Q I r) (h'.run pins s σ H v u Q I r)⟩
theorem PG.imp {e : Expr} {t t' : TG} (h : PG X e t) (i : ∀ v σ H Q, t' v σ H Q → t v σ H Q) : PG X e t' := ⟨fun pins s σ H v u Q I r q => h.run pins s σ H v u Q I r (i v σ H Q q)⟩
theorem dg_two {e1 e2 : Expr} {k : Nat} {t1 t2 : Tg} (hc : X.calm = true) (h1 : DG X fa ca e1 t1) (h2 : DG X fa ca e2 t2)
    (hs : (assignEach [e1, e2] X.env) = [(false, assign e1 X.env), (false, assign e2 X.env)]) (hs2 : (assignEach [e2] X.env) = [(false, assign e2 X.env)]) : DG X fa ca (.Tuple [e1, e2] k pos) (.two t1 t2) := by
  have hg := pgs_cons h1 (pgs_cons h2 (pgs_nil (X := X)) (by rw [hs2]; rfl)) (by rw [hs, hs2]; rfl)
  refine PG.imp (PG.or (pg_tup (n := 2) hc hg (by rw [hs]; rfl) (by rw [hs]; rfl)) (pg_lst (n := 2) hc hg (by rw [hs]; rfl) (by rw [hs]; rfl))) fun v σ H Q ⟨hid, w, st, ρ, d, g, s0, rv, ρ', e, q⟩ => ?_
  simp only [asg] at e
  split at e
  · rename_i x y ex
    obtain ⟨ρ1, e1', e2'⟩ := Option.bind_eq_some_iff.mp e
    obtain ⟨a, vs, rfl, hl, rvs⟩ := seqOf_ok g rv ex
    cases rvs with
    | @cons v1 vs1 _ _ r1 rr =>
      cases rr with
      | @cons v2 vs2 _ _ r2 rr =>
        cases rr
        have body : gCons (tTg X.K fa ca t1) (gCons (tTg X.K fa ca t2) gNil) [v1, v2] σ H Q := by
          refine ⟨v1, [v2], rfl, hid, w, st, ρ, x, g, s0, r1, ρ1, e1', fun σ1 s1 l1 k1 => ?_⟩
          refine ⟨v2, [], rfl, hid, w, st, ρ1, y, g, s1, r2, ρ', e2', fun σ2 s2 l2 k2 => ⟨rfl, ?_⟩⟩
          refine q σ2 s2 (l2.trans l1) fun j hj => ?_
          unfold Tg.slots at hj
          rw [List.mem_append] at hj
          rw [k2 j fun z => hj (.inr z), k1 j fun z => hj (.inl z)]
        rcases hl with hl | hl
        · exact .inr ⟨a, _, rfl, SqL.of hl, rfl, body⟩
        · exact .inl ⟨a, _, rfl, SqT.of hl, rfl, body⟩
  · cases e
theorem dg_thr {e1 e2 e3 : Expr} {k : Nat} {t1 t2 t3 : Tg} (hc : X.calm = true) (h1 : DG X fa ca e1 t1) (h2 : DG X fa ca e2 t2) (h3 : DG X fa ca e3 t3)
    (hs : (assignEach [e1, e2, e3] X.env) = [(false, assign e1 X.env), (false, assign e2 X.env), (false, assign e3 X.env)]) (hs2 : (assignEach [e2, e3] X.env) = [(false, assign e2 X.env), (false, assign e3 X.env)]) (hs3 : (assignEach [e3] X.env) = [(false, assign e3 X.env)]) :
    DG X fa ca (.Tuple [e1, e2, e3] k pos) (.thr t1 t2 t3) := by
  have hg := pgs_cons h1 (pgs_cons h2 (pgs_cons h3 (pgs_nil (X := X)) (by rw [hs3]; rfl)) (by rw [hs2, hs3]; rfl)) (by rw [hs, hs2]; rfl)
  refine PG.imp (PG.or (pg_tup (n := 3) hc hg (by rw [hs]; rfl) (by rw [hs]; rfl)) (pg_lst (n := 3) hc hg (by rw [hs]; rfl) (by rw [hs]; rfl))) fun v σ H Q ⟨hid, w, st, ρ, d, g, s0, rv, ρ', e, q⟩ => ?_
  simp only [asg] at e
  split at e
  · rename_i x y z ex
    obtain ⟨ρ1, e1', e'⟩ := Option.bind_eq_some_iff.mp e
    obtain ⟨ρ2, e2', e3'⟩ := Option.bind_eq_some_iff.mp e'
    obtain ⟨a, vs, rfl, hl, rvs⟩ := seqOf_ok g rv ex
    cases rvs with
    | @cons v1 vs1 _ _ r1 rr =>
      cases rr with
      | @cons v2 vs2 _ _ r2 rr =>
        cases rr with
        | @cons v3 vs3 _ _ r3 rr =>
          cases rr
          have body : gCons (tTg X.K fa ca t1) (gCons (tTg X.K fa ca t2) (gCons (tTg X.K fa ca t3) gNil)) [v1, v2, v3] σ H Q := by
            refine ⟨v1, [v2, v3], rfl, hid, w, st, ρ, x, g, s0, r1, ρ1, e1', fun σ1 s1 l1 k1 => ?_⟩
            refine ⟨v2, [v3], rfl, hid, w, st, ρ1, y, g, s1, r2, ρ2, e2', fun σ2 s2 l2 k2 => ?_⟩
            refine ⟨v3, [], rfl, hid, w, st, ρ2, z, g, s2, r3, ρ', e3', fun σ3 s3 l3 k3 => ⟨rfl, ?_⟩⟩
            refine q σ3 s3 ((l3.trans l2).trans l1) fun j hj => ?_
            unfold Tg.slots at hj
            rw [List.mem_append, List.mem_append] at hj
            rw [k3 j fun z => hj (.inr (.inr z)), k2 j fun z => hj (.inr (.inl z)), k1 j fun z => hj (.inl z)]
          rcases hl with hl | hl
          · exact .inr ⟨a, _, rfl, SqL.of hl, rfl, body⟩
          · exact .inl ⟨a, _, rfl, SqT.of hl, rfl, body⟩
  · cases e
end
end Ev
set_option maxHeartbeats 1000000
namespace Ev
open PySem PySem.Spec PyProof.Rows L2
theorem wipeV_get {σ : L2.St} : ∀ {vs : List Nat} {j : Nat}, (L2.wipe σ vs)[j]? = if j ∈ vs ∧ j < σ.length then some none else σ[j]?
  | [], j => by simp [L2.wipe]
  | v :: vs, j => by
    unfold L2.wipe
    rw [List.getElem?_set, L2.wipe_length, wipeV_get]
    by_cases e : v = j
    · subst e
      rw [if_pos rfl]
      by_cases h : v < σ.length
      · rw [if_pos h, if_pos ⟨List.mem_cons_self, h⟩]
      · rw [if_neg h, if_neg (fun z => h z.2)]
        exact (List.getElem?_eq_none (by omega)).symm
    · rw [if_neg e]
      have : (j ∈ v :: vs ∧ j < σ.length) ↔ (j ∈ vs ∧ j < σ.length) := by
        rw [List.mem_cons]
        constructor
        · rintro ⟨h | h, h2⟩
          · exact absurd h.symm e
          · exact ⟨h, h2⟩
        · rintro ⟨h, h2⟩; exact ⟨.inr h, h2⟩
      by_cases h : j ∈ vs ∧ j < σ.length
      · rw [if_pos h, if_pos (this.mpr h)]
      · rw [if_neg h, if_neg (fun z => h (this.mp z))]
theorem wipeD_get {ρ : EnvD} : ∀ {vs : List Nat} {j : Nat} {d : D}, (Ev.wipe ρ vs)[j]? = some (some d) → ρ[j]? = some (some d) ∧ j ∉ vs
  | [], j, d, h => ⟨h, by simp⟩
  | v :: vs, j, d, h => by
    unfold Ev.wipe at h
    by_cases e : v = j
    · subst e
      rw [List.getElem?_set] at h
      rw [if_pos rfl] at h
      split at h <;> cases h
    · rw [List.getElem?_set_ne e] at h
      obtain ⟨h1, h2⟩ := wipeD_get h
      exact ⟨h1, by rw [List.mem_cons]; rintro (z | z); exact e z.symm; exact h2 z⟩
theorem wipeD_len {ρ : EnvD} : ∀ vs : List Nat, (Ev.wipe ρ vs).length = ρ.length
  | [] => rfl
  | v :: vs => by unfold Ev.wipe; rw [List.length_set, wipeD_len vs]
theorem Slots.wipe {K : PySem.W.Frag} {fa : Nat → Addr} {w : List Addr} {F : Hp} {ρ : EnvD} {σ : L2.St} (s : Slots K fa w F ρ σ) (vs : List Nat) : Slots K fa w F (Ev.wipe ρ vs) (L2.wipe σ vs) := by
  refine ⟨by rw [wipeD_len, L2.wipe_length]; exact s.1, fun j d e => ?_⟩
  obtain ⟨e1, nj⟩ := wipeD_get e
  obtain ⟨v, e2, r⟩ := s.2 j d e1
  exact ⟨v, by rw [wipeV_get, if_neg fun z => nj z.1]; exact e2, r⟩
theorem wipe_back {σ σ2 : L2.St} {vs sl : List Nat} (hsl : ∀ j ∈ sl, j ∈ vs) (hl : σ2.length = (L2.wipe σ vs).length) (hk : ∀ j, j ∉ sl → σ2[j]? = (L2.wipe σ vs)[j]?) : L2.wipe σ2 vs = L2.wipe σ vs := by
  rw [L2.wipe_length] at hl
  apply List.ext_getElem?
  intro j
  rw [wipeV_get]
  by_cases h : j ∈ vs
  · rw [wipeV_get, hl]
    by_cases h2 : j < σ.length
    · rw [if_pos ⟨h, h2⟩, if_pos ⟨h, h2⟩]
    · rw [if_neg fun z => h2 z.2, if_neg fun z => h2 z.2]
      rw [List.getElem?_eq_none (by omega), List.getElem?_eq_none (by omega)]
  · rw [if_neg fun z => h z.1]
    exact hk j fun z => h (hsl j z)
abbrev noW : WX := fun _ _ _ _ => False
section
variable {X : Cx} {fa ca : Nat → Addr} {W : WX} {Δ : Dn}
/-- the reading of a comprehension -/
theorem tLc_of {J0 : It} {eltc : E} {tgc : Tg} {own : List Nat} {tc : T} (hown : ∀ j ∈ tgc.slots, j ∈ own) {σ : L2.St} {H : Hp} {Q : VK} (h : tL X.K fa ca W (evL Δ (.lc eltc tgc own J0 tc)) σ H Q) :
    tLc (tG X.K fa ca W (relI X.K fa ca) (evI Δ J0)) (tTg X.K fa ca tgc) (tG X.K fa ca noW relB (evT Δ tc)) (tG X.K fa ca noW (relV X.K fa) (ev Δ eltc)) own σ H Q := by
  obtain ⟨hid, w, st, ρ, g0, s0, p⟩ := h
  simp only [evL] at p
  refine ⟨hid, w, st, ρ, g0, s0, (PostL.bind (rel := relI X.K fa ca) p).mono fun J H1 ⟨ds, w1, st1, e1, g1, it, _, p1⟩ Dd hD => ?_⟩
  have nD := g1.noth hD
  generalize hf : lcTurn (ev Δ eltc) (evT Δ tc) tgc (Ev.wipe ρ own) = f at p1
  generalize hR : lcLoop f [] ds st1 = R at p1
  let Wf : Nat → Nat → Hp → Prop := fun i m H2 => m + i = ds.length ∧ ∃ w' st' acc vs, Good X.K fa ca (Dd :: hid) w' st' H2 ∧ w1 <+: w' ∧ Le (FZ hid w1 st1 H1) (FZ (Dd :: hid) w' st' H2) ∧ (∀ a ∈ hid, H2 a = H1 a) ∧
    H2 Dd = some (.lst vs) ∧ RVs X.K fa w' (FZ (Dd :: hid) w' st' H2) vs acc ∧ lcLoop f acc (ds.drop i) st' = R
  have sl : ∀ {w' st' H2}, w1 <+: w' → Le (FZ hid w1 st1 H1) (FZ (Dd :: hid) w' st' H2) → Slots X.K fa w' (FZ (Dd :: hid) w' st' H2) (Ev.wipe ρ own) (L2.wipe σ own) := fun {w' st' H2} pre le => by
    have s1 := (e1.slots s0).wipe own
    exact ⟨s1.1, fun i d e => let ⟨v, h1, h2⟩ := s1.2 i d e; ⟨v, h1, h2.mono (fun _ _ z => pre_get pre z) le⟩⟩
  refine ⟨Wf, ⟨ds.length, by simp, w1, st1, [], [], g1.aside hD, List.prefix_refl _, FZ.aside g1 hD, fun a ha => upd_ne fun z => nD (z ▸ ha), upd_same, .nil, by rw [List.drop_zero]; exact hR⟩, ?_⟩
  rintro i m H2 ⟨hm, w', st', acc, vs, g2, pre, le, hh, hvs, rvs, hrun⟩
  obtain ⟨itm, its⟩ := it i (Dd :: hid) w' st' H2 g2 (fun _ _ z => pre_get pre z) le
  by_cases hlt : i < ds.length
  · refine .inr ?_
    have hd : ds[i]? = some ds[i] := List.getElem?_eq_getElem hlt
    obtain ⟨hgo, hy⟩ := itm _ hd
    refine ⟨hgo, Wf (i + 1) (m - 1), fun H' z => ⟨m - 1, by omega, z⟩, fun x H3 y => ?_⟩
    obtain ⟨g3, e3, rx⟩ := hy x H3 y
    have le3 := le.trans e3.le
    rw [List.drop_eq_getElem_cons hlt] at hrun
    simp only [lcLoop] at hrun
    have nb : R ≠ .bad := fun z => by rw [z] at p1; exact p1
    rw [← hf] at hrun
    unfold lcTurn at hrun
    cases ha : asg tgc st' ds[i] (Ev.wipe ρ own) with
    | none => rw [ha] at hrun; exact absurd hrun.symm nb
    | some ρ' =>
      rw [ha] at hrun
      simp only at hrun
      refine ⟨Dd :: hid, w', st', Ev.wipe ρ own, ds[i], g3, sl pre le3, rx, ρ', ha, fun σ2 s2 l2 k2 => ⟨wipe_back hown l2 k2, ?_⟩⟩
      refine ⟨Dd :: hid, w', st', ρ', g3, s2, ?_⟩
      cases hT : evT Δ tc ρ' st' with
      | ex e s => rw [hT] at hrun; exact absurd hrun.symm nb
      | bad => rw [hT] at hrun; exact absurd hrun.symm nb
      | ok b st4 =>
        rw [hT] at hrun
        simp only [Rs.noex_ok, Rs.bind_ok] at hrun
        intro b' w4 H4 e4 g4 rb
        cases (show b' = b from rb)
        have le4 := le3.trans e4.le
        have pre4 := pre.trans e4.pre
        have hh4 : ∀ a ∈ hid, H4 a = H1 a := fun a ha => ((e4.asd a (List.mem_cons_of_mem _ ha)).trans (e3.asd a (List.mem_cons_of_mem _ ha))).trans (hh a ha)
        have hv4 : H4 Dd = some (.lst vs) := ((e4.asd Dd List.mem_cons_self).trans (e3.asd Dd List.mem_cons_self)).trans hvs
        have rv4 := (e3.trans e4).rvs rvs
        cases b with
        | false =>
          rw [if_neg (by decide)] at hrun ⊢
          simp only [Rs.bind_ok] at hrun
          exact ⟨by omega, w4, st4, acc, vs, g4, pre4, le4, hh4, hv4, rv4, by rw [← hrun, ← hf]; rfl⟩
        | true =>
          rw [if_pos rfl] at hrun ⊢
          refine ⟨Dd :: hid, w4, st4, ρ', g4, e4.slots s2, ?_⟩
          cases hE : ev Δ eltc ρ' st4 with
          | ex e s => rw [hE] at hrun; exact absurd hrun.symm nb
          | bad => rw [hE] at hrun; exact absurd hrun.symm nb
          | ok d5 st5 =>
            rw [hE] at hrun
            simp only [Rs.noex_ok, Rs.bind_ok] at hrun
            intro yv w5 H5 e5 g5 ry
            have hv5 : H5 Dd = some (.lst vs) := (e5.asd Dd List.mem_cons_self).trans hv4
            split at hrun
            · rename_i hlen
              have rv5 := e5.rvs rv4
              refine ⟨vs, hv5, by rw [rv5.length, sizeLine_eq]; exact hlen, by omega, w5, st5, acc ++ [d5], vs ++ [yv], g5.turn List.mem_cons_self, pre4.trans e5.pre, ?_, ?_, upd_same, ?_, by rw [← hrun, ← hf]; rfl⟩
              · rw [FZ.turn List.mem_cons_self]; exact le4.trans e5.le
              · intro a ha
                have ne : a ≠ Dd := fun z => nD (z ▸ ha)
                rw [upd_ne ne]
                exact (e5.asd a (List.mem_cons_of_mem _ ha)).trans (hh4 a ha)
              · rw [FZ.turn List.mem_cons_self]
                exact rv5.append (.cons ry .nil)
            · exact absurd hrun.symm nb
  · refine .inl ⟨its (by omega), ?_⟩
    rw [List.drop_eq_nil_of_le (by omega)] at hrun
    simp only [lcLoop] at hrun
    rw [← hrun] at p1
    exact p1 Dd vs w' H2 nD g2 hvs rvs pre le hh
theorem dl_lc {elt tg iter : Expr} {ifs : List Expr} {scope : Scope} {own : List (Str × Nat)} {pos : Pos} {J0 : It} {eltc : E} {tgc : Tg} {tc : T} (hown : ∀ j ∈ tgc.slots, j ∈ own.map (·.2)) (hc : X.calm = true) (hN : X.N.Nodup) (hi : DI X fa ca W Δ tg iter J0) (ok : BlkOk X.N X.env.scope scope own)
    (hg : ∀ (s : Shared) (H : Hp) (C : Addr) (cl : List (Str × Addr)) (fp : List Addr), DG (X.blk s H scope (compEnvC scope cl C X.env) fp) fa ca tg tgc)
    (ht : ∀ (s : Shared) (H : Hp) (C : Addr) (cl : List (Str × Addr)) (fp : List Addr), DTs (X.blk s H scope (compEnvC scope cl C X.env) fp) fa ca noW Δ ifs tc)
    (he : ∀ (s : Shared) (H : Hp) (C : Addr) (cl : List (Str × Addr)) (fp : List Addr), DE (X.blk s H scope (compEnvC scope cl C X.env) fp) fa ca noW Δ elt eltc) (hs : ∀ x, foldedSetIterable iter X.env x = pure x) :
    DL X fa ca W Δ (.ListComp elt [⟨tg, iter, ifs, 0⟩] scope pos) (.lc eltc tgc (own.map (·.2)) J0 tc) :=
  PE.imp (pe_lc hc hN hi ok hg ht he hs) fun σ H Q h => tLc_of (X := X) hown h
/-- name = [..], stored within -/
theorem dl_setLc {i : Nat} {y : Str} {py spos : Pos} {elt tg iter : Expr} {ifs : List Expr} {scope : Scope} {own : List (Str × Nat)} {pos : Pos} {J0 : It} {eltc : E} {tgc : Tg} {tc : T} (hy : X.N[i]? = some y) (hyl : X.env.scope.names.lookup y = some .local)
    (hsw : swapsWith (.ListComp elt [⟨tg, iter, ifs, 0⟩] scope pos) (some (.Name y py)) spos.line X.env = pure true) (hown : ∀ j ∈ tgc.slots, j ∈ own.map (·.2)) (hc : X.calm = true) (hN : X.N.Nodup) (hi : DI X fa ca W Δ tg iter J0) (ok : BlkOk X.N X.env.scope scope own)
    (hg : ∀ (s : Shared) (H : Hp) (C : Addr) (cl : List (Str × Addr)) (fp : List Addr), DG (X.blk s H scope (compEnvC scope cl C X.env) fp) fa ca tg tgc)
    (ht : ∀ (s : Shared) (H : Hp) (C : Addr) (cl : List (Str × Addr)) (fp : List Addr), DTs (X.blk s H scope (compEnvC scope cl C X.env) fp) fa ca noW Δ ifs tc)
    (he : ∀ (s : Shared) (H : Hp) (C : Addr) (cl : List (Str × Addr)) (fp : List Addr), DE (X.blk s H scope (compEnvC scope cl C X.env) fp) fa ca noW Δ elt eltc) (hs : ∀ x, foldedSetIterable iter X.env x = pure x) :
    PS X (.Assign [.Name y py] (.ListComp elt [⟨tg, iter, ifs, 0⟩] scope pos) spos) (tAsg (tL X.K fa ca W (evL Δ (.lc eltc tgc (own.map (·.2)) J0 tc))) (gName i)) :=
  PS.imp (ps_setLc hc hN hy hyl hsw hi ok hg ht he hs) fun D σ H h => tLc_of (X := X) hown h
end
end Ev
set_option maxHeartbeats 1000000
namespace Ev
open PySem PySem.Spec PyProof.Rows L2
theorem readsAll_ints {h : Heap} : ∀ {us : List Value} {ns : List Int}, IntsAre us ns → PySem.ReadsAll h us (ns.map .int) []
  | _, [], e => by cases e; exact .nil
  | us, n :: ns, e => by
    cases e with
    | cons _ _ e1 => exact .cons (bs := []) (as := []) (.int _ _) (readsAll_ints e1)
section
variable {X : Cx} {fa ca : Nat → Addr} {W : WX} {Δ : Dn}
/-- sums of tuples -/
theorem cr_sumT (hc : X.calm = true) : CallR X (.builtin "sum") (fun vs H Q => ∃ (a : Addr) (ns : List Int), vs = [V.ref a] ∧ SqT X.K H a (ns.map V.int) ∧ Q (.int ns.sum) H) := by
  intro pins s σ H vs us Q I r h
  obtain ⟨a, ns, rfl, hs, q⟩ := h
  obtain ⟨its, rv, hl, _⟩ := I.tuple hs
  rw [Vals.ref1 r]
  obtain ⟨xs, e⟩ := rv.ints.allInts.items
  have hn : numsOf (intItems xs).toList = ns := by rw [← e]; exact rv.ints.numsOf
  rw [nums_intItems] at hn
  have hl2 : s.heap.IsTuple a (intItems xs) := by
    obtain ⟨o, h1, h2, n, h3⟩ := hl
    exact ⟨o, h1, h2, n, by rw [← e]; exact h3⟩
  refine PySem.W.ktm_sumG (I.ok.hd hc) hl2 fun h' tk t' hk => ⟨.int _, H, I.kept hk, ⟨_, rfl⟩, ?_⟩
  rw [preSum_eq, List.take_of_length_le (by simp), hn]
  exact q
theorem max_of {ns : List Int} {n m : Int} (h1 : m ∈ n :: ns) (h2 : ∀ y ∈ n :: ns, y ≤ m) : ns.foldl max n = m := by
  have a : ∀ (ns : List Int) (n : Int), n ≤ ns.foldl max n ∧ (∀ y ∈ ns, y ≤ ns.foldl max n) ∧ ns.foldl max n ∈ n :: ns := by
    intro ns
    induction ns with
    | nil => intro n; simp
    | cons a r ih =>
      intro n
      obtain ⟨i1, i2, i3⟩ := ih (max n a)
      refine ⟨by simp only [List.foldl_cons]; omega, ?_, ?_⟩
      · intro y hy
        simp only [List.foldl_cons]
        rcases List.mem_cons.mp hy with rfl | hy
        · omega
        · exact i2 y hy
      · simp only [List.foldl_cons]
        rcases List.mem_cons.mp i3 with e | e
        · rw [e]
          by_cases q : n ≤ a
          · rw [Int.max_eq_right q]; simp
          · rw [Int.max_eq_left (by omega)]; simp
        · simp [e]
  obtain ⟨i1, i2, i3⟩ := a ns n
  have q1 := h2 _ i3
  have q2 : m ≤ ns.foldl max n := by
    rcases List.mem_cons.mp h1 with rfl | h
    · exact i1
    · exact i2 _ h
  omega
theorem min_of {ns : List Int} {n m : Int} (h1 : m ∈ n :: ns) (h2 : ∀ y ∈ n :: ns, m ≤ y) : ns.foldl min n = m := by
  have a : ∀ (ns : List Int) (n : Int), ns.foldl min n ≤ n ∧ (∀ y ∈ ns, ns.foldl min n ≤ y) ∧ ns.foldl min n ∈ n :: ns := by
    intro ns
    induction ns with
    | nil => intro n; simp
    | cons a r ih =>
      intro n
      obtain ⟨i1, i2, i3⟩ := ih (min n a)
      refine ⟨by simp only [List.foldl_cons]; omega, ?_, ?_⟩
      · intro y hy
        simp only [List.foldl_cons]
        rcases List.mem_cons.mp hy with rfl | hy
        · omega
        · exact i2 y hy
      · simp only [List.foldl_cons]
        rcases List.mem_cons.mp i3 with e | e
        · rw [e]
          by_cases q : n ≤ a
          · rw [Int.min_eq_left q]; simp
          · rw [Int.min_eq_right (by omega)]; simp
        · simp [e]
  obtain ⟨i1, i2, i3⟩ := a ns n
  have q1 := h2 _ i3
  have q2 : ns.foldl min n ≤ m := by
    rcases List.mem_cons.mp h1 with rfl | h
    · exact i1
    · exact i2 _ h
  omega
theorem reads_int {h : Heap} {v : Value} {i : Int} {bs : List Addr} (r : PySem.Reads h v (.int i) bs) : ∃ t, v = .int i t := by
  cases r; exact ⟨_, rfl⟩
theorem depth_ints : ∀ ns : List Int, PyData.depthAll (ns.map .int) = 0
  | [] => rfl
  | n :: ns => by
    rw [List.map_cons]
    show max 0 (PyData.depthAll (ns.map .int)) = 0
    rw [depth_ints ns]; rfl
theorem alike_ints (ns : List Int) : PySem.W.AlikeAll (ns.map .int) := by
  refine ⟨fun x hx y hy => ?_, fun x hx => ?_⟩
  · obtain ⟨i, _, rfl⟩ := List.mem_map.mp hx
    obtain ⟨j, _, rfl⟩ := List.mem_map.mp hy
    simp [PySem.W.alike]
  · obtain ⟨i, _, rfl⟩ := List.mem_map.mp hx
    exact fun z => by cases z
theorem cr_maxT (hc : X.calm = true) (hu : X.A.units + 64 < cLine) : CallR X (.builtin "max") (fun vs H Q => ∃ (a : Addr) (n : Int) (ns : List Int), vs = [V.ref a] ∧ SqT X.K H a ((n :: ns).map V.int) ∧ Q (.int (ns.foldl max n)) H) := by
  intro pins s σ H vs us Q I r h
  obtain ⟨a, n, ns, rfl, hs, q⟩ := h
  obtain ⟨its, rv, hl, _⟩ := I.tuple hs
  rw [Vals.ref1 r]
  have hl2 : s.heap.IsTuple a its.toArray := hl
  refine PySem.W.max_tuple_data (x := .int n) (xs := ns.map .int) (as := []) (I.ok.hd hc) hl2 (by have := readsAll_ints (h := s.heap) rv.ints; simpa using this) (by have := alike_ints (n :: ns); simpa using this) (by have := depth_ints (n :: ns); rw [List.map_cons] at this; rw [this]; omega) fun i v h' tk bs _ hr hk => ?_
  rw [PySem.W.maxD_ints] at hr
  obtain ⟨t, rfl⟩ := reads_int hr
  exact ⟨.int _, H, I.kept hk, ⟨_, rfl⟩, q⟩
theorem cr_minT (hc : X.calm = true) (hu : X.A.units + 64 < cLine) : CallR X (.builtin "min") (fun vs H Q => ∃ (a : Addr) (n : Int) (ns : List Int), vs = [V.ref a] ∧ SqT X.K H a ((n :: ns).map V.int) ∧ Q (.int (ns.foldl min n)) H) := by
  intro pins s σ H vs us Q I r h
  obtain ⟨a, n, ns, rfl, hs, q⟩ := h
  obtain ⟨its, rv, hl, _⟩ := I.tuple hs
  rw [Vals.ref1 r]
  have hl2 : s.heap.IsTuple a its.toArray := hl
  refine PySem.W.min_tuple_data (x := .int n) (xs := ns.map .int) (as := []) (I.ok.hd hc) hl2 (by have := readsAll_ints (h := s.heap) rv.ints; simpa using this) (by have := alike_ints (n :: ns); simpa using this) (by have := depth_ints (n :: ns); rw [List.map_cons] at this; rw [this]; omega) fun i v h' tk bs _ hr hk => ?_
  rw [PySem.W.minD_ints] at hr
  obtain ⟨t, rfl⟩ := reads_int hr
  exact ⟨.int _, H, I.kept hk, ⟨_, rfl⟩, q⟩
/-- what a call of a built-in gives -/
def rBi (K : PySem.W.Frag) (fa ca : Nat → Addr) (b : Bi) : List V → Hp → VK → Prop := fun vs H Q => ∃ hid w st E ds d, Good K fa ca hid w st H ∧ RVs K fa w (FZ hid w st H) vs ds ∧ bi st b ds = some d ∧ PostG K fa ca (relV K fa) hid w st H E (.ok d st) Q
theorem CallR.imp {f : Value} {r r' : List V → Hp → VK → Prop} (h : CallR X f r) (i : ∀ vs H Q, r' vs H Q → r vs H Q) : CallR X f r' := fun pins s σ H xs us Q I rs q => h pins s σ H xs us Q I rs (i _ _ _ q)
theorem one_rvs {K : PySem.W.Frag} {w : List Addr} {F : Hp} {vs : List V} {d : D} (r : RVs K fa w F vs [d]) : ∃ v, vs = [v] ∧ RV K fa w F v d := by
  cases r with
  | cons r1 r2 => cases r2; exact ⟨_, rfl, r1⟩
theorem two_rvs {K : PySem.W.Frag} {w : List Addr} {F : Hp} {vs : List V} {d d' : D} (r : RVs K fa w F vs [d, d']) : ∃ v v', vs = [v, v'] ∧ RV K fa w F v d ∧ RV K fa w F v' d' := by
  cases r with
  | cons r1 r2 => cases r2 with
    | cons r2 r3 => cases r3; exact ⟨_, _, rfl, r1, r2⟩
theorem int_rv {K : PySem.W.Frag} {w : List Addr} {F : Hp} {v : V} {i : Int} (r : RV K fa w F v (.py (.int i))) : v = .int i := by
  cases r with
  | py r => cases r; rfl
theorem bl_rv {K : PySem.W.Frag} {w : List Addr} {F : Hp} {v : V} {i : Bool} (r : RV K fa w F v (.py (.bool i))) : v = .bl i := by
  cases r with
  | py r => cases r; rfl
theorem str_rv {K : PySem.W.Frag} {w : List Addr} {F : Hp} {v : V} {i : Str} (r : RV K fa w F v (.py (.str i))) : v = .str i := by
  cases r with
  | py r => cases r; rfl
/-- a sequence of ints -/
theorem seqI_ok {K : PySem.W.Frag} {hid w : List Addr} {st : Store} {H : Hp} {v : V} {d : D} {l : List Int} (g : Good K fa ca hid w st H) (r : RV K fa w (FZ hid w st H) v d) (h : seqI st d = some l) : ∃ a, v = .ref a ∧ (SqL K H a (l.map V.int) ∨ SqT K H a (l.map V.int)) := by
  unfold seqI seqPD at h
  obtain ⟨ps, h1, h2⟩ := Option.bind_eq_some_iff.mp h
  obtain ⟨ds, h3, h4⟩ := Option.bind_eq_some_iff.mp h1
  obtain ⟨a, vs, e1, e2, e3⟩ := seqOf_ok g r h3
  have e4 := (e3.pys h4).ints h2
  subst e4
  exact ⟨a, e1, e2.imp SqL.of SqT.of⟩
theorem call_bi_len : CallR X (.builtin "len") (rBi X.K fa ca .len) := by
  refine CallR.imp (CallR.or call_len_seq (CallR.or call_len_str call_len_dT)) fun vs H Q ⟨hid, w, st, E, ds, d, g, rs, hb, p⟩ => ?_
  have fin : ∀ (k : D), ds = [k] → (seqOf st k).map (fun l => D.py (.int l.length)) = some d → ∃ p ys, vs = [.ref p] ∧ (SqL X.K H p ys ∨ SqT X.K H p ys) ∧ Q (.int ys.length) H := fun k e h => by
    subst e
    obtain ⟨v, rfl, r⟩ := one_rvs rs
    obtain ⟨l, e1, e2⟩ := Option.map_eq_some_iff.mp h
    subst e2
    obtain ⟨a, vs, rfl, e3, e4⟩ := seqOf_ok g r e1
    exact ⟨a, vs, rfl, e3.imp SqL.of SqT.of, by rw [e4.length]; exact p.here g (.py (.int _))⟩
  match ds, rs, hb, fin with
  | [], _, hb, _ => simp [bi] at hb
  | _ :: _ :: _, _, hb, _ => simp [bi] at hb
  | [k], rs, hb, fin =>
    obtain ⟨v, rfl, r⟩ := one_rvs rs
    cases r with
    | py hd =>
      cases hd with
      | str x =>
        simp only [bi] at hb
        split at hb
        · rename_i hl
          cases hb
          exact .inr (.inl ⟨x, rfl, by rw [sizeLine_eq]; exact hl, p.here g (.py (.int _))⟩)
        · cases hb
      | lst h1 h2 => exact .inl (fin _ rfl hb)
      | tup h1 h2 => exact .inl (fin _ rfl hb)
      | _ => simp [bi, seqOf, listOf, tupOf] at hb
    | fn => simp [bi, seqOf, listOf, tupOf] at hb
    | ob _ _ => simp [bi, seqOf, listOf, tupOf] at hb
    | tp h1 h2 => exact .inl (fin _ rfl hb)
    | @scr a ns h =>
      simp only [bi, Option.some.injEq] at hb
      subst hb
      exact .inl ⟨a, ns.map V.int, rfl, .inl (FZ.le.sqL h), by rw [List.length_map]; exact p.here g (.py (.int _))⟩
    | ref hw =>
      simp only [bi] at hb
      split at hb
      · rename_i kvs e
        cases hb
        obtain ⟨a, ea, kv, h1, h2⟩ := g.cell e
        rw [ea] at hw; cases hw
        exact .inr (.inr ⟨_, kv, rfl, h1, by rw [Paired.length h2]; exact p.here g (.py (.int _))⟩)
      · rename_i l e
        exact .inl (fin _ rfl (by simp only [seqOf, listOf, e, Option.map_some]; exact hb))
      · rename_i l e
        exact .inl (fin _ rfl (by simp only [seqOf, listOf, e, Option.map_some, List.length_map]; exact hb))
      · cases hb
theorem call_bi_sum (hc : X.calm = true) : CallR X (.builtin "sum") (rBi X.K fa ca .sum) := by
  refine CallR.imp (CallR.or (cr_sum hc) (cr_sumT hc)) fun vs H Q ⟨hid, w, st, E, ds, d, g, rs, hb, p⟩ => ?_
  match ds, rs, hb with
  | [], _, hb => simp [bi] at hb
  | _ :: _ :: _, _, hb => simp [bi] at hb
  | [k], rs, hb =>
    obtain ⟨v, rfl, r⟩ := one_rvs rs
    simp only [bi, Option.map_eq_some_iff] at hb
    obtain ⟨l, e1, rfl⟩ := hb
    obtain ⟨a, rfl, h⟩ := seqI_ok g r e1
    have q := p.here g (.py (.int _))
    exact h.elim (fun h => .inl ⟨a, l, rfl, h, q⟩) fun h => .inr ⟨a, l, rfl, h, q⟩
theorem call_bi_max (hc : X.calm = true) (hu : X.A.units + 64 < cLine) : CallR X (.builtin "max") (rBi X.K fa ca .max) := by
  refine CallR.imp (CallR.or (cr_max hc) (cr_maxT hc hu)) fun vs H Q ⟨hid, w, st, E, ds, d, g, rs, hb, p⟩ => ?_
  match ds, rs, hb with
  | [], _, hb => simp [bi] at hb
  | _ :: _ :: _, _, hb => simp [bi] at hb
  | [k], rs, hb =>
    obtain ⟨v, rfl, r⟩ := one_rvs rs
    simp only [bi, Option.bind_eq_some_iff, Option.map_eq_some_iff] at hb
    obtain ⟨l, e1, i, e2, rfl⟩ := hb
    obtain ⟨a, rfl, h⟩ := seqI_ok g r e1
    have q := p.here g (.py (.int _))
    cases l with
    | nil => simp [maxI] at e2
    | cons n ns =>
      simp only [maxI, Option.some.injEq] at e2
      subst e2
      refine h.elim (fun h => .inl ⟨a, n :: ns, rfl, h, by simp, fun m h1 h2 => ?_⟩) fun h => .inr ⟨a, n, ns, rfl, h, q⟩
      rw [max_of h1 h2] at q
      exact q
theorem call_bi_min (hc : X.calm = true) (hu : X.A.units + 64 < cLine) : CallR X (.builtin "min") (rBi X.K fa ca .min) := by
  refine CallR.imp (CallR.or (cr_min hc) (cr_minT hc hu)) fun vs H Q ⟨hid, w, st, E, ds, d, g, rs, hb, p⟩ => ?_
  match ds, rs, hb with
  | [], _, hb => simp [bi] at hb
  | _ :: _ :: _, _, hb => simp [bi] at hb
  | [k], rs, hb =>
    obtain ⟨v, rfl, r⟩ := one_rvs rs
    simp only [bi, Option.bind_eq_some_iff, Option.map_eq_some_iff] at hb
    obtain ⟨l, e1, i, e2, rfl⟩ := hb
    obtain ⟨a, rfl, h⟩ := seqI_ok g r e1
    have q := p.here g (.py (.int _))
    cases l with
    | nil => simp [minI] at e2
    | cons n ns =>
      simp only [minI, Option.some.injEq] at e2
      subst e2
      refine h.elim (fun h => .inl ⟨a, n :: ns, rfl, h, by simp, fun m h1 h2 => ?_⟩) fun h => .inr ⟨a, n, ns, rfl, h, q⟩
      rw [min_of h1 h2] at q
      exact q
theorem call_bi_max2 (hc : X.calm = true) : CallR X (.builtin "max") (rBi X.K fa ca .max2) := by
  refine CallR.imp (call_max2 hc) fun vs H Q ⟨hid, w, st, E, ds, d, g, rs, hb, p⟩ => ?_
  match ds, rs, hb with
  | [.py (.int i), .py (.int j)], rs, hb =>
    obtain ⟨v, v', rfl, r1, r2⟩ := two_rvs rs
    cases int_rv r1
    cases int_rv r2
    simp only [bi, Option.some.injEq] at hb
    subst hb
    exact ⟨i, j, rfl, p.here g (.py (.int _))⟩
theorem call_bi_min2 (hc : X.calm = true) : CallR X (.builtin "min") (rBi X.K fa ca .min2) := by
  refine CallR.imp (call_min2 hc) fun vs H Q ⟨hid, w, st, E, ds, d, g, rs, hb, p⟩ => ?_
  match ds, rs, hb with
  | [.py (.int i), .py (.int j)], rs, hb =>
    obtain ⟨v, v', rfl, r1, r2⟩ := two_rvs rs
    cases int_rv r1
    cases int_rv r2
    simp only [bi, Option.some.injEq] at hb
    subst hb
    exact ⟨i, j, rfl, p.here g (.py (.int _))⟩
theorem call_bi_abs : CallR X (.builtin "abs") (rBi X.K fa ca .abs) := by
  refine CallR.imp call_abs fun vs H Q ⟨hid, w, st, E, ds, d, g, rs, hb, p⟩ => ?_
  match ds, rs, hb with
  | [.py (.int i)], rs, hb =>
    obtain ⟨v, rfl, r1⟩ := one_rvs rs
    cases int_rv r1
    simp only [bi, Option.some.injEq] at hb
    subst hb
    exact ⟨i, rfl, p.here g (.py (.int _))⟩
theorem call_bi_int : CallR X (.type "int") (rBi X.K fa ca .int) := by
  refine CallR.imp call_int1 fun vs H Q ⟨hid, w, st, E, ds, d, g, rs, hb, p⟩ => ?_
  match ds, rs, hb with
  | [.py (.int i)], rs, hb =>
    obtain ⟨v, rfl, r1⟩ := one_rvs rs
    cases int_rv r1
    simp only [bi, Option.some.injEq] at hb
    subst hb
    exact .inl ⟨i, rfl, p.here g (.py (.int _))⟩
  | [.py (.bool i)], rs, hb =>
    obtain ⟨v, rfl, r1⟩ := one_rvs rs
    cases bl_rv r1
    simp only [bi, Option.some.injEq] at hb
    subst hb
    exact .inr ⟨i, rfl, p.here g (.py (.int _))⟩
theorem call_bi_tuple : CallR X (.type "tuple") (rBi X.K fa ca .tuple) := by
  refine CallR.imp call_tuple_of fun vs H Q ⟨hid, w, st, E, ds, d, g, rs, hb, p⟩ => ?_
  match ds, rs, hb with
  | [], _, hb => simp [bi] at hb
  | _ :: _ :: _, _, hb => simp [bi] at hb
  | [k], rs, hb =>
    obtain ⟨v, rfl, r⟩ := one_rvs rs
    simp only [bi, seqPD, Option.map_eq_some_iff, Option.bind_eq_some_iff] at hb
    obtain ⟨l, ⟨l', e1, e2⟩, rfl⟩ := hb
    unfold seqOf at e1
    split at e1
    · rename_i l2 e
      cases e1
      obtain ⟨a, ys, rfl, e3, e4⟩ := listOf_ok g r e
      refine ⟨a, ys, rfl, .inl ⟨SqL.of e3, fun q hq => p.new g hq (.py (.tup (FZ.new g hq) ?_))⟩⟩
      exact (e4.mono (fun _ _ z => z) (Ext.new g hq).le).pys e2
    · obtain ⟨a, ys, rfl, e3, e4⟩ := tupOf_ok r e1
      refine ⟨a, ys, rfl, .inr ⟨SqT.of e3, p.here g ?_⟩⟩
      cases r with
      | py hd =>
        cases hd with
        | tup h1 h2 =>
          simp only [tupOf, Option.some.injEq] at e1
          subst e1
          rw [pys_map] at e2
          cases e2
          exact .py (.tup h1 h2)
        | _ => simp [tupOf] at e1
      | tp h1 h2 =>
        simp only [tupOf, Option.some.injEq] at e1
        subst e1
        exact .py (.tup h1 (h2.pys e2))
      | _ => simp [tupOf] at e1
/-- the data of a list -/
theorem lstPD_ok {K : PySem.W.Frag} {hid w : List Addr} {st : Store} {H : Hp} {v : V} {d : D} {l : List PD} (g : Good K fa ca hid w st H) (r : RV K fa w (FZ hid w st H) v d) (h : (listOf st d).bind pys = some l) : ∃ a vs, v = .ref a ∧ SqL K H a vs ∧ DqAll (FZ hid w st H) vs l := by
  obtain ⟨ds, h3, h4⟩ := Option.bind_eq_some_iff.mp h
  obtain ⟨a, vs, e1, e2, e3⟩ := listOf_ok g r h3
  exact ⟨a, vs, e1, SqL.of e2, e3.pys h4⟩
theorem bools_of {F : Hp} : ∀ {vs : List V} {l : List PD} {bs : List Bool}, DqAll F vs l → boolsOf l = some bs → vs = bs.map V.bl
  | _, _, _, .nil, e => by cases e; rfl
  | _, _, _, .cons (d := .bool b) (.bl _) t, e => by
    simp only [boolsOf, Option.map_eq_some_iff] at e
    obtain ⟨ms, e1, rfl⟩ := e
    rw [bools_of t e1]; rfl
  | _, _, _, .cons (d := .none) _ _, e => by simp [boolsOf] at e
  | _, _, _, .cons (d := .int _) _ _, e => by simp [boolsOf] at e
  | _, _, _, .cons (d := .str _) _ _, e => by simp [boolsOf] at e
  | _, _, _, .cons (d := .list _) _ _, e => by simp [boolsOf] at e
  | _, _, _, .cons (d := .tuple _) _ _, e => by simp [boolsOf] at e
  | _, _, _, .cons (d := .dict _) _ _, e => by simp [boolsOf] at e
/-- all of a list of bools -/
theorem call_bi_all (hc : X.calm = true) : CallR X (.builtin "all") (rBi X.K fa ca .all) := by
  refine CallR.imp (cr_all hc) fun vs H Q ⟨hid, w, st, E, ds, d, g, rs, hb, p⟩ => ?_
  match ds, rs, hb with
  | [], _, hb => simp [bi] at hb
  | _ :: _ :: _, _, hb => simp [bi] at hb
  | [k], rs, hb =>
    obtain ⟨v, rfl, r⟩ := one_rvs rs
    simp only [bi] at hb
    obtain ⟨l, e1, e2⟩ := Option.bind_eq_some_iff.mp hb
    obtain ⟨bs, e3, rfl⟩ := Option.map_eq_some_iff.mp e2
    obtain ⟨a, vs, rfl, h, dq⟩ := lstPD_ok g r e1
    obtain rfl := bools_of dq e3
    exact ⟨a, bs, rfl, h, p.here g (.py (.bl _))⟩
theorem DqAll.getV {F : Hp} : ∀ {vs : List V} {ds : List PyData} {j : Nat} {v : V}, DqAll F vs ds → vs[j]? = some v → ∃ d, ds[j]? = some d ∧ Dq F v d
  | _, _, _, _, .nil, e => by simp at e
  | _, _, 0, _, .cons h _, e => by simp at e; subst e; exact ⟨_, rfl, h⟩
  | _, _, j + 1, _, .cons _ t, e => by
    obtain ⟨d, h1, h2⟩ := DqAll.getV (j := j) t (by simpa using e)
    exact ⟨d, by simpa using h1, h2⟩
theorem vals_getV : ∀ {vs : List V} {us : List Value} {j : Nat} {u : Value}, Vals vs us → us[j]? = some u → ∃ v, vs[j]? = some v ∧ RelV v u
  | _, _, _, _, .nil, e => by simp at e
  | _, _, 0, _, .cons h _, e => by simp at e; subst e; exact ⟨_, rfl, h⟩
  | _, _, j + 1, _, .cons _ t, e => by
    obtain ⟨d, h1, h2⟩ := vals_getV (j := j) t (by simpa using e)
    exact ⟨d, by simpa using h1, h2⟩
theorem alk_of {l : List PD} (h : alkB l = true) : PySem.W.AlikeAll l := by
  unfold alkB at h
  rw [List.all_eq_true] at h
  refine ⟨fun x hx y hy => ?_, fun x hx e => ?_⟩
  · have q := h x hx
    rw [Bool.and_eq_true, List.all_eq_true] at q
    exact q.2 y hy
  · have q := h x hx
    rw [e] at q
    simp at q
/-- the least of a list of data -/
theorem call_bi_minT (hc : X.calm = true) (hu : X.A.units + 80 < cLine) : CallR X (.builtin "min") (rBi X.K fa ca .minT) := by
  intro pins s σ H xs us Q I r h
  obtain ⟨hid, w, st, E, ds, d, g, rs, hb, p⟩ := h
  match ds, rs, hb with
  | [], _, hb => simp [bi] at hb
  | _ :: _ :: _, _, hb => simp [bi] at hb
  | [k], rs, hb =>
    obtain ⟨v, rfl, r0⟩ := one_rvs rs
    simp only [bi] at hb
    obtain ⟨l, e1, e2⟩ := Option.bind_eq_some_iff.mp hb
    obtain ⟨m, e3, rfl⟩ := Option.map_eq_some_iff.mp e2
    obtain ⟨a, vs, rfl, hs, dq⟩ := lstPD_ok g r0 e1
    cases l with
    | nil => simp [minP] at e3
    | cons x l =>
      simp only [minP] at e3
      split at e3
      · rename_i hc2
        cases e3
        rw [Bool.and_eq_true, Bool.and_eq_true, List.all_eq_true, decide_eq_true_eq] at hc2
        obtain ⟨h1, h2, h3⟩ := hc2
        obtain ⟨its, rv, hl, _⟩ := I.list hs
        rw [Vals.ref1 r]
        have dqH := DqAll.dp (K := X.K) (dq.mono FZ.le)
        obtain ⟨as, hr⟩ := Dp.readsAll I _ _ _ dqH rv
        refine PySem.W.min_list_data (I.ok.hd hc) hl.isList (by simpa using hr) (alk_of h1) (by omega) fun i v h' tk bs hi hr2 hk => ?_
        have hi2 : its[i]? = some v := by simpa using hi
        obtain ⟨V0, hV, rV⟩ := vals_getV rv hi2
        obtain ⟨d0, hd0, dq0⟩ := dq.getV hV
        obtain ⟨as0, rd0⟩ := Dp.reads I _ _ _ (Dq.dp (K := X.K) (dq0.mono FZ.le)) rV
        have e9 := (Reads.unique (PySem.W.reads_keeps hk rd0) _ _ hr2).1
        subst e9
        exact ⟨V0, H, I.kept hk, rV, p.here g (.py dq0)⟩
      · cases e3
theorem each_in {F : Hp} : ∀ {vs : List V} {its : List Value} {l : List PD}, Vals vs its → DqAll F vs l → PySem.W.EachIs (fun v d => ∃ x, RelV x v ∧ Dq F x d) its l
  | _, _, _, .nil, .nil => .nil
  | _, _, _, .cons r1 r2, .cons d1 d2 => .cons ⟨_, r1, d1⟩ (each_in r2 d2)
theorem each_out {F : Hp} : ∀ {its : List Value} {l : List PD}, PySem.W.EachIs (fun v d => ∃ x, RelV x v ∧ Dq F x d) its l → ∃ vs, Vals vs its ∧ DqAll F vs l
  | _, _, .nil => ⟨[], .nil, .nil⟩
  | _, _, .cons ⟨x, r1, d1⟩ t => by
    obtain ⟨vs, r2, d2⟩ := each_out t
    exact ⟨x :: vs, .cons r1 r2, .cons d1 d2⟩
theorem srt_of {l : List PD} (h : srtB l = true) : PySem.W.Sortable l := by
  unfold srtB at h
  rcases Bool.or_eq_true_iff.mp h with h | h
  · refine .inl fun d hd => ?_
    have q := List.all_eq_true.mp h d hd
    split at q
    · exact ⟨_, _, rfl⟩
    · cases q
  · refine .inr fun d hd => ?_
    have q := List.all_eq_true.mp h d hd
    refine ⟨(fun e => by rw [e] at q; cases q), (fun xs e => by rw [e] at q; cases q)⟩
/-- a list of data in its order, as a new list -/
theorem call_bi_sorted (hu : X.A.units + 80 < cLine) : CallR X (.builtin "sorted") (rBi X.K fa ca .sorted) := by
  intro pins s σ H xs us Q I r h
  obtain ⟨hid, w, st, E, ds, d, g, rs, hb, p⟩ := h
  match ds, rs, hb with
  | [], _, hb => simp [bi] at hb
  | _ :: _ :: _, _, hb => simp [bi] at hb
  | [k], rs, hb =>
    obtain ⟨v, rfl, r0⟩ := one_rvs rs
    simp only [bi] at hb
    obtain ⟨l, e1, e2⟩ := Option.bind_eq_some_iff.mp hb
    obtain ⟨m, e3, rfl⟩ := Option.map_eq_some_iff.mp e2
    obtain ⟨a, vs, rfl, hs, dq⟩ := lstPD_ok g r0 e1
    obtain ⟨its, rv, hl, hz⟩ := I.list hs
    have lenL : its.length = l.length := by rw [← rv.length]; exact dq.length
    simp only [srtP] at e3
    split at e3
    · rename_i h2
      cases e3
      rw [Vals.ref1 r]
      refine SrtO.sorted_ord (ltv := fun _ _ => false) ⟨fun _ _ _ => rfl, fun _ _ _ _ _ => rfl⟩ hl.isList (by rw [← rv.length]; exact hz) (fun z => absurd z (by omega)) fun out _ hst => ?_
      have ho : out = its := by
        have hp := hst.perm
        have hl2 : its.length < 2 := by omega
        match its, hl2, hp with
        | [], _, hp => exact hp.eq_nil
        | [v], _, hp => exact hp.eq_singleton
        | _ :: _ :: q, hh, _ => exact absurd hh (by rw [List.length_cons, List.length_cons]; omega)
      subst ho
      obtain ⟨n, hn⟩ := PyProof.Rows.sortedAll_at s.heap out out.toArray
      have hf : H (s.heap.objs.size + 1) = none := I.hok.fresh (Nat.le_succ _)
      exact ⟨.ref (s.heap.objs.size + 1), upd H (s.heap.objs.size + 1) (.lst vs), I.laid (t' := s.toks) (fun _ _ => PyProof.Rows.sortedAll_old) (Nat.le_succ _) ⟨hz, out, n, rv, hn⟩, rfl, p.new g hf (.py (.lst (FZ.new g hf) (dq.mono (Ext.new g hf).le)))⟩
    split at e3
    · rename_i hc2
      cases e3
      rw [Bool.and_eq_true, Bool.and_eq_true, Bool.and_eq_true, decide_eq_true_eq] at hc2
      obtain ⟨h1, h2, h3, h4⟩ := hc2
      rw [Vals.ref1 r]
      have eI := each_in rv dq
      have dep : ∀ b ∈ l, b.depth ≤ 64 := fun b hb => by
        have := List.all_eq_true.mp h3 b hb
        exact SeqAt.depth_of_shaped this
      refine PySem.W.sorted_data (enc := id) hl.isList eI (eI.mono fun v d ⟨x, q1, q2⟩ => Dp.reads I _ _ _ (Dq.dp (K := X.K) (q2.mono FZ.le)) q1) (by rw [List.map_id]; exact (alk_of h1).1) (by rw [List.map_id]; exact srt_of h2) (by rw [← lenL, ← rv.length]; exact hz) (fun b hb => by have := dep b hb; show _ + 2 + b.depth < _; omega) fun out ho hout => ?_
      obtain ⟨ys, rv2, dq2⟩ := each_out hout
      obtain ⟨n, hn⟩ := PyProof.Rows.sortedAll_at s.heap its out.toArray
      have hf : H (s.heap.objs.size + 1) = none := I.hok.fresh (Nat.le_succ _)
      refine ⟨.ref (s.heap.objs.size + 1), upd H (s.heap.objs.size + 1) (.lst ys), I.laid (t' := s.toks) (fun _ _ => PyProof.Rows.sortedAll_old) (Nat.le_succ _) ⟨?_, out, n, rv2, hn⟩, rfl, p.new g hf (.py (.lst (FZ.new g hf) (dq2.mono (Ext.new g hf).le)))⟩
      rw [rv2.length, ho, ← lenL, ← rv.length]
      exact hz
    · cases e3
/-- a built-in by its name -/
def Bi.nm : Bi → Str
  | .len => "len" | .sum => "sum" | .max => "max" | .min => "min" | .max2 => "max" | .min2 => "min" | .abs => "abs" | .int => "int" | .tuple => "tuple" | .sorted => "sorted" | .all => "all" | .minT => "min"
def Bi.ok : Bi → Bool
  | _ => true
theorem de_bi {b : Bi} {e : Expr} {es : List Expr} {ee : Es} {pp pos : Pos} (hb : b.ok = true) (hc : X.calm = true) (hu2 : X.A.units + 80 < cLine) (hg : Gl X b.nm) (hm : X.mg b.nm = none) (ha : DA X fa ca W Δ (e :: es) ee)
    (he : starEach (e :: es) X.env = (false, eval e X.env) :: starEach es X.env) (hpl : (backTo pos (starEach es X.env)).any (·.1) = false) : DE X fa ca W Δ (.Call (.Name b.nm pp) (e :: es) [] pos) (.bi b ee) := by
  have go : PE X (.Call (.Name b.nm pp) (e :: es) [] pos) (tCB (rBi X.K fa ca b) (tG X.K fa ca W (relA X.K fa) (evs Δ ee))) := by
    have hu : X.A.units + 64 < cLine := by omega
    cases b with
    | len => exact pe_callB call_bi_len hg hm (by with_unfolding_all rfl) ha (by decide) (by decide) he hpl
    | sum => exact pe_callB (call_bi_sum hc) hg hm (by with_unfolding_all rfl) ha (by decide) (by decide) he hpl
    | max => exact pe_callB (call_bi_max hc hu) hg hm (by with_unfolding_all rfl) ha (by decide) (by decide) he hpl
    | min => exact pe_callB (call_bi_min hc hu) hg hm (by with_unfolding_all rfl) ha (by decide) (by decide) he hpl
    | max2 => exact pe_callB (call_bi_max2 hc) hg hm (by with_unfolding_all rfl) ha (by decide) (by decide) he hpl
    | min2 => exact pe_callB (call_bi_min2 hc) hg hm (by with_unfolding_all rfl) ha (by decide) (by decide) he hpl
    | abs => exact pe_callB call_bi_abs hg hm (by with_unfolding_all rfl) ha (by decide) (by decide) he hpl
    | int => exact pe_callTy call_bi_int hg hm (by with_unfolding_all rfl) ha (by decide) (by decide) he hpl
    | tuple => exact pe_callTy call_bi_tuple hg hm (by with_unfolding_all rfl) ha (by decide) (by decide) he hpl
    | sorted => exact pe_callB (call_bi_sorted hu2) hg hm (by with_unfolding_all rfl) ha (by decide) (by decide) he hpl
    | all => exact pe_callB (call_bi_all hc) hg hm (by with_unfolding_all rfl) ha (by decide) (by decide) he hpl
    | minT => exact pe_callB (call_bi_minT hc hu2) hg hm (by with_unfolding_all rfl) ha (by decide) (by decide) he hpl
  refine PE.imp go fun σ H Q ⟨hid, w, st, ρ, g0, s0, p⟩ => ?_
  simp only [ev] at p
  refine ⟨hid, w, st, ρ, g0, s0, (PostG.bind (rel := relA X.K fa) p).mono fun xs H1 ⟨ds, w1, st1, e1, g1, r1, e2, p1⟩ => ?_⟩
  obtain ⟨d, e3, p2⟩ := p1.of
  exact ⟨hid, w1, st1, _, ds, d, g1, r1, e3, p2⟩
/-- what a def promises -/
def spF (K : PySem.W.Frag) (fa ca : Nat → Addr) (Δ : Dn) (f ar : Nat) : Sp := fun vs H Q E => ∃ hid w st ds, Good K fa ca hid w st H ∧ RVs K fa w (FZ hid w st H) vs ds ∧ ds.length = ar ∧ PostG K fa ca (relV K fa) hid w st H E (Δ f ds st) Q
theorem de_call {k f ar : Nat} {x : Str} {fd : FuncData} {ps : List Str} {e : Expr} {es : List Expr} {ee : Es} {pp pos : Pos} (F : FnOk X.prog X.w X.K X.mg X.base (L2.CX X.prog X.w) k (fa f) fd ps (spF X.K fa ca Δ f ar)) (hr : Room k X.A) (hg : Gl X x) (hm : X.mg x = some (.ref (fa f)))
    (hk : PySem.W.keepIn X.K (.ref (fa f)) = true) (hb : Binds X.K fd ps []) (tk : Takes X W) (hl : ee.len = ar) (hdb : (x == ("__debug__" : Str)) = false) (ha : DA X fa ca W Δ (e :: es) ee)
    (he : starEach (e :: es) X.env = (false, eval e X.env) :: starEach es X.env) (hpl : (backTo pos (starEach es X.env)).any (·.1) = false) : DE X fa ca W Δ (.Call (.Name x pp) (e :: es) [] pos) (.call f ee) := by
  refine PE.imp (pe_callSD (dvs := []) F hr hg hm hk hb .nil (passAt tk) ha hdb he hpl) fun σ H Q ⟨hid, w, st, ρ, g0, s0, p⟩ => ?_
  simp only [ev] at p
  refine ⟨hid, w, st, ρ, g0, s0, (PostG.bind (rel := relA X.K fa) p).mono fun xs H1 ⟨ds, w1, st1, e1, g1, r1, e2, p1⟩ => ?_⟩
  refine ⟨hid, w1, st1, ds, g1, by rw [List.append_nil]; exact r1, ?_, p1⟩
  rw [evs_len ee e2, hl]
end
end Ev
set_option maxHeartbeats 1000000
namespace Ev
open PySem PySem.Spec PyProof.Rows L2
theorem inplace_seqIn {M : Model} {A : Around} {E : Value → Shared → Prop} {s : Shared} {a b : Value} {T id : String} {Q : Value → Shared → Prop} (ha : s.TypeIs a T) (hb : s.TypeIs b T)
    (hi : typeLookup (.type T) (dunderI "add") = pure (some (.builtin id))) (hs : isSeqSlot (some (.builtin id)) = true) (hfill : fillsNumberSlot (.type T) "add" = pure false)
    (hc : wpAny M A (call (.builtin id) [a, b]) Q E s) : wpAny M A (inplaceOp .Add a b) Q E s := by
  unfold inplaceOp
  refine wpAny_holding ?_
  have hfi : fillsInplaceSlot (.type T) "add" (Operator.Add == .Add) = pure false := by
    unfold fillsInplaceSlot
    show (typeLookup (.type T) (dunderI "add") >>= fun fi => pure (fi.isSome && !isSeqSlot fi)) = pure false
    rw [hi, pure_bind, hs]; rfl
  have hsi : seqSlot? (.type T) (dunderI "add") = pure (some (.builtin id)) := PySem.seqSlot_of hi hs
  refine wpAny_bind (wpAny_typeOf ha (wpAny_bind (wpAny_of_eq hfi ?_)))
  show wpAny M A (if false = true then _ else _) Q E s
  rw [if_neg Bool.false_ne_true]
  refine wpAny_bind (wpAny_binaryOp1_none (nm := "add") ha hb hfill ?_)
  refine wpAny_bind (wpAny_of_eq hsi ?_)
  exact wpAny_bind (wpAny_rule hc)
section
variable {X : Cx}
def ipExt : TIp := fun x y H Q => ∃ l b xs zs, x = .ref l ∧ y = .ref b ∧ H l = some (.lst xs) ∧ H b = some (.lst zs) ∧ xs.length + zs.length ≤ sizeLine ∧ Q (.ref l) (upd H l (.lst (xs ++ zs)))
theorem ip_ext : PIp X .Add ipExt := by
  intro pins s σ H x y v u Q I rx ry h
  obtain ⟨l, b, xs, zs, rfl, rfl, hH, hB, hz, q⟩ := h
  cases rx
  cases ry
  obtain ⟨z, its, n, r, hl, e⟩ := I.lstM hH
  obtain ⟨z2, its2, n2, r2, hl2, e2⟩ := I.lstM hB
  have hsz : its.toArray.size + its2.toArray.size ≤ sizeLine := by rw [List.size_toArray, List.size_toArray]; omega
  have hlong : ¬ (!its.toArray.isEmpty && Builtin.List.listTooLong (its.toArray.size + its2.toArray.size)) = true := by
    rw [notLongL hsz, Bool.and_false]
    exact Bool.false_ne_true
  refine inplace_seqIn (T := "list") ⟨_, e, rfl⟩ ⟨_, e2, rfl⟩ PySem.F.slot_list_iadd.lookup (by decide +kernel) noFill_list_add ?_
  refine call_meets PySem.F.slot_list_iadd ⟨_, e, rfl⟩ PySem.F.entry_list_iadd (PySem.F.args_list_iadd_2 _ _)
    (AutoSeq1.list___iadd___list_list_0 l its.toArray n b its2.toArray n2 hlong (by rw [List.size_toArray]; omega) (by omega)) ⟨e, e2, ?_⟩
  refine ⟨.ref l, _, I.lset (its' := its ++ its2) hH e (by simp) (r.append r2) ?_, rfl, q⟩
  rw [List.length_append]
  omega
end
section
variable (K : PySem.W.Frag) (fa ca : Nat → Addr) (W : WX)
def FlP (w : List Addr) (F : Hp) (D : Ends) (σ : L2.St) (H : Hp) : Fl → Prop
  | .nx => D.nx σ H
  | .rt d => ∀ v, RV K fa w F v d → D.rt v H
  | .bk => D.bk σ H
  | .ct => D.ct σ H
  | .xc e => ∀ cls dd, RX ca cls dd H e → W cls dd σ H
def PostS (hid w : List Addr) (st : Store) (H : Hp) (r : RS) (D : Ends) : Prop := match r with
  | .go f ρ st' => ∀ σ' w' H', Ext hid w st H w' st' H' → Good K fa ca hid w' st' H' → Slots K fa w' (FZ hid w' st' H') ρ σ' → FlP K fa ca W w' (FZ hid w' st' H') D σ' H' f
  | .bad => False
def tS (f : EnvD → Store → RS) : TS := fun D σ H => ∃ (hid w : List Addr) (st : Store) (ρ : EnvD), Good K fa ca hid w st H ∧ Slots K fa w (FZ hid w st H) ρ σ ∧ PostS K fa ca W hid w st H (f ρ st) D
end
section
variable {K : PySem.W.Frag} {fa ca : Nat → Addr} {W : WX} {hid w w' : List Addr} {st st' : Store} {H H' : Hp} {D D' : Ends} {ρ : EnvD} {σ : L2.St}
theorem PostS.base {r : RS} (x : Ext hid w st H w' st' H') (h : PostS K fa ca W hid w st H r D) : PostS K fa ca W hid w' st' H' r D := by
  cases r with
  | go f ρ s => exact fun σ' w2 H2 y g r => h σ' w2 H2 (x.trans y) g r
  | bad => exact h
theorem PostS.to {α β : Type} {rel : List Addr → Hp → β → α → Prop} {r : Rs α} {k : α → Store → RS} (s0 : Slots K fa w (FZ hid w st H) ρ σ) (h : PostS K fa ca W hid w st H (r.to ρ k) D) :
    PostG K fa ca rel hid w st H (fun c d H' => W c d σ H') r fun x H1 => ∃ a w1 st1, Ext hid w st H w1 st1 H1 ∧ Good K fa ca hid w1 st1 H1 ∧ rel w1 (FZ hid w1 st1 H1) x a ∧ r = .ok a st1 ∧ PostS K fa ca W hid w1 st1 H1 (k a st1) D := by
  cases r with
  | ok d s => exact fun v w2 H2 y g r => ⟨d, w2, s, y, g, r, rfl, PostS.base y h⟩
  | ex e s => exact fun cls dd w2 H2 y g r => h σ w2 H2 y g (y.slots s0) cls dd r
  | bad => exact h
theorem PostS.here {f : Fl} (h : PostS K fa ca W hid w st H (.go f ρ st) D) (g : Good K fa ca hid w st H) (s : Slots K fa w (FZ hid w st H) ρ σ) : FlP K fa ca W w (FZ hid w st H) D σ H f := h σ w H Ext.refl g s
theorem PostS.seq {r : RS} {k : EnvD → Store → RS} (h : PostS K fa ca W hid w st H (r.seq k) D) : PostS K fa ca W hid w st H r { D with nx := fun σ' H' => ∃ ρ' w' st', Good K fa ca hid w' st' H' ∧ Slots K fa w' (FZ hid w' st' H') ρ' σ' ∧ PostS K fa ca W hid w' st' H' (k ρ' st') D } := by
  cases r with
  | go f ρ s =>
    cases f with
    | nx => exact fun σ' w2 H2 y g r => ⟨ρ, w2, s, g, r, PostS.base y h⟩
    | rt d => exact h
    | bk => exact h
    | ct => exact h
    | xc e => exact h
  | bad => exact h
end
section
variable {X : Cx} {fa ca : Nat → Addr} {W : WX} {Δ : Dn} {fu : Nat} {pos : Pos}
abbrev DS (X : Cx) (fa ca : Nat → Addr) (W : WX) (Δ : Dn) (fu : Nat) (s : Stmt) (c : S) : Prop := PS X s (tS X.K fa ca W (ex Δ fu c))
abbrev DSs (X : Cx) (fa ca : Nat → Addr) (W : WX) (Δ : Dn) (fu : Nat) (s : List Stmt) (c : Ss) : Prop := PSs X s (tS X.K fa ca W (exs Δ fu c))
theorem dss_nil : DSs X fa ca W Δ fu [] .nil := by
  refine PSs.imp pss_nil fun D σ H ⟨hid, w, st, ρ, g, s, p⟩ => ?_
  simp only [exs] at p
  exact p.here g s
theorem dss_cons {s : Stmt} {r : List Stmt} {c : S} {cr : Ss} (h1 : DS X fa ca W Δ fu s c) (h2 : DSs X fa ca W Δ fu r cr) : DSs X fa ca W Δ fu (s :: r) (.cons c cr) := by
  refine PSs.imp (pss_cons h1 h2) fun D σ H ⟨hid, w, st, ρ, g, s, p⟩ => ?_
  simp only [exs] at p
  refine ⟨hid, w, st, ρ, g, s, ?_⟩
  have q := p.seq
  generalize ex Δ fu c ρ st = r at q
  cases r with
  | go f ρ' s' =>
    cases f with
    | nx => exact fun σ' w2 H2 y g r => let ⟨ρ2, w2', st2, g2, s2, p2⟩ := q σ' w2 H2 y g r; ⟨hid, w2', st2, ρ2, g2, s2, p2⟩
    | rt d => exact q
    | bk => exact q
    | ct => exact q
    | xc e => exact q
  | bad => exact q
theorem ds_bad {st : Stmt} : DS X fa ca W Δ fu st .bad := ⟨fun pins s σ H D I ⟨hid, w, st', ρ, g, s0, p⟩ => by
  simp only [ex] at p
  exact p.elim⟩
theorem ds_pass : DS X fa ca W Δ fu (.Pass pos) .pass := PS.imp ps_pass fun D σ H ⟨hid, w, st, ρ, g, s, p⟩ => by
  simp only [ex] at p
  exact p.here g s
theorem ds_brk : DS X fa ca W Δ fu (.Break pos) .brk := PS.imp ps_break fun D σ H ⟨hid, w, st, ρ, g, s, p⟩ => by
  simp only [ex] at p
  exact p.here g s
theorem ds_cnt : DS X fa ca W Δ fu (.Continue pos) .cnt := PS.imp ps_continue fun D σ H ⟨hid, w, st, ρ, g, s, p⟩ => by
  simp only [ex] at p
  exact p.here g s
theorem ds_ret {e : Expr} {c : E} (he : DE X fa ca W Δ e c) : DS X fa ca W Δ fu (.Return (some e) pos) (.ret c) := PS.imp (ps_ret he) fun D σ H ⟨hid, w, st, ρ, g, s, p⟩ => by
  simp only [ex] at p
  refine ⟨hid, w, st, ρ, g, s, (PostS.to (rel := relV X.K fa) s p).mono fun x H1 ⟨d, w1, st1, e1, g1, r1, _, p1⟩ => ?_⟩
  exact p1.here g1 (e1.slots s) x r1
theorem ds_expr {e : Expr} {c : E} (he : DE X fa ca W Δ e c) (hs : swapsWith e none pos.line X.env = pure false) : DS X fa ca W Δ fu (.Expr e pos) (.expr c) := PS.imp (ps_expr he hs) fun D σ H ⟨hid, w, st, ρ, g, s, p⟩ => by
  simp only [ex] at p
  refine ⟨hid, w, st, ρ, g, s, (PostS.to (rel := relV X.K fa) s p).mono fun x H1 ⟨d, w1, st1, e1, g1, r1, _, p1⟩ => ?_⟩
  exact p1.here g1 (e1.slots s)
theorem ds_if {t : Expr} {a b : List Stmt} {ct : T} {cx cy : Ss} (ht : DT X fa ca W Δ t ct) (ha : DSs X fa ca W Δ fu a cx) (hb : DSs X fa ca W Δ fu b cy) : DS X fa ca W Δ fu (.If t a b pos) (.ife ct cx cy) := PS.imp (ps_if ht ha hb) fun D σ H ⟨hid, w, st, ρ, g, s, p⟩ => by
  simp only [ex] at p
  refine ⟨hid, w, st, ρ, g, s, (PostS.to (rel := relB) s p).mono fun x H1 ⟨d, w1, st1, e1, g1, r1, _, p1⟩ => ?_⟩
  cases (show x = d from r1)
  cases x with
  | true => exact ⟨hid, w1, st1, ρ, g1, e1.slots s, p1⟩
  | false => exact ⟨hid, w1, st1, ρ, g1, e1.slots s, p1⟩
theorem ds_set {i : Nat} {x : Str} {e : Expr} {c : E} {pos' : Pos} (hN : X.N.Nodup) (hi : X.N[i]? = some x) (hx : Loc X.env.scope x) (hf : X.fn x = true ∨ X.env.scope.names.lookup x = some .local) (he : DE X fa ca W Δ e c) (hs : swapsWith e (some (.Name x pos')) pos.line X.env = pure false) :
    DS X fa ca W Δ fu (.Assign [.Name x pos'] e pos) (.set i c) := PS.imp (ps_set hN hi hx he hs hf) fun D σ H ⟨hid, w, st, ρ, g, s, p⟩ => by
  simp only [ex] at p
  refine ⟨hid, w, st, ρ, g, s, (PostS.to (rel := relV X.K fa) s p).mono fun x H1 ⟨d, w1, st1, e1, g1, r1, _, p1⟩ => ?_⟩
  exact p1.here g1 ((e1.slots s).set i r1)
theorem ds_setL {i : Nat} {x : Str} {e : Expr} {l : L} {c : E} {pos' : Pos} (h : PS X (.Assign [.Name x pos'] e pos) (tAsg (tL X.K fa ca W (evL Δ l)) (gName i))) (hc : c = .li l ∨ c = .cell l) : DS X fa ca W Δ fu (.Assign [.Name x pos'] e pos) (.set i c) := PS.imp h fun D σ H ⟨hid, w, st, ρ, g, s, p⟩ => by
  simp only [ex] at p
  have q : tG X.K fa ca W (relV X.K fa) (ev Δ c) σ H fun y H1 => gName i y σ H1 D.nx := ⟨hid, w, st, ρ, g, s, (PostS.to (rel := relV X.K fa) s p).mono fun x H1 ⟨d, w1, st1, e1, g1, r1, _, p1⟩ => p1.here g1 ((e1.slots s).set i r1)⟩
  rcases hc with rfl | rfl
  · exact rd_li q
  · exact rd_cell q
theorem ds_asg {tg e : Expr} {t : Tg} {c : E} (hg : DG X fa ca tg t) (he : DE X fa ca W Δ e c) (hs : swapsWithSole [tg] e pos.line X.env = pure false) (hw : swappedStores [tg] e X.env = pure none) (h1 : (assignEach [tg] X.env).map (·.2) = [assign tg X.env]) :
    DS X fa ca W Δ fu (.Assign [tg] e pos) (.asg t c) := PS.imp (ps_asg he hg hs hw h1) fun D σ H ⟨hid, w, st, ρ, g, s, p⟩ => by
  simp only [ex] at p
  refine ⟨hid, w, st, ρ, g, s, (PostS.to (rel := relV X.K fa) s p).mono fun x H1 ⟨d, w1, st1, e1, g1, r1, _, p1⟩ => ?_⟩
  unfold bindT at p1
  split at p1
  · rename_i ρ' ea
    exact ⟨hid, w1, st1, ρ, d, g1, e1.slots s, r1, ρ', ea, fun σ' s' _ _ => p1.here g1 s'⟩
  · exact p1.elim
theorem ds_swp {i j : Nat} {x y : Str} {a b : Expr} {cx cy : E} {px py pt : Pos} {kt k2 pt2} (hc : X.calm = true) (hN : X.N.Nodup) (hi : X.N[i]? = some x) (hj : X.N[j]? = some y) (hij : i ≠ j)
    (hx : X.env.scope.names.lookup x = some .local) (hy : X.env.scope.names.lookup y = some .local) (ha : DA X fa ca W Δ [a, b] (.cons cx (.cons cy .nil)))
    (hw : swappedStores [.Tuple [.Name x px, .Name y py] kt pt] (.Tuple [a, b] k2 pt2) X.env = pure (some [x, y]))
    (hs : swapsWithSole [.Tuple [.Name x px, .Name y py] kt pt] (.Tuple [a, b] k2 pt2) pos.line X.env = pure false) :
    DS X fa ca W Δ fu (.Assign [.Tuple [.Name x px, .Name y py] kt pt] (.Tuple [a, b] k2 pt2) pos) (.swp i j cx cy) := PS.imp (ps_par hc hN hi hj hij hx hy ha hw hs) fun D σ H ⟨hid, w, st, ρ, g, s, p⟩ => by
  have p' : PostS X.K fa ca W hid w st H ((evs Δ (.cons cx (.cons cy .nil)) ρ st).to ρ fun ds st => match ds with
    | [x, y] => nx ((ρ.set i (some x)).set j (some y)) st
    | _ => .bad) D := by
    simp only [ex] at p
    simp only [evs]
    generalize ev Δ cx ρ st = r1 at p ⊢
    cases r1 with
    | ok d s =>
      simp only [Rs.to_ok, Rs.bind_ok] at p ⊢
      generalize ev Δ cy ρ s = r2 at p ⊢
      cases r2 with
      | ok d s => exact p
      | ex e s => exact p
      | bad => exact p
    | ex e s => exact p
    | bad => exact p
  refine ⟨hid, w, st, ρ, g, s, (PostS.to (rel := relA X.K fa) s p').mono fun xs H1 ⟨ds, w1, st1, e1, g1, r1, _, p1⟩ => ?_⟩
  split at p1
  · obtain ⟨v, v', rfl, q1, q2⟩ := two_rvs r1
    exact ⟨v, v', rfl, p1.here g1 (((e1.slots s).set i q1).set j q2)⟩
  · exact p1.elim
def rSt (K : PySem.W.Frag) : TSet := fun o i v H Q => rSetL o i v H Q ∨ rSetD o i v H Q
theorem set_st (hu : X.A.units + 1 < cLine) : PSet X (rSt X.K) := fun pins s σ H o i v ov iv u Q I ro ri rv h => h.elim (set_list pins s σ H o i v ov iv u Q I ro ri rv) (set_dict hu pins s σ H o i v ov iv u Q I ro ri rv)
theorem setix_ok {K : PySem.W.Frag} {hid w : List Addr} {st st' : Store} {H : Hp} {x y z : V} {d d' e : D} {Q : Hp → Prop} (g : Good K fa ca hid w st H) (rx : RV K fa w (FZ hid w st H) x d) (ry : RV K fa w (FZ hid w st H) y d') (rz : RV K fa w (FZ hid w st H) z e)
    (h : setix st d d' e = some st') (q : ∀ H', Ext hid w st H w st' H' → Good K fa ca hid w st' H' → Q H') : rSt K x y z H Q := by
  unfold setix at h
  split at h
  · rename_i n
    split at h
    · rename_i ds ec
      obtain ⟨i, e1, h⟩ := Option.bind_eq_some_iff.mp h
      obtain ⟨j, e2, rfl⟩ := Option.map_eq_some_iff.mp h
      obtain ⟨a, ea, vs, h1, h2⟩ := g.cell ec
      cases rx with
      | ref hw =>
        rw [ea] at hw; cases hw
        have ey : y = .int i := by
          unfold intOf at e1
          split at e1
          · cases e1; exact int_rv ry
          · cases e1
        refine .inl ⟨a, vs, i, j, rfl, ey, h1, by rw [h2.length]; exact e2, ?_⟩
        refine q _ (Ext.write g ea ec trivial trivial) (g.write ea ec trivial trivial ⟨_, upd_same, h2.set rz j⟩)
    · rename_i kvs ec
      obtain ⟨k, e1, h⟩ := Option.bind_eq_some_iff.mp h
      split at h
      · rename_i hl
        cases h
        obtain ⟨a, ea, kv, h1, h2⟩ := g.cell ec
        cases rx with
        | ref hw =>
          rw [ea] at hw; cases hw
          obtain ⟨b, rfl, hb⟩ := keyOf_ok ry e1
          refine .inr ⟨a, _, rfl, DPut.t h1 hb (by rw [Paired.length h2, sizeLine_eq]; exact hl), ?_⟩
          refine q _ (Ext.write g ea ec trivial trivial) (g.write ea ec trivial trivial ⟨_, upd_same, KVD.put h2 k rz⟩)
      · cases h
    · cases h
  · cases h
theorem ds_stI {o i e : Expr} {ca' ci cv : E} {spos : Pos} (hu : X.A.units + 1 < cLine) (ho : DE X fa ca W Δ o ca') (hi : DE X fa ca W Δ i ci) (he : DE X fa ca W Δ e cv)
    (ha : ∀ v, assign (.Subscript o i spos) X.env v = (do
      let ov ← holding [v] (eval o X.env)
      let iv ← holding [v, ov] (eval i X.env)
      standAt spos
      holding [v, ov, iv] (setItem ov iv v)
      release [v, ov, iv] [])) (hs : swapsWithSole [.Subscript o i spos] e pos.line X.env = pure false) (hw : swappedStores [.Subscript o i spos] e X.env = pure none) (h1 : (assignEach [.Subscript o i spos] X.env).map (·.2) = [assign (.Subscript o i spos) X.env]) :
    DS X fa ca W Δ fu (.Assign [.Subscript o i spos] e pos) (.stI ca' ci cv) := PS.imp (ps_asg he (pg_sub ho hi (set_st hu) ha) hs hw h1) fun D σ H ⟨hid, w, st, ρ, g, s, p⟩ => by
  simp only [ex] at p
  refine ⟨hid, w, st, ρ, g, s, (PostS.to (rel := relV X.K fa) s p).mono fun z H1 ⟨d, w1, st1, e1, g1, r1, _, p1⟩ => ?_⟩
  have s1 := e1.slots s
  refine ⟨hid, w1, st1, ρ, g1, s1, (PostS.to (rel := relV X.K fa) s1 p1).mono fun x H2 ⟨d2, w2, st2, e2, g2, r2, _, p2⟩ => ?_⟩
  have s2 := e2.slots s1
  refine ⟨hid, w2, st2, ρ, g2, s2, (PostS.to (rel := relV X.K fa) s2 p2).mono fun y H3 ⟨d3, w3, st3, e3, g3, r3, _, p3⟩ => ?_⟩
  split at p3
  · rename_i st' es
    refine setix_ok g3 (e3.rv r2) r3 ((e2.trans e3).rv r1) es fun H' x4 g4 => ?_
    exact (p3.base x4).here g4 ((e3.trans x4).slots s2)
  · exact p3.elim
def opAug : BOp → Operator
  | .add => .Add
  | _ => .Sub
def fAug : BOp → Int → Int → Int
  | .add => fun i j => i + j
  | _ => fun i j => i - j
theorem ip_aug : ∀ op : BOp, PIp X (opAug op) (ipI (fAug op))
  | .add => ip_add
  | .sub => ip_sub
  | .mul => ip_sub
  | .fdiv => ip_sub
  | .mod => ip_sub
  | .pow => ip_sub
theorem augI_ok {op : BOp} {d d' z : D} (h : augI op d d' = some z) : ∃ i j, d = .py (.int i) ∧ d' = .py (.int j) ∧ z = .py (.int (fAug op i j)) := by
  unfold augI at h
  split at h
  · cases h; exact ⟨_, _, rfl, rfl, rfl⟩
  · cases h; exact ⟨_, _, rfl, rfl, rfl⟩
  · cases h
theorem ds_aug {i : Nat} {x : Str} {e : Expr} {op : BOp} {c : E} {pos' : Pos} (hN : X.N.Nodup) (hi : X.N[i]? = some x) (hx : Loc X.env.scope x) (hf : X.fn x = true ∨ X.env.scope.names.lookup x = some .local) (he : DE X fa ca W Δ e c) :
    DS X fa ca W Δ fu (.AugAssign (.Name x pos') (opAug op) e pos) (.aug i op c) := PS.imp (ps_aug hN hi hx he (ip_aug op) hf) fun D σ H ⟨hid, w, st, ρ, g, s, p⟩ => by
  simp only [ex] at p
  split at p
  · rename_i d e0
    obtain ⟨v, ev1, rv⟩ := s.2 _ _ e0
    refine ⟨v, ev1, hid, w, st, ρ, g, s, (PostS.to (rel := relV X.K fa) s p).mono fun y H1 ⟨d1, w1, st1, e1, g1, r1, _, p1⟩ => ?_⟩
    split at p1
    · rename_i z ez
      obtain ⟨k, j, rfl, rfl, rfl⟩ := augI_ok ez
      cases int_rv rv
      cases int_rv r1
      exact ⟨k, j, rfl, rfl, p1.here g1 ((e1.slots s).set i (.py (.int _)))⟩
    · exact p1.elim
  · exact p.elim
theorem ds_ext {i : Nat} {x : Str} {e : Expr} {c : E} {pos' : Pos} (hN : X.N.Nodup) (hi : X.N[i]? = some x) (hx : Loc X.env.scope x) (hf : X.fn x = true ∨ X.env.scope.names.lookup x = some .local) (he : DE X fa ca W Δ e c) :
    DS X fa ca W Δ fu (.AugAssign (.Name x pos') .Add e pos) (.ext i c) := PS.imp (ps_aug hN hi hx he ip_ext hf) fun D σ H ⟨hid, w, st, ρ, g, s, p⟩ => by
  simp only [ex] at p
  split at p
  · rename_i n e0
    obtain ⟨v, ev1, rv⟩ := s.2 _ _ e0
    refine ⟨v, ev1, hid, w, st, ρ, g, s, (PostS.to (rel := relV X.K fa) s p).mono fun y H1 ⟨d1, w1, st1, e1, g1, r1, _, p1⟩ => ?_⟩
    split at p1
    · rename_i ds l e2 e3
      split at p1
      · rename_i hl
        obtain ⟨a, ea, vs, h1, h2⟩ := g1.cell e2
        cases e1.rv rv with
        | ref hw =>
          rw [ea] at hw; cases hw
          obtain ⟨b, us, rfl, h3, h4⟩ := listOf_ok g1 r1 e3
          refine ⟨a, b, vs, us, rfl, rfl, h1, h3, by rw [h2.length, h4.length, sizeLine_eq]; exact hl, ?_⟩
          have x4 := Ext.write (o := .lst (vs ++ us)) (c' := .lst (ds ++ l)) g1 ea e2 trivial trivial
          refine (p1.base x4).here (g1.write ea e2 trivial trivial ⟨_, upd_same, h2.append h4⟩) ?_
          have s4 := (e1.trans x4).slots s
          refine ⟨by rw [List.length_set]; exact s4.1, fun j d ej => ?_⟩
          by_cases q : i = j
          · subst q
            rw [e0] at ej
            cases ej
            have hlen : i < σ.length := by rw [← s.1]; exact (List.getElem?_eq_some_iff.mp e0).1
            exact ⟨.ref a, List.getElem?_set_self hlen, .ref ea⟩
          · rw [List.getElem?_set_ne q]
            exact s4.2 j d ej
      · exact p1.elim
    · exact p1.elim
  · exact p.elim
theorem list_ty {K : PySem.W.Frag} {a : Addr} {vs : List V} {H : Hp} (h : H a = some (.lst vs)) : tyV K "list" (.ref a) H := .inl ⟨rfl, vs, SqL.of h⟩
theorem ds_app {o e : Expr} {co ce : E} {apos cpos : Pos} (ho : DE X fa ca W Δ o co) (ha : DA X fa ca W Δ [e] (.cons ce .nil))
    (hbase : attributeBase o "append" X.env (eval o X.env) = eval o X.env)
    (hfew : ((backTo cpos (starEach [e] X.env)).all (fun x => !x.1) && (backToKw cpos (keywordEach [] X.env)).all (fun x => x.1.isSome)
      && decide ([e].length + ([] : List Keyword).length + (if ([] : List Keyword).isEmpty then 0 else 1) < 30)) = true)
    (hline : (apos.endLine == cpos.line) = true) (hs : starEach [e] X.env = (false, eval e X.env) :: starEach [] X.env) :
    DS X fa ca W Δ fu (.Expr (.Call (.Attribute o "append" apos) [e] [] cpos) pos) (.app co ce) := by
  refine PS.imp (ps_expr (pe_bm (T := "list") (id := "list.append") PySem.F.plainAttrs_list PySem.F.slot_list_append PySem.F.type_list_append mt_append ho ha hbase hfew hline hs rfl) rfl) fun D σ H ⟨hid, w, st, ρ, g, s, p⟩ => ?_
  simp only [ex] at p
  refine ⟨hid, w, st, ρ, g, s, (PostS.to (rel := relV X.K fa) s p).mono fun x H1 ⟨d1, w1, st1, e1, g1, r1, _, p1⟩ => ?_⟩
  have s1 := e1.slots s
  split at p1
  · rename_i hL
    have p1' : PostS X.K fa ca W hid w1 st1 H1 ((evs Δ (.cons ce .nil) ρ st1).to ρ fun ds st => match ds with
      | [z] => (match appD st d1 z with
        | some st' => nx ρ st'
        | none => .bad)
      | _ => .bad) D := by
      simp only [evs]
      revert p1
      generalize ev Δ ce ρ st1 = r2
      intro p1
      cases r2 with
      | ok d s => exact p1
      | ex e s => exact p1
      | bad => exact p1
    have ty : tyV X.K "list" x H1 := by
      unfold isLst at hL
      split at hL
      · rename_i n
        split at hL
        · rename_i ds ec
          obtain ⟨a, ea, vs, h1, h2⟩ := g1.cell ec
          cases r1 with
          | ref hw => rw [ea] at hw; cases hw; exact list_ty h1
        · cases hL
      · cases hL
    refine ⟨ty, hid, w1, st1, ρ, g1, s1, (PostS.to (rel := relA X.K fa) s1 p1').mono fun xs H2 ⟨ds, w2, st2, e2, g2, r2, _, p2⟩ => ?_⟩
    split at p2
    · rename_i z _
      obtain ⟨vz, rfl, rz⟩ := one_rvs r2
      split at p2
      · rename_i st' es
        unfold appD at es
        split at es
        · rename_i n
          split at es
          · rename_i ds2 ec
            split at es
            · rename_i hl
              cases es
              obtain ⟨a, ea, vs, h1, h2⟩ := g2.cell ec
              cases e2.rv r1 with
              | ref hw =>
                rw [ea] at hw; cases hw
                have x4 := Ext.write (o := .lst (vs ++ [vz])) (c' := .lst (ds2 ++ [z])) g2 ea ec trivial trivial
                refine ⟨a, vs, vz, rfl, rfl, h1, by rw [h2.length, sizeLine_eq]; exact hl, ?_⟩
                exact (p2.base x4).here (g2.write ea ec trivial trivial ⟨_, upd_same, h2.append (.cons rz .nil)⟩) ((e2.trans x4).slots s1)
            · cases es
          · cases es
        · cases es
      · exact p2.elim
    · exact p2.elim
  · exact p1.elim
theorem ds_whl {t : Expr} {body : List Stmt} {ct : T} {cb : Ss} (hp : PassesOwn (model X.prog X.w) X.A X.env X.xe) (ht : DT X fa ca W Δ t ct) (hb : DSs X fa ca W Δ fu body cb) : DS X fa ca W Δ fu (.While t body [] pos) (.whl ct cb) := PS.imp (ps_while hp ht hb) fun D σ H ⟨hid, w, st, ρ, g, s, p⟩ => by
  simp only [ex] at p
  refine ⟨fun m σ H => ∃ w st ρ, Good X.K fa ca hid w st H ∧ Slots X.K fa w (FZ hid w st H) ρ σ ∧ PostS X.K fa ca W hid w st H (whlLoop (evT Δ ct) (exs Δ fu cb) m ρ st) D, ⟨fu, w, st, ρ, g, s, p⟩, ?_⟩
  rintro m σ1 H1 ⟨w1, st1, ρ1, g1, s1, p1⟩
  cases m with
  | zero => exact p1.elim
  | succ m =>
    unfold whlLoop at p1
    refine ⟨hid, w1, st1, ρ1, g1, s1, (PostS.to (rel := relB) s1 p1).mono fun b H2 ⟨d, w2, st2, e2, g2, r2, _, p2⟩ => ?_⟩
    cases (show b = d from r2)
    cases b with
    | false =>
      rw [if_neg Bool.false_ne_true] at p2 ⊢
      exact p2.here g2 (e2.slots s1)
    | true =>
      rw [if_pos rfl] at p2 ⊢
      refine ⟨fun σ' H' => ∃ w' st' ρ', Good X.K fa ca hid w' st' H' ∧ Slots X.K fa w' (FZ hid w' st' H') ρ' σ' ∧ PostS X.K fa ca W hid w' st' H' (whlLoop (evT Δ ct) (exs Δ fu cb) m ρ' st') D, fun σ' H' h => ⟨m, Nat.lt_succ_self _, h⟩, hid, w2, st2, ρ1, g2, e2.slots s1, ?_⟩
      generalize exs Δ fu cb ρ1 st2 = r at p2
      cases r with
      | bad => exact p2
      | go f ρ' s' =>
        cases f with
        | nx => exact fun σ' w3 H3 y g3 r3 => ⟨w3, s', ρ', g3, r3, p2.base y⟩
        | ct => exact fun σ' w3 H3 y g3 r3 => ⟨w3, s', ρ', g3, r3, p2.base y⟩
        | bk => exact p2
        | rt d => exact p2
        | xc e => exact p2
theorem ds_for {tg iter : Expr} {body : List Stmt} {ct : Tg} {ci : It} {cb : Ss} (hp : PassesOwn (model X.prog X.w) X.A X.env X.xe) (hc : X.calm = true) (hi : DI X fa ca W Δ tg iter ci) (hg : DG X fa ca tg ct) (hb : DSs X fa ca W Δ fu body cb)
    (hs : ∀ x, foldedSetIterable iter X.env x = pure x) : DS X fa ca W Δ fu (.For tg iter body [] pos) (.for ct ci cb) := PS.imp (ps_for hp hc hi hg hb hs) fun D σ H ⟨hid, w, st, ρ, g, s, p⟩ => by
  simp only [ex] at p
  refine ⟨hid, w, st, ρ, g, s, (PostS.to (rel := relI X.K fa ca) s p).mono fun J H1 ⟨ds, w1, st1, e1, g1, it, _, p1⟩ => ?_⟩
  let f : Ev.D → EnvD → Store → RS := fun d ρ st => bindT ct st d ρ (exs Δ fu cb)
  let Wf : Nat → Nat → L2.St → Hp → Prop := fun i m σ2 H2 => m + i = ds.length ∧ ∃ w' st' ρ', Good X.K fa ca hid w' st' H2 ∧ Ext hid w1 st1 H1 w' st' H2 ∧ Slots X.K fa w' (FZ hid w' st' H2) ρ' σ2 ∧ PostS X.K fa ca W hid w' st' H2 (forLoop f (ds.drop i) ρ' st') D
  refine ⟨Wf, ⟨ds.length, by simp, w1, st1, ρ, g1, Ext.refl, e1.slots s, by rw [List.drop_zero]; exact p1⟩, ?_⟩
  rintro i m σ2 H2 ⟨hm, w', st', ρ', g2, x2, s2, p2⟩
  obtain ⟨itm, its⟩ := it i hid w' st' H2 g2 (fun _ _ z => pre_get x2.pre z) x2.le
  by_cases hlt : i < ds.length
  · refine .inr ?_
    have hd : ds[i]? = some ds[i] := List.getElem?_eq_getElem hlt
    obtain ⟨hgo, hy⟩ := itm _ hd
    refine ⟨hgo, Wf (i + 1) (m - 1), fun σ' H' z => ⟨m - 1, by omega, z⟩, fun x H3 y => ?_⟩
    obtain ⟨g3, e3, rx⟩ := hy x H3 y
    rw [List.drop_eq_getElem_cons hlt] at p2
    simp only [forLoop] at p2
    have p3 := p2.base e3
    have s3 := e3.slots s2
    have p3 : PostS X.K fa ca W hid w' st' H3 ((bindT ct st' ds[i] ρ' (exs Δ fu cb)).turn fun ρ st => forLoop f (ds.drop (i + 1)) ρ st) D := p3
    unfold bindT at p3
    cases ha : asg ct st' ds[i] ρ' with
    | none => rw [ha] at p3; exact p3.elim
    | some ρ2 =>
      rw [ha] at p3
      simp only at p3
      refine ⟨hid, w', st', ρ', ds[i], g3, s3, rx, ρ2, ha, fun σ4 s4 _ _ => ⟨hid, w', st', ρ2, g3, s4, ?_⟩⟩
      generalize exs Δ fu cb ρ2 st' = r at p3
      have again : ∀ {ρ5 st5}, PostS X.K fa ca W hid w' st' H3 (forLoop f (ds.drop (i + 1)) ρ5 st5) D → ∀ σ5 w5 H5, Ext hid w' st' H3 w5 st5 H5 → Good X.K fa ca hid w5 st5 H5 → Slots X.K fa w5 (FZ hid w5 st5 H5) ρ5 σ5 → Wf (i + 1) (m - 1) σ5 H5 :=
        fun {ρ5 st5} p5 σ5 w5 H5 y g5 r5 => ⟨by omega, w5, st5, ρ5, g5, (x2.trans e3).trans y, r5, p5.base y⟩
      cases r with
      | bad => exact p3
      | go fl ρ5 st5 =>
        cases fl with
        | nx => exact fun σ5 w5 H5 y g5 r5 => again p3 σ5 w5 H5 y g5 r5
        | ct => exact fun σ5 w5 H5 y g5 r5 => again p3 σ5 w5 H5 y g5 r5
        | bk => exact p3
        | rt d => exact p3
        | xc e => exact p3
  · refine .inl ⟨its (by omega), ?_⟩
    rw [List.drop_eq_nil_of_le (by omega)] at p2
    simp only [forLoop] at p2
    exact p2.here g2 s2
end
end Ev
set_option maxHeartbeats 1000000
namespace Ev
open PySem PySem.Spec PyProof.Rows L2
section
variable {K : PySem.W.Frag} {fa ca : Nat → Addr} {hid w w0 : List Addr} {st st0 : Store} {H H0 : Hp} {F G : Hp}
theorem RV.cut {n : Nat} (l : Le F G) : ∀ (j : Nat) {d : D} {v : V}, refsUnder n j d = true → RV K fa w F v d → RV K fa (w.take n) G v d := by
  intro j
  induction j with
  | zero =>
    intro d v h r
    cases r with
    | py q => exact .py (q.mono l)
    | scr q => exact .scr (l.sqL q)
    | ob q1 q2 => exact .ob (l _ _ q1) (Paired.mapP q2 fun _ _ z => ⟨z.1, Dq.mono l z.2⟩)
    | fn => exact .fn
    | ref q =>
      simp only [refsUnder, decide_eq_true_eq] at h
      exact .ref (by rw [List.getElem?_take_of_lt h]; exact q)
    | tp _ _ => simp [refsUnder] at h
  | succ j ih =>
    intro d v h r
    cases r with
    | py q => exact .py (q.mono l)
    | scr q => exact .scr (l.sqL q)
    | ob q1 q2 => exact .ob (l _ _ q1) (Paired.mapP q2 fun _ _ z => ⟨z.1, Dq.mono l z.2⟩)
    | fn => exact .fn
    | ref q =>
      simp only [refsUnder, decide_eq_true_eq] at h
      exact .ref (by rw [List.getElem?_take_of_lt h]; exact q)
    | tp h1 h2 =>
      simp only [refsUnder, List.all_eq_true] at h
      refine .tp (l _ _ h1) ?_
      have go : ∀ {vs : List V} {ds : List D}, RVs K fa w F vs ds → (∀ x ∈ ds, refsUnder n j x = true) → RVs K fa (w.take n) G vs ds := by
        intro vs
        induction vs with
        | nil => intro ds r _; cases r; exact .nil
        | cons a vs ih2 =>
          intro ds r h
          cases r with
          | cons r1 r2 => exact .cons (ih (h _ List.mem_cons_self) r1) (ih2 r2 fun x hx => h x (List.mem_cons_of_mem _ hx))
      exact go h2 h
theorem RVs.cut {n j : Nat} (l : Le F G) : ∀ {vs : List V} {ds : List D}, (∀ x ∈ ds, refsUnder n j x = true) → RVs K fa w F vs ds → RVs K fa (w.take n) G vs ds
  | _, _, _, .nil => .nil
  | _, _, h, .cons r1 r2 => .cons (RV.cut l j (h _ List.mem_cons_self) r1) (RVs.cut l (fun x hx => h x (List.mem_cons_of_mem _ hx)) r2)
theorem CellOk.cut {n : Nat} {a : Addr} {c : Cell} (l : Le F G) (h : cellUnder n c = true) (ok : CellOk K fa ca w F H a c) : CellOk K fa ca (w.take n) G H a c := by
  cases c with
  | lst ds =>
    obtain ⟨vs, h1, h2⟩ := ok
    simp only [cellUnder, List.all_eq_true] at h
    exact ⟨vs, h1, h2.cut l h⟩
  | dct kvs =>
    obtain ⟨kv, h1, h2⟩ := ok
    simp only [cellUnder, List.all_eq_true] at h
    refine ⟨kv, h1, ?_⟩
    have go : ∀ {ps : List (List Key × V)} {qs : List (List Int × D)}, Paired (fun (p : List Key × V) (q : List Int × D) => p.1 = q.1.map Sum.inl ∧ RV K fa w F p.2 q.2) ps qs → (∀ x ∈ qs, refsUnder n 3 x.2 = true) →
        Paired (fun (p : List Key × V) (q : List Int × D) => p.1 = q.1.map Sum.inl ∧ RV K fa (w.take n) G p.2 q.2) ps qs := by
      intro ps
      induction ps with
      | nil => intro qs r _; cases r; exact .nil
      | cons p ps ih =>
        intro qs r h
        cases r with
        | cons r1 r2 => exact .cons ⟨r1.1, RV.cut l 3 (h _ List.mem_cons_self) r1.2⟩ (ih r2 fun x hx => h x (List.mem_cons_of_mem _ hx))
    exact go h2 h
  | ins C fs =>
    obtain ⟨dx, fv, h1, h2⟩ := ok
    simp only [cellUnder, List.all_eq_true] at h
    refine ⟨dx, fv, h1, ?_⟩
    have go : ∀ {ps : List (Str × V)} {qs : List (Str × D)}, Paired (fun (p : Str × V) (q : Str × D) => p.1 = q.1 ∧ RV K fa w F p.2 q.2) ps qs → (∀ x ∈ qs, refsUnder n 3 x.2 = true) →
        Paired (fun (p : Str × V) (q : Str × D) => p.1 = q.1 ∧ RV K fa (w.take n) G p.2 q.2) ps qs := by
      intro ps
      induction ps with
      | nil => intro qs r _; cases r; exact .nil
      | cons p ps ih =>
        intro qs r h
        cases r with
        | cons r1 r2 => exact .cons ⟨r1.1, RV.cut l 3 (h _ List.mem_cons_self) r1.2⟩ (ih r2 fun x hx => h x (List.mem_cons_of_mem _ hx))
    exact go h2 h
  | frz d => exact Dq.mono l ok
  | tab j => exact ok
theorem FZ.cut {n : Nat} : Le (FZ hid w st H) (FZ hid (w.take n) (st.take n) H) := fun a o e => by
  obtain ⟨h1, h2, h3⟩ := FZ.at.mp e
  refine FZ.at.mpr ⟨?_, h2, h3⟩
  rintro ⟨m, c, e1, e2, e3⟩
  refine h1 ⟨m, c, ?_, ?_, e3⟩
  · rw [List.getElem?_take] at e1
    split at e1
    · exact e1
    · cases e1
  · rw [List.getElem?_take] at e2
    split at e2
    · exact e2
    · cases e2
theorem Good.cut {n : Nat} (g : Good K fa ca hid w st H) (h : (st.take n).all (cellUnder n) = true) : Good K fa ca hid (w.take n) (st.take n) H := by
  refine ⟨by rw [List.length_take, List.length_take, g.len], g.nd.sublist (List.take_sublist _ _), fun a ha => g.trk a (List.mem_of_mem_take ha), fun a ha => ⟨fun z => (g.asd a ha).1 (List.mem_of_mem_take z), (g.asd a ha).2⟩, fun m a c e1 e2 => ?_⟩
  rw [List.all_eq_true] at h
  have hc := h c (List.mem_of_getElem? e2)
  rw [List.getElem?_take] at e1 e2
  split at e1
  · rename_i hm
    rw [if_pos hm] at e2
    exact (g.cells m a c e1 e2).cut FZ.cut hc
  · cases e1
theorem Ext.cut {n : Nat} (x : Ext hid w0 st0 H0 w st H) (hn : w0.length ≤ n) : Ext hid w0 st0 H0 (w.take n) (st.take n) H := by
  refine ⟨?_, x.le.trans FZ.cut, x.asd⟩
  have h := x.pre
  rw [List.prefix_take_iff]
  exact ⟨h, hn⟩
/-- behind a call -/
theorem trim_ok {d : D} {x : V} (g0 : Good K fa ca hid w0 st0 H0) (e : Ext hid w0 st0 H0 w st H) (g : Good K fa ca hid w st H) (r : RV K fa w (FZ hid w st H) x d) :
    ∃ w', Ext hid w0 st0 H0 w' (trim st0.length d st) H ∧ Good K fa ca hid w' (trim st0.length d st) H ∧ RV K fa w' (FZ hid w' (trim st0.length d st) H) x d := by
  unfold trim
  split
  · rename_i h
    rw [Bool.and_eq_true] at h
    exact ⟨w.take st0.length, e.cut (by rw [g0.len]; exact Nat.le_refl _), g.cut h.2, RV.cut FZ.cut 3 h.1 r⟩
  · exact ⟨w, e, g, r⟩
end
structure RoomG (k : Nat) (A : Around) : Prop where
  r : Room k A
  g : A.guards = some []
structure FnG (P : Program) (w : World) (K : PySem.W.Frag) (mg : Str → Option Value) (base : Heap) (k : Nat) (f : Addr) (fd : FuncData) (ps : List Str) (sp : Sp) : Prop where
  len : ∀ vs H Q E, sp vs H Q E → vs.length = ps.length
  run : ∀ (A : Around) (outer : List Env) (s : Shared) (H : Hp) (args : Args) (us : List Value) (vs : List V) (Q : VK) (E : XK), RoomG k A → Env0 P w K mg base A outer s H → BindsTo s fd args (ps.zip us) → Vals vs us → sp vs H Q E →
    codeAny (model P w) A (.call (.ref f) args) (CR (L2.CX P w) outer P w H s Q E) s
theorem RoomG.mono {j k : Nat} {A : Around} (r : RoomG k A) (h : j ≤ k) : RoomG j A := ⟨r.r.mono h, r.g⟩
theorem FnG.mono {P : Program} {w : World} {K : PySem.W.Frag} {mg : Str → Option Value} {base : Heap} {j k : Nat} {f : Addr} {fd : FuncData} {ps : List Str} {sp : Sp} (F : FnG P w K mg base j f fd ps sp) (h : j ≤ k) : FnG P w K mg base k f fd ps sp :=
  ⟨F.len, fun A outer s H args us vs Q E hr => F.run A outer s H args us vs Q E (hr.mono h)⟩
/-- the def at f has the code cdv -/
def CodeAt (K : PySem.W.Frag) (f : Addr) (qual : Str) (cdv : Value) : Prop := PySem.W.codeIn K cdv qual = true ∧ ∃ oc od osl fd, K.lookup f = some ⟨oc, od, .func fd, osl⟩ ∧ fd.code = cdv
/-- a def by its body -/
theorem fnG_of {P : Program} {w : World} {K : PySem.W.Frag} {mg : Str → Option Value} {base : Heap} {k : Nat} {f : Addr} {x qual : Str} {params : Arguments} {body : List Stmt} {scope : Scope} {dvs : List V} {kws : List (Str × V)} {fd : FuncData}
    {N ps : List Str} {sp : Sp} (F : FunD K x qual params body scope dvs kws f fd) (S : FnScope N ps scope) (len : ∀ vs H Q E, sp vs H Q E → vs.length = ps.length)
    (hbody : ∀ (cdv : Value) (A : Around) (outer : List Env) (s : Shared) (H : Hp) (vs : List V) (Q : VK) (E : XK), CodeAt K f qual cdv → RoomG k (A.deeper (envOfC qual scope s.heap.objs.size f cdv)) → sp vs H Q E →
      ∃ t, PSs (cxOf (L2.CX P w) P w K mg base N qual scope f cdv A outer s H E) body t ∧ t { nx := fun _ H' => Q .non H', rt := Q } (L2.start N vs) H) :
    FnG P w K mg base (k + 1) f fd ps sp := by
  obtain ⟨oc, od, dV, kV, doc, pm, an, cdv, ct, osl, rfl, lk, hcd, _, _⟩ := F.ex
  refine ⟨len, fun A outer s H args us vs Q E hr e0 hb r hsp => ?_⟩
  have hl := len _ _ _ _ hsp
  have KX : K.In s.heap := e0.mod.kin.keeps fun b o e => (e0.bs b o e).1
  have lim : s.heap.NoLimit := e0.mod.nolimit.keeps fun b o e => (e0.bs b o e).1
  refine codeAny_call_function hr.r.depth (KX _ _ lk) rfl S.co S.gen rfl (PySem.W.codeRec_of KX hcd) (hb _ _ _ _ ?_)
  refine wpAny_newFunctionEnv_cells S.kind (fun ⟨n, v⟩ hy => ?_) fun env he s1 x => ?_
  · rcases S.par n (List.of_mem_zip hy).1 with q | q
    · exact .inl q
    · exact .inr ⟨q, PySem.W.cellsFrom_some _ _ _ (.inl q)⟩
  subst he
  refine ⟨lim.keeps x.toInCall.keep, codeAny_func ?_⟩
  obtain ⟨t, ht, hq⟩ := hbody cdv A outer s H vs Q E ⟨hcd, _, _, _, _, lk, rfl⟩ ⟨hr.r.deeper _, hr.g⟩ hsp
  have I := inv_start (CX := L2.CX P w) (P := P) (w := w) (E := E) (cd := cdv) (f := f) (qual := qual) S hr.r.hd e0 hl r x
  refine wpAny_mono (ht.run [] s1 (L2.start N vs) H _ I hq) (fun fl s' hs => ?_) fun e s' hs => hs
  cases fl with
  | ret u =>
    obtain ⟨v, σ', H', J, rv, q⟩ := hs
    exact ⟨v, H', J.os, J.bare, J.base, J.hok, rv, q⟩
  | next =>
    obtain ⟨σ', H', J, q⟩ := hs
    exact ⟨.non, H', J.os, J.bare, J.base, J.hok, rfl, q⟩
  | brk => exact (show False from let ⟨_, _, _, q⟩ := hs; q).elim
  | cont => exact (show False from let ⟨_, _, _, q⟩ := hs; q).elim
section
variable {X : Cx} {k : Nat} {f C : Addr} {fd : FuncData} {ps : List Str} {sp : Sp} {dvs : List V} {ds : List Value} {E : L2.St → XK} {x : Str} {p pos : Pos} {e : Expr} {es : List Expr} {t : TA}
theorem run_fnG {pins : List (Addr × Obj)} {σ : L2.St} {H : Hp} {s : Shared} {Q : VK} {us : List Value} {vs : List V} (F : FnG X.prog X.w X.K X.mg X.base k f fd ps sp) (hr : RoomG k X.A) (hb : Binds X.K fd ps ds) (hd : Vals dvs ds) (hx : PassesAt (L2.CX X.prog X.w) X σ (E σ))
    (I : Inv X pins σ H s) (r : Vals vs us) (h : sp (vs ++ dvs) H Q (E σ)) : wpAny (model X.prog X.w) X.A (call (.ref f) us) (EP X pins σ Q) X.xe s := by
  have r2 := r.append hd
  have hl : (us ++ ds).length = ps.length := r2.length.symm.trans (F.len _ _ _ _ h)
  refine wpAny_call (codeAny_mono (F.run X.A X.stack s H ⟨us, []⟩ (us ++ ds) (vs ++ dvs) Q (E σ) hr I.env0 (hb s us I.kIn hl) r2 h) fun r s' hq => ?_)
  cases r with
  | error e => exact hx pins H s e s' I hq
  | ok fl =>
    cases fl with
    | ret u => exact I.after hq
    | next => exact hq.elim
    | brk => exact hq.elim
    | cont => exact hq.elim
theorem pe_callG (F : FnG X.prog X.w X.K X.mg X.base k f fd ps sp) (hr : RoomG k X.A) (hg : Gl X x) (hm : X.mg x = some (.ref f)) (hk : PySem.W.keepIn X.K (.ref f) = true) (hb : Binds X.K fd ps ds) (hd : Vals dvs ds) (hx : ∀ σ, PassesAt (L2.CX X.prog X.w) X σ (E σ))
    (ha : PA X (e :: es) t) (hdb : (x == ("__debug__" : Str)) = false) (he : starEach (e :: es) X.env = (false, eval e X.env) :: starEach es X.env) (hpl : (backTo pos (starEach es X.env)).any (·.1) = false) :
    PE X (.Call (.Name x p) (e :: es) [] pos) (tCallSD sp dvs E t) := by
  refine ⟨fun pins s σ H Q I h => ?_⟩
  refine wpAny_Call_Name_kw (ld_glob I hg hm ?_ hdb)
  exact PySem.W.callWith_K (h₀ := X.base) I.ok.mod.kin hk (thn (ha.run pos pins s σ H _ I h) fun us s1 ⟨vs, H1, I1, r, q⟩ => ⟨I1.kIn, run_fnG F hr hb hd (hx σ) I1 r q⟩) he hpl
theorem pe_callG0 (F : FnG X.prog X.w X.K X.mg X.base k f fd ps sp) (hr : RoomG k X.A) (hg : Gl X x) (hm : X.mg x = some (.ref f)) (hk : PySem.W.keepIn X.K (.ref f) = true) (hb : Binds X.K fd ps ds) (hd : Vals dvs ds) (hx : ∀ σ, PassesAt (L2.CX X.prog X.w) X σ (E σ))
    (hdb : (x == ("__debug__" : Str)) = false) : PE X (.Call (.Name x p) [] [] pos) (tCallSD sp dvs E tNil) := by
  refine ⟨fun pins s σ H Q I h => ?_⟩
  refine wpAny_Call_Name_kw (ld_glob I hg hm ?_ hdb)
  exact PySem.W.callWith_K0 I.kIn hk (run_fnG (us := []) F hr hb hd (hx σ) I .nil h)
end
section
variable {X : Cx} {fa ca : Nat → Addr} {W : WX} {Δ : Dn}
theorem de_callG {k f ar : Nat} {x : Str} {fd : FuncData} {ps : List Str} {e : Expr} {es : List Expr} {ee : Es} {pp pos : Pos} (F : FnG X.prog X.w X.K X.mg X.base k (fa f) fd ps (spF X.K fa ca Δ f ar)) (hr : RoomG k X.A) (hg : Gl X x) (hm : X.mg x = some (.ref (fa f)))
    (hk : PySem.W.keepIn X.K (.ref (fa f)) = true) (hb : Binds X.K fd ps []) (tk : Takes X W) (hl : ee.len = ar) (hdb : (x == ("__debug__" : Str)) = false) (ha : DA X fa ca W Δ (e :: es) ee)
    (he : starEach (e :: es) X.env = (false, eval e X.env) :: starEach es X.env) (hpl : (backTo pos (starEach es X.env)).any (·.1) = false) : DE X fa ca W Δ (.Call (.Name x pp) (e :: es) [] pos) (.call f ee) := by
  refine PE.imp (pe_callG (dvs := []) F hr hg hm hk hb .nil (passAt tk) ha hdb he hpl) fun σ H Q ⟨hid, w, st, ρ, g0, s0, p⟩ => ?_
  simp only [ev] at p
  refine ⟨hid, w, st, ρ, g0, s0, (PostG.bind (rel := relA X.K fa) p).mono fun xs H1 ⟨ds, w1, st1, e1, g1, r1, e2, p1⟩ => ?_⟩
  refine ⟨hid, w1, st1, ds, g1, by rw [List.append_nil]; exact r1, ?_, p1⟩
  rw [evs_len ee e2, hl]
end
/-- the promise of a def by its body -/
theorem spF_body {K : PySem.W.Frag} {fa ca : Nat → Addr} {Δ Δ' : Dn} {fu f ar : Nat} {b : Ss} {N : List Str} {vs : List V} {H : Hp} {Q : VK} {E : XK} (hl : ar ≤ N.length) (hΔ : ∀ ds st, Δ' f ds st = runFn Δ fu ar N.length b ds st) (h : spF K fa ca Δ' f ar vs H Q E) :
    tS K fa ca (fun c d _ H' => E c d H') (exs Δ fu b) { nx := fun _ H' => Q .non H', rt := Q } (L2.start N vs) H := by
  obtain ⟨hid, w, st, ds, g, rs, hlen, p⟩ := h
  rw [hΔ] at p
  unfold runFn at p
  rw [if_pos hlen] at p
  refine ⟨hid, w, st, ds.map some ++ List.replicate (N.length - ar) none, g, ⟨?_, fun i d e => ?_⟩, ?_⟩
  · unfold L2.start
    rw [List.length_append, List.length_append, List.length_map, List.length_map, List.length_replicate, List.length_replicate, rs.length, hlen]
  · by_cases hi : i < ds.length
    · rw [List.getElem?_append_left (by simpa using hi), List.getElem?_map] at e
      cases ed : ds[i]? with
      | none => rw [ed] at e; cases e
      | some d' =>
        rw [ed] at e; cases e
        obtain ⟨v, e1, r⟩ := rs.get ed
        refine ⟨v, ?_, r⟩
        unfold L2.start
        have hv := (List.getElem?_eq_some_iff.mp e1).1
        rw [List.getElem?_append_left (by simpa using hv), List.getElem?_map, e1]
        rfl
    · rw [List.getElem?_append_right (by simpa using hi), List.getElem?_replicate] at e
      split at e <;> cases e
  · generalize exs Δ fu b (ds.map some ++ List.replicate (N.length - ar) none) st = r at p
    cases r with
    | bad => exact p
    | go fl ρ' st' =>
      cases fl with
      | rt d =>
        intro σ' w' H' x' g' s' v rv
        obtain ⟨w2, e2, g2, r2⟩ := trim_ok g x' g' rv
        exact p v w2 H' e2 g2 r2
      | nx =>
        intro σ' w' H' x' g' s'
        obtain ⟨w2, e2, g2, r2⟩ := trim_ok (d := .py .none) (x := .non) g x' g' (.py .non)
        exact p .non w2 H' e2 g2 r2
      | bk => exact p.elim
      | ct => exact p.elim
      | xc e =>
        intro σ' w' H' x' g' s' cls dd rx
        obtain ⟨w2, e2, g2, r2⟩ := trim_ok (d := .py .none) (x := .non) g x' g' (.py .non)
        exact p cls dd w2 H' e2 g2 rx
end Ev
set_option maxHeartbeats 1000000
namespace Ev
open PySem PySem.Spec PyProof.Rows L2
def rShow (K : PySem.W.Frag) : List V → Hp → VK → Prop := fun vs H Q => ∃ x d, vs = [x] ∧ Dp K H x d ∧ okShow d = true ∧ Q (.str d.shown) H
section
variable {X : Cx} {fa ca : Nat → Addr} {W : WX} {Δ : Dn}
theorem okShow_ok {p : PD} (h : okShow p = true) : SeqAt.shaped p = true ∧ p.showable = true ∧ p.shown.length ≤ sizeLine := by
  unfold okShow at h
  rw [Bool.and_eq_true, Bool.and_eq_true, decide_eq_true_eq] at h
  exact ⟨h.1, h.2.1, by rw [sizeLine_eq]; exact h.2.2⟩
theorem call_show (hg : X.A.guards = some []) (hu : X.A.units + 80 < cLine) : CallR X (.builtin "repr") (rShow X.K) := by
  intro pins s σ H xs us Q I r h
  obtain ⟨x, d, rfl, hd, ok, q⟩ := h
  obtain ⟨sh, sw, sz⟩ := okShow_ok ok
  obtain ⟨u, rfl, rx⟩ := vals1 r
  have h1 := SeqAt.depth_of_shaped sh
  have nd := PyData.hasDict_of_canLay d (SeqAt.canLay_of_shaped sh)
  have go : ∀ a, u = .ref a → wpAny (model X.prog X.w) X.A (call (.builtin "repr") [u]) (EP X pins σ Q) X.xe s := fun a e => by
    subst e
    obtain ⟨as, r1⟩ := Dp.reads I d x _ hd rx
    exact repr_of_reads' (h₀ := s.heap) r1 sw (PyData.noDict_hsm nd) hg (by omega) (fun _ _ e => e) (fun h' u tk hk => ⟨.str d.shown, H, I.kept hk, ⟨u, rfl⟩, q⟩) sz
  cases hd with
  | non => cases rx; exact P.repr_of_none ⟨.str _, H, I.tok _, ⟨_, rfl⟩, q⟩
  | bl b => cases rx; exact P.repr_of_bool ⟨.str _, H, I.tok _, ⟨_, by cases b <;> rfl⟩, q⟩
  | int i =>
    obtain ⟨t, rfl⟩ := rx
    exact P.repr_of_int (by simpa [PyData.showable] using sw) ⟨.str _, H, I.tok _, ⟨_, rfl⟩, q⟩
  | str y =>
    obtain ⟨t, rfl⟩ := rx
    exact P.repr_of_str ⟨.str _, H, I.tok _, ⟨_, rfl⟩, q⟩ sz
  | lst _ _ => cases rx; exact go _ rfl
  | tup _ _ => cases rx; exact go _ rfl
theorem shw_ok {K : PySem.W.Frag} {hid w : List Addr} {st : Store} {H : Hp} {v : V} {d : D} {p : PD} (g : Good K fa ca hid w st H) (r : RV K fa w (FZ hid w st H) v d) (h : shw st d = some p) : Dp K H v p ∧ okShow p = true := by
  unfold shw at h
  obtain ⟨q, h1, h2⟩ := Option.bind_eq_some_iff.mp h
  split at h2
  · rename_i c
    cases h2
    exact ⟨val_ok g r h1, c⟩
  · cases h2
theorem de_same {a b : Expr} {ea eb : E} {p1 p2 q1 q2 pos : Pos} (hG : X.A.guards = some []) (hu : X.A.units + 80 < cLine) (hg : Gl X "repr") (hm : X.mg "repr" = none) (ha : DE X fa ca W Δ a ea) (hb : DE X fa ca W Δ b eb)
    (sa : starEach [a] X.env = (false, eval a X.env) :: starEach [] X.env) (sb : starEach [b] X.env = (false, eval b X.env) :: starEach [] X.env) :
    DE X fa ca W Δ (.Compare (.Call (.Name "repr" p1) [a] [] q1) [.Eq] [.Call (.Name "repr" p2) [b] [] q2] pos) (.same ea eb) := by
  have ra := pe_callB (p := p1) (pos := q1) (call_show hG hu) hg hm boot_repr (pa_cons ha pa_nil sa) (by decide) (by decide) sa rfl
  have rb := pe_callB (p := p2) (pos := q2) (call_show hG hu) hg hm boot_repr (pa_cons hb pa_nil sb) (by decide) (by decide) sb rfl
  refine PE.imp (pe_cmpR (pos := pos) op_eq ra rb (nomark _)) fun σ H Q ⟨hid, w, st, ρ, g0, s0, p⟩ => ?_
  simp only [ev] at p
  refine ⟨hid, w, st, ρ, g0, s0, (PostG.bind (rel := relV X.K fa) p).mono fun x H1 ⟨d1, w1, st1, e1, g1, r1, _, p1⟩ => ?_⟩
  cases h1 : shw st1 d1 with
  | none => rw [h1] at p1; exact p1.elim
  | some P =>
    rw [h1] at p1
    simp only [Rs.of_some, Rs.bind_ok] at p1
    obtain ⟨k1, k2⟩ := shw_ok g1 r1 h1
    refine ⟨x, P, rfl, k1, k2, hid, w1, st1, ρ, g1, e1.slots s0, (PostG.bind (rel := relV X.K fa) p1).mono fun y H2 ⟨d2, w2, st2, e2, g2, r2, _, p2⟩ => ?_⟩
    cases h2 : shw st2 d2 with
    | none => rw [h2] at p2; exact p2.elim
    | some R =>
      rw [h2] at p2
      simp only [Rs.of_some, Rs.bind_ok] at p2
      obtain ⟨k3, k4⟩ := shw_ok g2 r2 h2
      refine ⟨y, R, rfl, k3, k4, rfl, ?_⟩
      obtain ⟨z, e3, p3⟩ := p2.of
      unfold sameP at e3
      split at e3
      · rename_i e4
        cases e3
        subst e4
        rw [decide_eq_true rfl]
        exact p3.here g2 (.py (.bl true))
      · cases e3
theorem rgV_ints (n : Int) : rgV 0 n = ((List.range n.toNat).map fun (i : Nat) => (i : Int)).map V.int := by
  unfold rgV
  rw [List.map_map, Int.sub_zero]
  refine List.map_congr_left fun i _ => ?_
  simp
theorem dq_ints (F : Hp) : ∀ l : List Int, DqAll F (l.map V.int) (l.map .int)
  | [] => .nil
  | i :: l => .cons (.int i) (dq_ints F l)
theorem de_trng {a : Expr} {ea : E} {p1 p2 q pos : Pos} (hc : X.calm = true) (hg : Gl X "tuple") (hm : X.mg "tuple" = none) (hg2 : Gl X "range") (hm2 : X.mg "range" = none) (ha : DE X fa ca W Δ a ea) (sa : starEach [a] X.env = (false, eval a X.env) :: starEach [] X.env) :
    DE X fa ca W Δ (.Call (.Name "tuple" p1) [.Call (.Name "range" p2) [a] [] q] [] pos) (.trng ea) := by
  refine PE.imp (pe_tupRg hc hg hm (prg_1 hg2 hm2 ha sa)) fun σ H Q ⟨hid, w, st, ρ, g0, s0, p⟩ => ?_
  simp only [ev] at p
  refine ⟨hid, w, st, ρ, g0, s0, (PostG.bind (rel := relV X.K fa) p).mono fun x H1 ⟨d1, w1, st1, e1, g1, r1, _, p1⟩ => ?_⟩
  split at p1
  · rename_i j _
    split at p1
    · rename_i hj
      rw [Bool.and_eq_true, decide_eq_true_eq, decide_eq_true_eq] at hj
      cases int_rv r1
      refine ⟨j, rfl, ⟨by omega, by omega, by omega, by omega, by omega⟩, fun l hl => ?_⟩
      refine p1.new g1 hl (.py (.tup (FZ.new g1 hl) ?_))
      rw [rgV_ints]
      have := dq_ints (FZ hid w1 st1 (upd H1 l (.tup (((List.range j.toNat).map fun (i : Nat) => (i : Int)).map V.int)))) ((List.range j.toNat).map fun (i : Nat) => (i : Int))
      rw [List.map_map (f := fun (i : Nat) => (i : Int)) (g := PyData.int)] at this
      exact this
    · exact p1.elim
  · exact p1.elim
end
theorem FnG.some {P : Program} {w : World} {K : PySem.W.Frag} {mg : Str → Option Value} {base : Heap} {k : Nat} {f : Addr} {fd : FuncData} {ps : List Str} {sp : Nat → Sp} (F : ∀ fu, FnG P w K mg base k f fd ps (sp fu)) : FnG P w K mg base k f fd ps (fun vs H Q E => ∃ fu, sp fu vs H Q E) :=
  ⟨fun vs H Q E ⟨fu, h⟩ => (F fu).len vs H Q E h, fun A outer s H args us vs Q E hr e hb hv ⟨fu, h⟩ => (F fu).run A outer s H args us vs Q E hr e hb hv h⟩
theorem call_top {P : Program} {w : World} {K : PySem.W.Frag} {mg mb : Str → Option Value} {k : Nat} {fa a : Addr} {fd : FuncData} {x : Str} {sp : Sp} {s : Shared} {vs : List Value} {ns : List Int} (KX : K.In s.heap) (hns : s.heap.Ns mainGlobals mg) (hb : s.heap.Ns builtinsNs mb)
    (hbb : ∀ x : Str, x ≠ "__name__" → mb x = bootBuiltins x) (hlim : s.heap.NoLimit) (hg : s.gens = #[]) (ha : s.heap.get? a = some { cls := .type "list", data := .seq vs.toArray }) (hi : IntsAre vs ns) (hl : ns.length ≤ sizeLine) (hr : RoomG k callerA)
    (F : ∀ base : Heap, K.In base → base.Ns mainGlobals mg → FnG P w K mg base k fa fd [x] sp) (hbind : ∀ (s : Shared) (u : Value), BindsTo s fd ⟨[u], []⟩ [(x, u)]) (hsp : ∀ H : Hp, Only H → SqL K H a (ns.map V.int) → sp [.ref a] H (fun v _ => v = .bl true) fun _ _ _ => False) :
    codeAny (model P w) callerA (.call (.ref fa) ⟨[.ref a], []⟩) (fun r s' => r = .ok (.ret (.bool true)) ∧ OldK s.heap s'.heap ∧ s'.os = s.os ∧ AllBare s'.gens) s := by
  have rv := vals_ints hi
  have key : ∀ H : Hp, Only H → SqL K H a (ns.map V.int) → HOk P w H s.heap → (∀ b, H b ≠ none → b = a ∧ K.lookup a = none) →
      codeAny (model P w) callerA (.call (.ref fa) ⟨[.ref a], []⟩) (fun r s' => r = .ok (.ret (.bool true)) ∧ OldK s.heap s'.heap ∧ s'.os = s.os ∧ AllBare s'.gens) s := fun H hO hS hok hA => by
    have free : ∀ {b : Addr} {o : Obj}, s.heap.get? b = some o → (o.cls ≠ .type "list" ∨ K.lookup b = some o) → H b = none := fun {b o} e z => by
      cases q : H b with
      | none => rfl
      | some u =>
        obtain ⟨rfl, n⟩ := hA b (by rw [q]; simp)
        rcases z with z | z
        · rw [ha] at e; cases e; exact absurd rfl z
        · rw [n] at z; cases z
    have nsB : ∀ {b : Addr} {m : Str → Option Value}, s.heap.Ns b m → (hidT s.heap H).Ns b m := fun {b m} ⟨o, es, ep, e, d, r⟩ => ⟨o, es, ep, hidT_get e (by
      cases q : H b with
      | none => rfl
      | some u =>
        obtain ⟨rfl, n⟩ := hA b (by rw [q]; simp)
        rw [ha] at e; cases e
        exact absurd (show Data.seq vs.toArray _ = Data.dict es ep from d) (fun z => by cases z)), d, r⟩
    have kB : K.In (hidT s.heap H) := fun b o e => hidT_get (KX b o e) (free (KX b o e) (.inr e))
    have e0 : Env0 P w K mg (hidT s.heap H) callerA [] s H := ⟨rfl, ⟨kB, nsB hns, ⟨mb, nsB hb, hbb⟩, let ⟨mc, h1, h2⟩ := hlim; ⟨mc, nsB h1, h2⟩⟩, fun b o e => of_hidT e, Nat.le_of_eq (hidT_size _ _), trivial, fun b hb => absurd (show b ∈ ([] : List Addr) from hb) (by simp), hok, .of_eq hg⟩
    refine codeAny_mono ((F _ kB (nsB hns)).run callerA [] s H ⟨[.ref a], []⟩ [.ref a] [.ref a] _ _ hr e0 (hbind s (.ref a)) (.cons rfl .nil) (hsp H hO hS)) fun r s' h => ?_
    cases r with
    | error e =>
      obtain ⟨_, _, _, _, _, _, _, _, _, _, _, _, z⟩ := (show L2.CX P w [] H s (fun _ _ _ => False) e s' from h)
      exact z.elim
    | ok fl =>
      cases fl with
      | ret u =>
        obtain ⟨v, H', os, bare, un, hok', r', q⟩ := h
        cases (show v = .bl true from q)
        cases (show u = Value.bool true from r')
        refine ⟨rfl, OldK.of_keep fun b o e => ?_, os, bare⟩
        rcases hO b with z | z
        · exact un.keep b o e z (by intro z; exact absurd (show b ∈ ([] : List Addr) from z) (by simp)) (by simp)
        · obtain ⟨o2, xs, z⟩ := z
          have e1 := (hok b _ z).1
          rw [e] at e1; cases e1
          exact (hok' b _ (un.frzs b _ _ z)).1
      | next => exact h.elim
      | brk => exact h.elim
      | cont => exact h.elim
  by_cases hk : K.lookup a = none
  · refine key (fun b => if b = a then some (.frz { cls := .type "list", data := .seq vs.toArray } (.lst (ns.map V.int))) else none) (fun b => ?_) (.inl (.inr ⟨_, if_pos rfl⟩)) (fun b u z => ?_) (fun b z => ?_)
    · by_cases hb : b = a
      · exact .inr ⟨_, _, if_pos hb⟩
      · exact .inl (if_neg hb)
    · by_cases hb : b = a
      · have z' := (if_pos hb).symm.trans z
        cases z'
        subst hb
        exact ⟨ha, by rw [List.length_map]; exact hl, vs, _, rv, ha⟩
      · have z' := (if_neg hb).symm.trans z
        cases z'
    · by_cases hb : b = a
      · exact ⟨hb, hk⟩
      · exact absurd (if_neg hb) z
  · obtain ⟨o, ho⟩ := Option.ne_none_iff_exists'.mp hk
    have e := KX a o ho
    rw [ha] at e
    cases e
    exact key (fun _ => none) (fun _ => .inl rfl) (.inr ⟨_, vs.toArray, _, ho, rfl, rfl, rfl, by rw [List.size_toArray, hi.length]; exact hl, by simpa using rv⟩) (fun b u z => by have z' : (none : Option HO) = Option.some u := z; cases z') fun b z => absurd rfl z
theorem walkG {l : PySem.W.OpenLaw} {n k : Nat} {q : Program} {loose : List Str} {XP : (Str → Option Value) → Heap → Prop} {YP : World → Heap → Prop} {d : DefRec} {x : Str} (hn : l.most = Option.some n) (hn2 : n ≤ sizeLine) (hdf : d.params.defaults = []) (hr : RoomG k callerA)
    (F : ∀ (w : World) (mg : Str → Option Value) (fa : Addr) (h : Heap), YP w h → h.Ns mainGlobals mg → mg d.name = Option.some (.ref fa) →
      ∃ (K : PySem.W.Frag) (fd : FuncData) (sp : Sp), K.In h ∧ (∀ (s : Shared) (u : Value), BindsTo s fd ⟨[u], []⟩ [(x, u)]) ∧
        (∀ (H : Hp) (a : Addr) (ns : List Int), ns.length ≤ n → Only H → SqL K H a (ns.map V.int) → sp [.ref a] H (fun v _ => v = .bl true) fun _ _ _ => False) ∧
        ∀ base : Heap, K.In base → base.Ns mainGlobals mg → FnG l.prog w K mg base k fa fd [x] sp) : PySem.W.WalkO q loose XP YP l.row.toRowW d [] (fun f vs => PySem.call f vs) := by
  refine Att.attach_call hn hdf fun w s₀ s₁ mg mb fa o pm cd doc a vs ns G Y ho hd hcd hmg hobj hints hlen hg => ?_
  obtain ⟨K, fd, sp, KX, hb, hsp, hF⟩ := F w mg fa _ Y G.T.g hmg
  exact call_top KX G.T.g G.T.b G.T.builtins G.T.nolimit hg hobj hints (Nat.le_trans hlen hn2) hr hF hb fun H hO hS => hsp H a ns hlen hO hS
/-- the script's promise -/
theorem spF_law {K : PySem.W.Frag} {fa ca : Nat → Addr} {Δ : Dn} {f : Nat} {H : Hp} {a : Addr} {ns : List Int} {st : Store} (hS : SqL K H a (ns.map V.int)) (h : Δ f [.scr ns] [] = .ok (.py (.bool true)) st) : spF K fa ca Δ f 1 [.ref a] H (fun v _ => v = .bl true) fun _ _ _ => False := by
  have e : FZ [] [] [] H = H := by
    funext b
    unfold FZ
    rw [if_neg]
    rintro (⟨n, c, h1, _⟩ | h1)
    · simp at h1
    · simp at h1
  refine ⟨[], [], [], [.scr ns], ⟨rfl, .nil, fun a h => by simp at h, fun a h => by simp at h, fun n a c h => by simp at h⟩, .cons (.scr (by rw [e]; exact hS)) .nil, rfl, ?_⟩
  rw [h]
  intro v w' H' _ _ r
  exact bl_rv r
end Ev
set_option maxHeartbeats 1000000
namespace Ev
open PySem PySem.Spec PyProof.Rows L2
/-- a list (true), a tuple (false) -/
def SqK (k : Bool) (H : Hp) (a : Addr) (xs : List V) : Prop := match k with
  | true => H a = some (.lst xs)
  | false => H a = some (.tup xs)
def ItK (k : Bool) (h : Heap) (it l : Addr) (i : Nat) : Prop := match k with
  | true => h.IsListIter it l i
  | false => h.IsTupleIter it l i
def HpK (k : Bool) (h : Heap) (l : Addr) (its : Array Value) : Prop := match k with
  | true => h.IsList l its
  | false => h.IsTuple l its
theorem draws_k {prog : Program} {w : World} {A : Around} (hh : A.handled = none) (k : Bool) (it l : Addr) (hne : l ≠ it) (its : Array Value) : Draws prog w A it [it, l] its.size (fun i v => its[i]? = some v) (fun i h => ItK k h it l i ∧ HpK k h l its) := by
  cases k
  · exact Draws.tuple hh it l hne its
  · exact Draws.list hh it l hne its
theorem itK_at {k : Bool} {h h' : Heap} {it l : Addr} {i : Nat} (x : ItK k h it l i) (q : ∀ o, h.get? it = some o → h'.get? it = some o) : ItK k h' it l i := by
  cases k
  · exact Heap.IsTupleIter.at x q
  · exact Heap.IsListIter.at x q
theorem itK_obj {k : Bool} {h : Heap} {it l : Addr} {i : Nat} (x : ItK k h it l i) : ∃ o, h.get? it = some o ∧ ∀ v, o.data ≠ .cell v := by
  cases k
  · obtain ⟨o, e, _, d⟩ := (show h.IsTupleIter it l i from x)
    exact ⟨o, e, fun v q => by rw [d] at q; cases q⟩
  · obtain ⟨o, e, _, d⟩ := (show h.IsListIter it l i from x)
    exact ⟨o, e, fun v q => by rw [d] at q; cases q⟩
theorem sqK_items {X : Cx} {pins : List (Addr × Obj)} {σ : L2.St} {H : Hp} {s : Shared} {k : Bool} {a : Addr} {xs : List V} (I : Inv X pins σ H s) (q : SqK k H a xs) : ∃ its : List Value, Vals xs its ∧ HpK k s.heap a its.toArray := by
  cases k
  · obtain ⟨its, rv, p, _⟩ := I.tuple (SqT.of (show H a = some (.tup xs) from q))
    exact ⟨its, rv, p⟩
  · obtain ⟨its, rv, p, _⟩ := I.list (SqL.of (show H a = some (.lst xs) from q))
    exact ⟨its, rv, p.isList⟩
def ItZ (ka kb : Bool) (a b : Addr) (xs ys : List V) : L2.It :=
  ⟨fun i H => SqK ka H a xs ∧ SqK kb H b ys ∧ i < xs.length ∧ i < ys.length,
    fun i H v H' => ∃ T x y, v = .ref T ∧ H T = none ∧ H' = upd H T (.tup [x, y]) ∧ xs[i]? = some x ∧ ys[i]? = some y,
    fun i H => SqK ka H a xs ∧ SqK kb H b ys ∧ i ≤ xs.length ∧ i ≤ ys.length ∧ (i = xs.length ∨ i = ys.length)⟩
theorem turn_Z {P : Program} {w : World} {K : PySem.W.Frag} {elts : List Expr} {kk : Nat} {tpos : Pos} {ka kb : Bool} {a b z TI TO i1 i2 : Addr} {xs ys : List V} (D : ZipSep2 z TI TO i1 i2 [i1, a] [i2, b]) :
    Turn P w K (.Tuple elts kk tpos) (ItZ ka kb a b xs ys) [z, TI, TO, i1, i2] z (fun i h => IsZip h z TI TO .none ∧ IsTupOf2 h TI (.ref i1) (.ref i2) ∧ (∃ x y, IsTupOf2 h TO x y) ∧ ItK ka h i1 a i ∧ ItK kb h i2 b i) where
  mem := by simp
  obj := fun i h st c hc => by
    obtain ⟨hz, hTI, ⟨x, y, hTO⟩, h1, h2⟩ := st
    have e' : c = z ∨ c = TI ∨ c = TO ∨ c = i1 ∨ c = i2 := by simpa using hc
    rcases e' with rfl | rfl | rfl | rfl | rfl
    · exact ⟨_, hz, fun v q => nomatch q⟩
    · exact ⟨_, hTI, fun v q => nomatch q⟩
    · exact ⟨_, hTO, fun v q => nomatch q⟩
    · exact itK_obj h1
    · exact itK_obj h2
  keep := fun i h h' st k => by
    obtain ⟨hz, hTI, ⟨x, y, hTO⟩, h1, h2⟩ := st
    exact ⟨k z (by simp) _ hz, k TI (by simp) _ hTI, ⟨x, y, k TO (by simp) _ hTO⟩, itK_at h1 (k i1 (by simp)), itK_at h2 (k i2 (by simp))⟩
  item := by
    intro X hP hw hK hc i pins s σ H E I hf st hg
    subst hP hw hK
    obtain ⟨hz, hTI, ⟨x0, y0, hTO⟩, h1, h2⟩ := st
    obtain ⟨q1, q2, l1, l2⟩ := hg
    obtain ⟨its, rv, p⟩ := sqK_items I q1
    obtain ⟨its2, rv2, p2⟩ := sqK_items I q2
    have n1 : a ≠ i1 := fun e => by have := (hf i1 (by simp)).1; cases ka <;> simp_all [SqK]
    have n2 : b ≠ i2 := fun e => by have := (hf i2 (by simp)).1; cases kb <;> simp_all [SqK]
    have hh : X.A.in1.handled = none := I.ok.hd hc
    have hzl : z < s.heap.objs.size := Heap.lt_size hz
    have e1 := rv.length
    have e2 := rv2.length
    refine wpAny_pyNext_zipD2_item D (draws_k hh ka i1 a n1 its.toArray) (draws_k hh kb i2 b n2 its2.toArray) hz hTI hTO ⟨h1, p⟩ ⟨h2, p2⟩ (by simp; omega) (by simp; omega) fun x1 x2 h' tk y1 y2 z' TO' st1 st2 hT hsz hk => ?_
    refine ⟨_, rfl, wpAny_letOwnedTupleGo_zip (s := { s with heap := h', toks := tk }) z' fun h'' z'' sb => ?_⟩
    have hT2 : h''.get? s.heap.objs.size = some { cls := .type "tuple", data := .seq #[x1, x2] } := (sb.2 _ (Nat.ne_of_gt hzl)).trans hT
    have hx1 : its[i]? = some x1 := by simpa using y1
    have hx2 : its2[i]? = some x2 := by simpa using y2
    obtain ⟨v1, hv1, r1⟩ := vals_getV rv hx1
    obtain ⟨v2, hv2, r2⟩ := vals_getV rv2 hx2
    have new : ObjOk X.prog X.w (upd H s.heap.objs.size (.tup [v1, v2])) h'' s.heap.objs.size (.tup [v1, v2]) :=
      ⟨by show 2 ≤ sizeLine; decide, [x1, x2], .cons r1 (.cons r2 .nil), ⟨_, hT2, rfl, _, rfl⟩⟩
    have keep : ∀ c o, c ∉ [z, TI, TO, i1, i2] → s.heap.get? c = some o → h''.get? c = some o := fun c o hb q => by
      simp only [List.mem_cons, List.not_mem_nil, or_false, not_or] at hb
      exact (sb.2 c hb.1).trans (hk c o hb.1 hb.2.2.1 hb.2.2.2.1 hb.2.2.2.2 q)
    have I1 : Inv X pins σ (upd H s.heap.objs.size (.tup [v1, v2])) { s with heap := h'', toks := tk } := I.turnedNew (t' := tk) (ch := [z, TI, TO, i1, i2]) keep hf (Nat.le_refl _) new
    refine ⟨.ref s.heap.objs.size, _, I1, rfl, ⟨_, v1, v2, rfl, I.hok.fresh (Nat.le_refl _), rfl, hv1, hv2⟩, ⟨z'', ?_, ⟨x1, x2, ?_⟩, ?_, ?_⟩, fun c hcm => ?_⟩
    · exact (sb.2 _ D.TIz).trans (hk _ _ D.TIz D.TITO D.TIi1 D.TIi2 hTI)
    · exact (sb.2 _ D.TOz).trans TO'
    · exact itK_at st1.1 fun o q => (sb.2 _ D.zi1.symm).trans q
    · exact itK_at st2.1 fun o q => (sb.2 _ D.zi2.symm).trans q
    · have hlt : c < s.heap.objs.size := by
        have e' : c = z ∨ c = TI ∨ c = TO ∨ c = i1 ∨ c = i2 := by simpa using hcm
        rcases e' with rfl | rfl | rfl | rfl | rfl
        · exact hzl
        · exact Heap.lt_size hTI
        · exact Heap.lt_size hTO
        · obtain ⟨_, e, _⟩ := itK_obj h1; exact Heap.lt_size e
        · obtain ⟨_, e, _⟩ := itK_obj h2; exact Heap.lt_size e
      rw [upd_ne (Nat.ne_of_lt hlt)]
      exact (hf c hcm).1
  done := by
    intro X hP hw hK hc i pins s σ H E I hf st hg
    subst hP hw hK
    obtain ⟨hz, hTI, ⟨x0, y0, hTO⟩, h1, h2⟩ := st
    obtain ⟨q1, q2, l1, l2, hend⟩ := hg
    obtain ⟨its, rv, p⟩ := sqK_items I q1
    obtain ⟨its2, rv2, p2⟩ := sqK_items I q2
    have n1 : a ≠ i1 := fun e => by have := (hf i1 (by simp)).1; cases ka <;> simp_all [SqK]
    have n2 : b ≠ i2 := fun e => by have := (hf i2 (by simp)).1; cases kb <;> simp_all [SqK]
    have hh : X.A.in1.handled = none := I.ok.hd hc
    have e1 := rv.length
    have e2 := rv2.length
    refine wpAny_pyNext_zipD2_end D (draws_k hh ka i1 a n1 its.toArray) (draws_k hh kb i2 b n2 its2.toArray) hz hTI hTO ⟨h1, p⟩ ⟨h2, p2⟩ (by simp; omega) (by simp; omega) (by simp; omega) fun h' tk hk => ⟨rfl, ?_⟩
    refine I.turnedL (t' := tk) (ch := [z, TI, TO, i1, i2]) (fun c o hb q => ?_) hf
    simp only [List.mem_cons, List.not_mem_nil, or_false, not_or] at hb
    exact hk c o hb.1 hb.2.2.1 hb.2.2.2.1 hb.2.2.2.2 q
  self := fun A i s Q E st h => wpAny_pyIter_zip st.1 h
end Ev
namespace Ev
open PySem PySem.Spec PyProof.Rows L2
def obK (k : Bool) (l : Addr) : Obj := match k with
  | true => { cls := .type "list_iterator", data := .fields #[.ref l, .int 0 0] }
  | false => { cls := .type "tuple_iterator", data := .fields #[.ref l, .int 0 0] }
theorem begins_k (k : Bool) (l : Addr) (its : Array Value) : Begins (.ref l) (obK k l) fun h => HpK k h l its := by
  cases k
  · exact begins_tuple l its
  · exact begins_list l its
theorem itK_new {k : Bool} {h : Heap} {it l : Addr} (e : h.get? it = some (obK k l)) : ItK k h it l 0 := by
  cases k
  · exact ⟨_, e, rfl, rfl⟩
  · exact ⟨_, e, rfl, rfl⟩
theorem hpK_lt {k : Bool} {h : Heap} {l : Addr} {its : Array Value} (x : HpK k h l its) : l < h.objs.size := by
  cases k
  · obtain ⟨o, e, _⟩ := (show h.IsTuple l its from x)
    exact Heap.lt_size e
  · obtain ⟨o, e, _⟩ := (show h.IsList l its from x)
    exact Heap.lt_size e
def iZ (ta : TA) : TI := fun σ H R => ta σ H fun vs H1 => ∃ a b ka kb xs ys, vs = [.ref a, .ref b] ∧ SqK ka H1 a xs ∧ SqK kb H1 b ys ∧ R (ItZ ka kb a b xs ys) H1
theorem pi_Z {X : Cx} {e e2 : Expr} {ta : TA} {p pos tpos : Pos} {elts : List Expr} {kk : Nat} (hg : Gl X "zip") (hm : X.mg "zip" = none) (ha : PA X [e, e2] ta)
    (hs : starEach [e, e2] X.env = (false, eval e X.env) :: starEach [e2] X.env) (hpl : (backTo pos (starEach [e2] X.env)).any (·.1) = false) :
    PI X (.Tuple elts kk tpos) (.Call (.Name "zip" p) [e, e2] [] pos) (iZ ta) := by
  refine ⟨fun pins s σ H R I h => ?_⟩
  refine Call_ (ld_blt I hg hm boot_zip (callWith_type1 (thn (ha.run pos pins s σ H _ I h) fun us s1 ⟨vs, H1, I1, r1, q1⟩ => ?_) hs hpl))
  obtain ⟨a, b, ka, kb, xs, ys, ex, qa, qb, q⟩ := q1
  subst ex
  cases r1 with
  | cons r rr =>
    cases rr with
    | cons r' rr =>
      cases rr
      cases r
      cases r'
      obtain ⟨its, rv, p1⟩ := sqK_items I1 qa
      obtain ⟨its2, rv2, p2⟩ := sqK_items I1 qb
      have fresh5 : ∀ c, c ∈ [s1.heap.objs.size + 4, s1.heap.objs.size + 2, s1.heap.objs.size + 3, s1.heap.objs.size, s1.heap.objs.size + 1] → FpOk X pins H1 c := fun c hcm => by
        have hle : s1.heap.objs.size ≤ c := by
          simp only [List.mem_cons, List.not_mem_nil, or_false] at hcm
          rcases hcm with z | z | z | z | z
          · rw [z]; exact Nat.le_add_right _ _
          · rw [z]; exact Nat.le_add_right _ _
          · rw [z]; exact Nat.le_add_right _ _
          · rw [z]; exact Nat.le_refl _
          · rw [z]; exact Nat.le_add_right _ _
        exact I1.fpOk hle (I1.hok.fresh hle)
      have sep := zip_sep2 (N := s1.heap.objs.size) (fp1 := [a]) (fp2 := [b]) (fun c hc => by rw [List.mem_singleton.mp hc]; exact hpK_lt p1) (fun c hc => by rw [List.mem_singleton.mp hc]; exact hpK_lt p2)
      refine zip_begins2 (begins_k ka a its.toArray) (begins_k kb b its2.toArray) p1 p2 fun h' hz hTI hTO g1 g2 hsz hk => wpAny_pyIter_zip hz ?_
      have I2 : Inv X pins σ H1 { s1 with heap := h' } := I1.kept (t' := s1.toks) hk
      exact ⟨s1.heap.objs.size + 4, [s1.heap.objs.size + 4, s1.heap.objs.size + 2, s1.heap.objs.size + 3, s1.heap.objs.size, s1.heap.objs.size + 1], _, _, H1, rfl, I2, turn_Z (ka := ka) (kb := kb) sep, ⟨hz, hTI, ⟨_, _, hTO⟩, itK_new g1, itK_new g2⟩, fresh5, q⟩
section
variable {X : Cx} {fa ca : Nat → Addr} {W : WX} {Δ : Dn} {a b c tg : Expr} {ea eb ec : E} {pos : Pos}
theorem froz_k {K : PySem.W.Frag} {w : List Addr} {st : Store} {F : Hp} {x : V} {d : D} {l : List D} (nr : ∀ n, d ≠ .ref n) (r : RV K fa w F x d) (h : seqOf st d = some l) : ∃ p vs k, x = .ref p ∧ RVs K fa w F vs l ∧ SqK k F p vs := by
  obtain ⟨p, vs, e1, e2, e3⟩ := froz_of nr r h
  exact e3.elim (fun e3 => ⟨p, vs, true, e1, e2, e3⟩) fun e3 => ⟨p, vs, false, e1, e2, e3⟩
theorem sqK_le {F G : Hp} {k : Bool} {p : Addr} {vs : List V} (l : Le F G) (h : SqK k F p vs) : SqK k G p vs := by
  cases k <;> exact l _ _ h
theorem zipD_at {l l' : List D} {i : Nat} {d : D} (h : (zipD l l')[i]? = some d) : ∃ x y, l[i]? = some x ∧ l'[i]? = some y ∧ d = mkTup [x, y] := by
  unfold zipD at h
  rw [List.getElem?_zipWith] at h
  cases e1 : l[i]? with
  | none => rw [e1] at h; cases h
  | some x =>
    cases e2 : l'[i]? with
    | none => rw [e1, e2] at h; cases h
    | some y =>
      rw [e1, e2] at h
      cases h
      exact ⟨x, y, rfl, rfl, rfl⟩
theorem zipD_len (l l' : List D) : (zipD l l').length = min l.length l'.length := by
  unfold zipD
  rw [List.length_zipWith]
theorem iter_zip {K : PySem.W.Frag} {w0 : List Addr} {F : Hp} {ka kb : Bool} {p q : Addr} {xs ys : List V} {l l' : List D} (h1 : SqK ka F p xs) (h2 : SqK kb F q ys) (r1 : RVs K fa w0 F xs l) (r2 : RVs K fa w0 F ys l') :
    IterOk K fa ca w0 F (ItZ ka kb p q xs ys) (zipD l l') := by
  intro i hid w st H g hw le
  have s1 : SqK ka H p xs := sqK_le FZ.le (sqK_le le h1)
  have s2 : SqK kb H q ys := sqK_le FZ.le (sqK_le le h2)
  refine ⟨fun d e => ?_, fun hl => ?_⟩
  · obtain ⟨x, y, e1, e2, rfl⟩ := zipD_at e
    obtain ⟨v1, f1, t1⟩ := r1.get e1
    obtain ⟨v2, f2, t2⟩ := r2.get e2
    refine ⟨⟨s1, s2, (List.getElem?_eq_some_iff.mp f1).1, (List.getElem?_eq_some_iff.mp f2).1⟩, fun v H' hy => ?_⟩
    obtain ⟨T, x', y', rfl, hT, rfl, k1, k2⟩ := hy
    rw [f1] at k1; cases k1
    rw [f2] at k2; cases k2
    refine ⟨g.new hT, Ext.new g hT, mkTup_ok (FZ.new g hT) ?_⟩
    have l2 : Le F (FZ hid w st (upd H T (.tup [v1, v2]))) := le.trans (Ext.new g hT).le
    exact .cons (t1.mono hw l2) (.cons (t2.mono hw l2) .nil)
  · rw [zipD_len, ← r1.length, ← r2.length] at hl
    exact ⟨s1, s2, by omega, by omega, by omega⟩
theorem di_zip {elts : List Expr} {kk : Nat} {p tpos : Pos} (hg : Gl X "zip") (hm : X.mg "zip" = none) (ha : DE X fa ca W Δ a ea) (hb : DE X fa ca W Δ b eb) (hs : starEach [a, b] X.env = (false, eval a X.env) :: starEach [b] X.env) (hs2 : starEach [b] X.env = (false, eval b X.env) :: starEach [] X.env) :
    DI X fa ca W Δ (.Tuple elts kk tpos) (.Call (.Name "zip" p) [a, b] [] pos) (.zip ea eb) := by
  refine PI.imp (pi_Z hg hm (pa_cons ha (pa_cons hb pa_nil hs2) hs) hs (by rw [hs2]; rfl)) fun σ H R ⟨hid, w, st, ρ, g0, s0, p⟩ => ?_
  simp only [evI] at p
  refine ⟨hid, w, st, ρ, g0, s0, (PostG.bind (rel := relV X.K fa) p).mono fun x H1 ⟨d1, w1, st1, e1, g1, r1, _, p1⟩ => ?_⟩
  refine ⟨hid, w1, st1, ρ, g1, e1.slots s0, (PostG.bind (rel := relV X.K fa) p1).mono fun y H2 ⟨d2, w2, st2, e2, g2, r2, _, p2⟩ => ?_⟩
  have go : (∀ n, d1 ≠ .ref n) → (∀ n, d2 ≠ .ref n) → PostG X.K fa ca (relI X.K fa ca) hid w2 st2 H2 (fun c d H' => W c d σ H') (match seqOf st2 d1, seqOf st2 d2 with | some l, some l' => Rs.ok (zipD l l') st2 | _, _ => .bad) R →
      ∃ a b ka kb xs ys, [x, y] = [V.ref a, V.ref b] ∧ SqK ka H2 a xs ∧ SqK kb H2 b ys ∧ R (ItZ ka kb a b xs ys) H2 := fun n1 n2 p2 => by
    cases q1 : seqOf st2 d1 with
    | none => rw [q1] at p2; exact p2.elim
    | some l =>
      cases q2 : seqOf st2 d2 with
      | none => rw [q1, q2] at p2; exact p2.elim
      | some l' =>
        rw [q1, q2] at p2
        obtain ⟨A, xs, ka, rfl, rx, hx⟩ := froz_k n1 (e2.rv r1) q1
        obtain ⟨B, ys, kb, rfl, ry, hy⟩ := froz_k n2 r2 q2
        exact ⟨A, B, ka, kb, xs, ys, rfl, sqK_le FZ.le hx, sqK_le FZ.le hy, p2.here g2 (iter_zip hx hy rx ry)⟩
  cases d1 <;> cases d2 <;> first | exact p2.elim | exact go (fun n z => by cases z) (fun n z => by cases z) p2
/-- enumerate of a list that does not change -/
theorem iter_enum {K : PySem.W.Frag} {w0 : List Addr} {F : Hp} {p : Addr} {vs : List V} {l : List D} (h1 : F p = some (.lst vs)) (h2 : RVs K fa w0 F vs l) : IterOk K fa ca w0 F (Ite K p) (enumD l) := by
  intro i hid w st H g hw le
  have hp : H p = some (.lst vs) := FZ.le _ _ (le _ _ h1)
  refine ⟨fun d e => ?_, fun hl => ⟨vs, SqL.of hp, ?_⟩⟩
  · unfold enumD at e
    rw [List.getElem?_zipWith] at e
    cases e1 : (List.range l.length)[i]? with
    | none => rw [e1] at e; cases e
    | some j =>
      have hj : j = i ∧ i < l.length := by
        obtain ⟨q1, q2⟩ := List.getElem?_eq_some_iff.mp e1
        rw [List.length_range] at q1
        rw [List.getElem_range] at q2
        exact ⟨q2.symm, q1⟩
      obtain ⟨rfl, hlt⟩ := hj
      rw [e1, List.getElem?_eq_getElem hlt] at e
      cases e
      obtain ⟨v, f1, t1⟩ := h2.get (List.getElem?_eq_getElem hlt)
      refine ⟨⟨vs, v, SqL.of hp, f1⟩, fun x H' y => ?_⟩
      obtain ⟨T, v', rfl, hT, rfl, hv⟩ := y
      have := hv vs (SqL.of hp)
      rw [f1] at this; cases this
      refine ⟨g.new hT, Ext.new g hT, mkTup_ok (FZ.new g hT) ?_⟩
      exact .cons (.py (.int _)) (.cons (t1.mono hw (le.trans (Ext.new g hT).le)) .nil)
  · unfold enumD at hl
    rw [List.length_zipWith, List.length_range, Nat.min_self] at hl
    rw [h2.length]
    exact Nat.le_of_eq hl
theorem di_enm {elts : List Expr} {kk : Nat} {p tpos : Pos} (hg : Gl X "enumerate") (hm : X.mg "enumerate" = none) (ha : DE X fa ca W Δ a ea) (hs : starEach [a] X.env = (false, eval a X.env) :: starEach [] X.env) :
    DI X fa ca W Δ (.Tuple elts kk tpos) (.Call (.Name "enumerate" p) [a] [] pos) (.enm ea) := by
  refine PI.imp (pi_enum hg hm (pa_cons ha pa_nil hs) hs) fun σ H R ⟨hid, w, st, ρ, g0, s0, p⟩ => ?_
  simp only [evI] at p
  refine ⟨hid, w, st, ρ, g0, s0, (PostG.bind (rel := relV X.K fa) p).mono fun x H1 ⟨d1, w1, st1, e1, g1, r1, _, p1⟩ => ?_⟩
  have go : (∀ n, d1 ≠ .ref n) → PostG X.K fa ca (relI X.K fa ca) hid w1 st1 H1 (fun c d H' => W c d σ H') (.of ((listOf st1 d1).map enumD) st1) R → ∃ a xs, [x] = [V.ref a] ∧ SqL X.K H1 a xs ∧ R (Ite X.K a) H1 := fun nr p1 => by
    obtain ⟨L, e, p1⟩ := p1.of
    obtain ⟨l, e2, rfl⟩ := Option.map_eq_some_iff.mp e
    cases r1 with
    | @py _ dd hd =>
      cases dd with
      | list ds =>
        simp only [listOf, Option.some.injEq] at e2
        subst e2
        cases hd with
        | lst hs ha => exact ⟨_, _, rfl, SqL.of (FZ.le _ _ hs), p1.here g1 (iter_enum hs (RVs.of_dq ha))⟩
      | _ => simp [listOf] at e2
    | ref _ => exact absurd rfl (nr _)
    | fn => simp [listOf] at e2
    | tp _ _ => simp [listOf] at e2
    | scr _ => simp [listOf] at e2
    | ob _ _ => simp [listOf] at e2
  cases d1 <;> first | exact p1.elim | exact go (fun n z => by cases z) p1
end
end Ev
set_option maxHeartbeats 1000000
namespace Ev
open PySem PySem.Spec PyProof.Rows L2
theorem lookup_rel {α β : Type} {R : α → β → Prop} {f : Str} : ∀ {ps : List (Str × α)} {qs : List (Str × β)} {d : β}, Paired (fun (p : Str × α) (q : Str × β) => p.1 = q.1 ∧ R p.2 q.2) ps qs → qs.lookup f = some d → ∃ v, ps.lookup f = some v ∧ R v d
  | _, _, _, .nil, h => by cases h
  | _, _, d, .cons (a := p) (b := q) h t, e => by
    obtain ⟨h1, h2⟩ := h
    obtain ⟨p1, p2⟩ := p
    obtain ⟨q1, q2⟩ := q
    simp only at h1 h2
    subst h1
    rw [List.lookup_cons] at e ⊢
    cases hb : (f == p1) with
    | true => rw [hb] at e; cases e; exact ⟨p2, rfl, h2⟩
    | false =>
      rw [hb] at e
      simp only at e ⊢
      exact lookup_rel t e
theorem putF_rel {α β : Type} {R : α → β → Prop} {f : Str} {v : α} {d : β} {pf : Str → α → List (Str × α) → List (Str × α)} {pg : Str → β → List (Str × β) → List (Str × β)} (h0 : ∀ f v, pf f v [] = [(f, v)]) (h1 : ∀ f v g x r, pf f v ((g, x) :: r) = if g = f then (g, v) :: r else (g, x) :: pf f v r)
    (h2 : ∀ f v, pg f v [] = [(f, v)]) (h3 : ∀ f v g x r, pg f v ((g, x) :: r) = if g = f then (g, v) :: r else (g, x) :: pg f v r) (hv : R v d) :
    ∀ {ps : List (Str × α)} {qs : List (Str × β)}, Paired (fun (p : Str × α) (q : Str × β) => p.1 = q.1 ∧ R p.2 q.2) ps qs → Paired (fun (p : Str × α) (q : Str × β) => p.1 = q.1 ∧ R p.2 q.2) (pf f v ps) (pg f d qs)
  | _, _, .nil => by rw [h0, h2]; exact .cons ⟨rfl, hv⟩ .nil
  | _, _, .cons (a := p) (b := q) h t => by
    obtain ⟨e1, e2⟩ := h
    obtain ⟨p1, p2⟩ := p
    obtain ⟨q1, q2⟩ := q
    simp only at e1 e2
    subst e1
    rw [h1, h3]
    by_cases hg : p1 = f
    · rw [if_pos hg, if_pos hg]; exact .cons ⟨rfl, hv⟩ t
    · rw [if_neg hg, if_neg hg]; exact .cons ⟨rfl, e2⟩ (putF_rel h0 h1 h2 h3 hv t)
/-- what must be known of the classes: cs, with these names of fields -/
def ClsOk (K : PySem.W.Frag) (fa : Nat → Addr) (c : Nat) (fs : List Str) : Prop := Cls K (fa (cOff + c)) ∧ ∀ f ∈ fs, NoAttr K (fa (cOff + c)) f
section
variable {X : Cx} {fa ca : Nat → Addr} {W : WX} {Δ : Dn} {fu : Nat} {a b e : Expr} {ea eb ec : E} {pos : Pos}
theorem de_fld {f : Str} {cs : List Nat} (hcs : ∀ c ∈ cs, Cls X.K (fa (cOff + c)) ∧ NoAttr X.K (fa (cOff + c)) f) (ha : DE X fa ca W Δ a ea) (hb : attributeBase a f X.env (eval a X.env) = eval a X.env) : DE X fa ca W Δ (.Attribute a f pos) (.fld ea f cs) := by
  refine PE.imp (pe_fld ha hb) fun σ H Q ⟨hid, w, st, ρ, g0, s0, p⟩ => ?_
  simp only [ev] at p
  refine ⟨hid, w, st, ρ, g0, s0, (PostG.bind (rel := relV X.K fa) p).mono fun x H1 ⟨d1, w1, st1, e1, g1, r1, _, p1⟩ => ?_⟩
  split at p1
  · rename_i n
    split at p1
    · rename_i c fs hc
      split at p1
      · rename_i hcc
        obtain ⟨z, ez, p1⟩ := p1.of
        obtain ⟨A, eA, dx, fv, hA, pf⟩ := g1.cell hc
        cases r1 with
        | ref hw =>
          rw [eA] at hw; cases hw
          obtain ⟨v, hv, rv⟩ := lookup_rel pf ez
          obtain ⟨k1, k2⟩ := hcs c (List.contains_iff_mem.mp hcc)
          exact ⟨_, _, dx, fv, v, rfl, hA, k1, k2, hv, p1.here g1 rv⟩
      · exact p1.elim
    · exact p1.elim
  · rename_i c fs
    split at p1
    · rename_i hcc
      obtain ⟨z, ez, p1⟩ := p1.of
      obtain ⟨y, ey, rfl⟩ := Option.map_eq_some_iff.mp ez
      cases r1 with
      | ob hF pf =>
        obtain ⟨v, hv, rv⟩ := lookup_rel pf ey
        obtain ⟨k1, k2⟩ := hcs _ (List.contains_iff_mem.mp hcc)
        exact ⟨_, _, _, _, v, rfl, FZ.le _ _ hF, k1, k2, hv, p1.here g1 (.py rv)⟩
    · exact p1.elim
  · exact p1.elim
theorem ds_stF {f : Str} {cs : List Nat} {pos' : Pos} (hcs : ∀ c ∈ cs, Cls X.K (fa (cOff + c)) ∧ NoAttr X.K (fa (cOff + c)) f) (ha : DE X fa ca W Δ a ea) (he : DE X fa ca W Δ e ec) (hs : swapsWith e (some (.Attribute a f pos')) pos.line X.env = pure false) :
    DS X fa ca W Δ fu (.Assign [.Attribute a f pos'] e pos) (.stF ea f cs ec) := PS.imp (ps_fld ha he hs) fun D σ H ⟨hid, w, st, ρ, g, s, p⟩ => by
  simp only [ex] at p
  refine ⟨hid, w, st, ρ, g, s, (PostS.to (rel := relV X.K fa) s p).mono fun y H1 ⟨d1, w1, st1, e1, g1, r1, _, p1⟩ => ?_⟩
  have s1 := e1.slots s
  refine ⟨hid, w1, st1, ρ, g1, s1, (PostS.to (rel := relV X.K fa) s1 p1).mono fun x H2 ⟨d2, w2, st2, e2, g2, r2, _, p2⟩ => ?_⟩
  split at p2
  · rename_i n
    split at p2
    · rename_i c fs hc
      split at p2
      · rename_i hcc
        obtain ⟨h1, h2⟩ := Bool.and_eq_true_iff.mp hcc
        rw [decide_eq_true_eq] at h2
        obtain ⟨A, eA, dx, fv, hA, pf⟩ := g2.cell hc
        cases r2 with
        | ref hw =>
          rw [eA] at hw; cases hw
          obtain ⟨k1, k2⟩ := hcs c (List.contains_iff_mem.mp h1)
          refine ⟨_, _, dx, fv, rfl, hA, k1, k2, by rw [Paired.length pf]; omega, ?_⟩
          have pf2 : Paired (fun (p : Str × V) (q : Str × Ev.D) => p.1 = q.1 ∧ RV X.K fa w2 (FZ hid w2 st2 H2) p.2 q.2) (L2.putF f y fv) (Ev.putF f d1 fs) :=
            putF_rel (R := RV X.K fa w2 (FZ hid w2 st2 H2)) (pf := L2.putF) (pg := Ev.putF) (f := f) (v := y) (d := d1) (fun _ _ => rfl) (fun _ _ _ _ _ => rfl) (fun _ _ => rfl) (fun _ _ _ _ _ => rfl) (e2.rv r1) pf
          have x4 := Ext.write (o := .ins (fa (cOff + c)) dx (L2.putF f y fv)) (c' := .ins c (Ev.putF f d1 fs)) g2 eA hc trivial trivial
          exact (p2.base x4).here (g2.write eA hc trivial trivial ⟨dx, _, upd_same, pf2⟩) (x4.slots (e2.slots s1))
      · exact p2.elim
    · exact p2.elim
  · exact p2.elim
theorem run_makeG {k : Nat} {f C : Addr} {fd : FuncData} {ps : List Str} {sp : Sp} {dvs : List V} {ds : List Value} {E : L2.St → XK} {pins : List (Addr × Obj)} {σ : L2.St} {H : Hp} {s : Shared} {Q : VK} {us : List Value} {vs : List V} (M : Mk X.K C f) (F : FnG X.prog X.w X.K X.mg X.base k f fd ps sp) (hr : RoomG (k + 1) X.A) (hb : Binds X.K fd ps ds) (hd : Vals dvs ds)
    (hx : PassesAt (L2.CX X.prog X.w) X σ (E σ)) (I : Inv X pins σ H s) (r : Vals vs us)
    (h : ∀ x dx, H x = none → H dx = none → dx ≠ x → sp (.ref x :: (vs ++ dvs)) (upd (upd H dx (.own x)) x (.ins C dx [])) (fun v H2 => v = .non ∧ Q (.ref x) H2) (E σ)) :
    wpAny (model X.prog X.w) X.A (call (.ref C) us) (EP X pins σ Q) X.xe s := by
  have hq := h (s.heap.objs.size + 1) s.heap.objs.size (I.hok.fresh (Nat.le_succ _)) (I.hok.fresh (Nat.le_refl _)) (Nat.ne_of_lt (Nat.lt_succ_self _))
  have I2 := Inv.made (C := C) I
  have r2 : Vals (V.ref (s.heap.objs.size + 1) :: (vs ++ dvs)) (Value.ref (s.heap.objs.size + 1) :: (us ++ ds)) := .cons rfl (r.append hd)
  have hl : (Value.ref (s.heap.objs.size + 1) :: us ++ ds).length = ps.length := r2.length.symm.trans (F.len _ _ _ _ hq)
  have room : RoomG k (X.A.under (.builtin "type.__call__" ⟨.ref C :: us, []⟩)) := ⟨hr.r.make C us [], hr.g⟩
  refine wpAny_call (make_map (f := f) I.kIn M.makes M.init (beq_iff_eq.mp M.fn) (codeAny_mono (F.run _ X.stack _ _ ⟨Value.ref (s.heap.objs.size + 1) :: us, []⟩ (Value.ref (s.heap.objs.size + 1) :: (us ++ ds)) _ _ (E σ) room
    (I2.env0.make C us []) (hb _ (Value.ref (s.heap.objs.size + 1) :: us) I2.kIn hl) r2 hq) fun r s' hq' => ?_))
  cases r with
  | error e => exact hx pins _ _ e s' I2 hq'
  | ok fl =>
    cases fl with
    | ret u =>
      obtain ⟨v, H', I3, rv, ev, q3⟩ := I2.after hq'
      subst ev
      exact ⟨rv, ⟨V.ref (s.heap.objs.size + 1), H', I3, rfl, q3⟩⟩
    | next => exact hq'.elim
    | brk => exact hq'.elim
    | cont => exact hq'.elim
def tMakeG (C : Addr) (sp : Sp) (dvs : List V) (E : L2.St → XK) (t : TA) : TE := fun σ H Q => t σ H fun vs H1 => ∀ x dx, H1 x = none → H1 dx = none → dx ≠ x →
  sp (.ref x :: (vs ++ dvs)) (upd (upd H1 dx (.own x)) x (.ins C dx [])) (fun v H2 => v = .non ∧ Q (.ref x) H2) (E σ)
theorem pe_makeG {k : Nat} {f C : Addr} {fd : FuncData} {ps : List Str} {sp : Sp} {dvs : List V} {ds : List Value} {E : L2.St → XK} {x : Str} {p pos : Pos} {e : Expr} {es : List Expr} {t : TA} (M : Mk X.K C f) (F : FnG X.prog X.w X.K X.mg X.base k f fd ps sp) (hr : RoomG (k + 1) X.A) (hg : Gl X x) (hm : X.mg x = some (.ref C)) (hb : Binds X.K fd ps ds) (hd : Vals dvs ds) (hx : ∀ σ, PassesAt (L2.CX X.prog X.w) X σ (E σ))
    (ha : PA X (e :: es) t) (hdb : (x == ("__debug__" : Str)) = false) (he : starEach (e :: es) X.env = (false, eval e X.env) :: starEach es X.env) (hpl : (backTo pos (starEach es X.env)).any (·.1) = false) :
    PE X (.Call (.Name x p) (e :: es) [] pos) (tMakeG C sp dvs E t) := by
  refine ⟨fun pins s σ H Q I h => ?_⟩
  refine wpAny_Call_Name_kw (ld_glob I hg hm ?_ hdb)
  exact PySem.W.callWith_K (h₀ := X.base) I.ok.mod.kin M.kp (thn (ha.run pos pins s σ H _ I h) fun us s1 ⟨vs, H1, I1, r, q⟩ => ⟨I1.kIn, run_makeG M F hr hb hd (hx σ) I1 r q⟩) he hpl
theorem pysF_ok {K : PySem.W.Frag} {w : List Addr} {F : Hp} : ∀ {fv : List (Str × V)} {fs : List (Str × Ev.D)} {ps : List (Str × PD)}, Paired (fun (p : Str × V) (q : Str × Ev.D) => p.1 = q.1 ∧ RV K fa w F p.2 q.2) fv fs → pysF fs = some ps → Paired (fun (p : Str × V) (q : Str × PD) => p.1 = q.1 ∧ Dq F p.2 q.2) fv ps
  | _, _, _, .nil, h => by cases h; exact .nil
  | _, (f, .py d) :: r, ps, .cons (a := p0) h t, e => by
    simp only [pysF, Option.map_eq_some_iff] at e
    obtain ⟨qs, e1, rfl⟩ := e
    obtain ⟨p1, p2⟩ := p0
    obtain ⟨h1, h2⟩ := h
    refine .cons ⟨h1, ?_⟩ (pysF_ok t e1)
    simp only at h2 ⊢
    cases h2 with
    | py q => exact q
  | _, (f, .ref _) :: r, _, _, e => by simp [pysF] at e
  | _, (f, .fn _) :: r, _, _, e => by simp [pysF] at e
  | _, (f, .tp _) :: r, _, _, e => by simp [pysF] at e
  | _, (f, .scr _) :: r, _, _, e => by simp [pysF] at e
  | _, (f, .ob _ _) :: r, _, _, e => by simp [pysF] at e
theorem de_mk {k f c ar : Nat} {x : Str} {fd : FuncData} {ps : List Str} {e : Expr} {es : List Expr} {ee : Es} {pp pos : Pos} (M : Mk X.K (fa (cOff + c)) (fa f)) (F : FnG X.prog X.w X.K X.mg X.base k (fa f) fd ps (spF X.K fa ca Δ f ar)) (hr : RoomG (k + 1) X.A) (hg : Gl X x) (hm : X.mg x = some (.ref (fa (cOff + c))))
    (hb : Binds X.K fd ps []) (tk : Takes X W) (hl : ee.len + 1 = ar) (hdb : (x == ("__debug__" : Str)) = false) (ha : DA X fa ca W Δ (e :: es) ee)
    (he : starEach (e :: es) X.env = (false, eval e X.env) :: starEach es X.env) (hpl : (backTo pos (starEach es X.env)).any (·.1) = false) : DE X fa ca W Δ (.Call (.Name x pp) (e :: es) [] pos) (.mk c f ee) := by
  refine PE.imp (pe_makeG (dvs := []) M F hr hg hm hb .nil (passAt tk) ha hdb he hpl) fun σ H Q ⟨hid, w, st, ρ, g0, s0, p⟩ => ?_
  simp only [ev] at p
  refine ⟨hid, w, st, ρ, g0, s0, (PostG.bind (rel := relA X.K fa) p).mono fun xs H1 ⟨ds, w1, st1, e1, g1, r1, e2, p1⟩ x dx nx ndx nex => ?_⟩
  have g2 := g1.new (o := .own x) ndx
  have nx2 : upd H1 dx (.own x) x = none := by rw [upd_ne (Ne.symm nex)]; exact nx
  have g3 := g2.aside (o := .ins (fa (cOff + c)) dx []) nx2
  have g4 := g3.toCell (c := .ins c []) trivial (g2.noth nx2) ⟨dx, [], upd_same, .nil⟩
  have le : Le (FZ hid w1 st1 H1) (FZ hid (w1 ++ [x]) (st1 ++ [.ins c []]) (upd (upd H1 dx (.own x)) x (.ins (fa (cOff + c)) dx []))) := (Ext.new g1 ndx).le.trans ((FZ.aside g2 nx2).trans (Ext.toCell g3.len trivial))
  have pre : ∀ (n : Nat) (a : Addr), w1[n]? = some a → (w1 ++ [x])[n]? = some a := fun n a h => pre_get (List.prefix_append _ _) h
  have x0 : Ext hid w1 st1 H1 (w1 ++ [x]) (st1 ++ [.ins c []]) (upd (upd H1 dx (.own x)) x (.ins (fa (cOff + c)) dx [])) :=
    ⟨List.prefix_append _ _, le, fun a h => by
      have z1 : a ≠ x := fun z => g2.noth nx2 (by rw [← z]; exact h)
      have z2 : a ≠ dx := fun z => g1.noth ndx (by rw [← z]; exact h)
      rw [upd_ne z1, upd_ne z2]⟩
  have hx : (w1 ++ [x])[st1.length]? = some x := by rw [← g1.len]; simp
  refine ⟨hid, w1 ++ [x], st1 ++ [.ins c []], .ref st1.length :: ds, g4, ?_, ?_, ?_⟩
  · rw [List.append_nil]
    exact .cons (.ref hx) (r1.mono pre le)
  · rw [List.length_cons, evs_len ee e2, hl]
  · generalize Δ f (.ref st1.length :: ds) (st1 ++ [.ins c []]) = R at p1
    cases R with
    | bad => exact p1.elim
    | ex e st' => exact fun cls dd w' H' y g rx => p1 cls dd w' H' (x0.trans y) g rx
    | ok d st' =>
      intro v w' H' y g rv
      simp only [Rs.bind_ok] at p1
      split at p1
      · cases rv with
        | py q =>
          cases q
          refine ⟨rfl, ?_⟩
          unfold made at p1
          split at p1
          · rename_i c' fs hc
            split at p1
            · rename_i hcc
              obtain ⟨h1, h2⟩ := Bool.and_eq_true_iff.mp hcc
              obtain ⟨h3, h4⟩ := Bool.and_eq_true_iff.mp h2
              rw [decide_eq_true_eq] at h1 h3
              subst h1
              obtain ⟨pf, epf⟩ : ∃ pf, pysF fs = some pf := by
                cases q : pysF fs with
                | none => rw [q] at p1; exact p1.elim
                | some pf => exact ⟨pf, rfl⟩
              rw [epf] at p1
              obtain ⟨A, eA, dx', fv, hA, pr⟩ := g.cell hc
              have hA2 : A = x := by
                have q1 := pre_get y.pre hx
                rw [eA] at q1
                exact Option.some.inj q1
              subst hA2
              have gc := g.cut (n := st1.length) h4
              have xc := (x0.trans y).cut (n := st1.length) (by rw [g1.len]; exact Nat.le_refl _)
              refine p1 (.ref A) _ H' xc gc ?_
              have hnl : ¬ Live (w'.take st1.length) (st'.take st1.length) A := by
                rintro ⟨m, c2, q1, _, _⟩
                rw [List.getElem?_take] at q1
                split at q1
                · rename_i hm2
                  have := w_inj g.nd eA q1
                  omega
                · cases q1
              have hnh : A ∉ hid := fun z => (g.asd A z).1 (List.mem_of_getElem? eA)
              refine .ob (FZ.at.mpr ⟨hnl, hnh, hA⟩) (Paired.mapP (pysF_ok pr epf) fun _ _ z => ⟨z.1, Dq.mono FZ.cut z.2⟩)
            · exact p1.elim
          · exact p1.elim
      · exact p1.elim
theorem de_gint {x : Str} {i : Int} (hg : Gl X x) (hm : ∃ t, X.mg x = some (.int i t)) (hd : (x == ("__debug__" : Str)) = false) : DE X fa ca W Δ (.Name x pos) (.con (.int i)) := by
  obtain ⟨t, hm⟩ := hm
  exact de_con (pe_glob (v := .int i) hg hm ⟨t, rfl⟩ hd) fun _ => .int i
theorem de_gstr {x y : Str} (hg : Gl X x) (hm : ∃ t, X.mg x = some (.str y t)) (hd : (x == ("__debug__" : Str)) = false) : DE X fa ca W Δ (.Name x pos) (.con (.str y)) := by
  obtain ⟨t, hm⟩ := hm
  exact de_con (pe_glob (v := .str y) hg hm ⟨t, rfl⟩ hd) fun _ => .str y
theorem dss_drop {js : List Nat} {l : List Stmt} {cr : Ss} (h : DSs X fa ca W Δ fu l cr) : DSs X fa ca W Δ fu l (.cons (.drop js) cr) := by
  refine PSs.imp h fun D σ H ⟨hid, w, st, ρ, g, s, p⟩ => ?_
  refine ⟨hid, w, st, wipe ρ js, g, ⟨by rw [wipeD_len]; exact s.1, fun i d e => s.2 i d (wipeD_get e).1⟩, ?_⟩
  exact p
end
end Ev
set_option maxHeartbeats 1000000
namespace Ev
open PySem PySem.Spec PyProof.Rows L2
section
variable {X : Cx} {fa ca : Nat → Addr} {W : WX} {Δ : Dn} {fu : Nat} {a b c e : Expr} {es : List Expr} {ea eb ec : E} {pos : Pos}
theorem RVs.rep {K : PySem.W.Frag} {w : List Addr} {F : Hp} {vs : List V} {ds : List Ev.D} (h : RVs K fa w F vs ds) : ∀ n : Nat, RVs K fa w F (List.replicate n vs).flatten (List.replicate n ds).flatten
  | 0 => .nil
  | n + 1 => by
    rw [List.replicate_succ, List.replicate_succ, List.flatten_cons, List.flatten_cons]
    exact h.append (RVs.rep h n)
/-- [..] * n -/
theorem dl_rep {ee : Es} {p1 : Pos} (hl : ee.len ≤ 1000) (h : DA X fa ca W Δ es ee) (hn : DE X fa ca W Δ b eb) : DL X fa ca W Δ (.BinOp (.List es p1) .Mult b pos) (.rep ee eb) := by
  refine PE.imp (pe_op op_rep (pe_lst h) hn) fun σ H Q ⟨hid, w, st, ρ, g0, s0, p⟩ => ?_
  simp only [evL] at p
  refine ⟨hid, w, st, ρ, g0, s0, (PostL.bind (rel := relA X.K fa) p).mono fun xs H1 ⟨ds, w1, st1, e1, g1, r1, e2, p1⟩ => ⟨?_, fun q hq => ?_⟩⟩
  · rw [r1.length, evs_len ee e2, sizeLine_eq]; omega
  · have x1 := Ext.new (o := .lst xs) g1 hq
    refine ⟨hid, w1, st1, ρ, g1.new hq, x1.slots (e1.slots s0), (PostL.bind (rel := relV X.K fa) (p1.base x1)).mono fun y H3 ⟨d3, w3, st3, e3, g3, r3, _, p3⟩ => ?_⟩
    have hq3 : H3 q = some (.lst xs) := FZ.le _ _ (e3.le _ _ (FZ.new g1 hq))
    have rx3 := e3.rvs (x1.rvs r1)
    split at p3
    · rename_i k
      split at p3
      · rename_i hk
        obtain ⟨k1, k⟩ := Bool.and_eq_true_iff.mp hk
        obtain ⟨k2, k3⟩ := Bool.and_eq_true_iff.mp k
        rw [decide_eq_true_eq] at k1 k2 k3
        cases int_rv r3
        refine ⟨q, _, xs, rfl, rfl, hq3, by omega, by omega, by rw [r1.length, sizeLine_eq]; exact k3, fun p hp => p3.new g3 hp (rx3.rep _)⟩
      · exact p3.elim
    · exact p3.elim
def tDispT (tk tv : TE) : TE := fun σ H Q => ∀ p, H p = none → tk σ (upd H p (.dT [])) fun x H1 => tv σ H1 fun y H2 => H2 p = some (.dT []) ∧ ∃ b ks, x = .ref b ∧ H2 b = some (.tup (ks.map kV)) ∧ Q (.ref p) (upd H2 p (.dT [(ks, y)]))
theorem pe_dispT {k v : Expr} {tk tv : TE} (hu : X.A.units + 1 < cLine) (hk : PE X k tk) (hv : PE X v tv) : PE X (.Dict [some k] [v] pos) (tDispT tk tv) := by
  refine ⟨fun pins s σ H Q I q => ?_⟩
  have hn := I.hok.fresh (Nat.le_refl s.heap.objs.size)
  have I1 := I.laid (a := s.heap.objs.size) (o := .dT []) (h' := s.heap.push { cls := .type "dict", data := .dict #[] }) (t' := s.toks) (fun _ _ q => Heap.get?_push_of_some _ q) (Nat.le_refl _) (dt_empty s.heap I.big)
  rw [arm_eval_Dict, zip_pairTrees [some k] [v] X.env pos rfl rfl, dictDisplay_pairs (pairTrees [some k] [v] X.env pos) (fun z => by cases z) (show 1 < 17 by omega)]
  refine wpAny_bind (wpAny_standAt (wpAny_bind (wpAny_subDictH (knd := tupleKind (mixKind X.prog X.w)) (Q := fun d s' => wpAny (model X.prog X.w) X.A (pure (Value.ref d)) (EP X pins σ Q) X.xe s') (show X.A.units < cLine by omega) (show 1 ≤ 15 by omega) ?_)))
  refine pairTrees_cons_walk (thn (hk.run pins _ σ _ _ I1 (q _ hn)) fun u s1 ⟨x, H1, I2, rx, q1⟩ => thn (hv.run pins s1 σ H1 _ I2 q1) fun w2 s2 ⟨y, H2, I3, ry, q2⟩ => pairTrees_nil_walk ?_)
  obtain ⟨hp, b, ks, ex, eb, q3⟩ := q2
  subst ex
  obtain rfl : u = Value.ref b := rx
  obtain ⟨z, hd, xs, rel, dd⟩ := dt_of I3.hok hp
  cases rel
  refine ⟨[(ks, b, w2)], ⟨rfl, rfl, key_of I3.hok eb, trivial⟩, dd, fun h' tk' dd' hs => wpAny_pure ⟨.ref s.heap.objs.size, _, ?_, rfl, q3⟩⟩
  have e0 : storedAllH [] [(ks, b, w2)] = [(ks, b, w2)] := rfl
  rw [e0] at dd'
  obtain ⟨o, es, ep, h1, h2, h3, h4, h5, h6⟩ := dd'
  have nb : b ≠ s.heap.objs.size := L2.ne_of eb hp (by intro z; cases z)
  exact d_write I3 (by rw [hp]; exact True.intro) hs ⟨o, h1⟩ ⟨by show 1 ≤ sizeLine; decide, hd, [(ks, b, w2)], .cons ⟨rfl, by rw [upd_ne nb]; exact eb, ry⟩ .nil, o, es, ep, h1, h2, h3, h4, h6⟩
theorem de_dlit {k v : Expr} {ek ew : E} (hu : X.A.units + 1 < cLine) (hk : DE X fa ca W Δ k ek) (hv : DE X fa ca W Δ v ew) : DE X fa ca W Δ (.Dict [some k] [v] pos) (.dlit ek ew) := by
  refine PE.imp (pe_dispT hu hk hv) fun σ H Q ⟨hid, w, st, ρ, g0, s0, p⟩ q hq => ?_
  simp only [ev] at p
  have ga := g0.aside (o := .dT []) hq
  have xa : Le (FZ hid w st H) (FZ (q :: hid) w st (upd H q (.dT []))) := FZ.aside g0 hq
  have xs0 : Slots X.K fa w (FZ (q :: hid) w st (upd H q (.dT []))) ρ σ := ⟨s0.1, fun i d e => let ⟨v, h1, h2⟩ := s0.2 i d e; ⟨v, h1, h2.mono (fun _ _ z => z) xa⟩⟩
  cases e1 : ev Δ ek ρ st with
  | bad => rw [e1] at p; exact p.elim
  | ex er s1 => rw [e1] at p; exact p.elim
  | ok d1 st1 =>
    rw [e1] at p
    simp only [Rs.noex_ok, Rs.bind_ok] at p
    cases e2 : ev Δ ew ρ st1 with
    | bad => rw [e2] at p; exact p.elim
    | ex er s1 => rw [e2] at p; exact p.elim
    | ok d2 st2 =>
      rw [e2] at p
      simp only [Rs.noex_ok, Rs.bind_ok] at p
      split at p
      · rename_i kk ekk
        refine ⟨q :: hid, w, st, ρ, ga, xs0, ?_⟩
        rw [e1]
        intro x w1 H1 x1 g1 r1
        refine ⟨q :: hid, w1, st1, ρ, g1, x1.slots xs0, ?_⟩
        rw [e2]
        intro y w2 H2 x2 g2 r2
        have x12 := x1.trans x2
        have hq2 : H2 q = some (.dT []) := (x12.asd q List.mem_cons_self).trans upd_same
        obtain ⟨b, rfl, hb⟩ := keyOf_ok (x2.rv r1) ekk
        refine ⟨hq2, b, kk.map Sum.inl, rfl, hb, ?_⟩
        have nh : q ∉ hid := g0.noth hq
        have g3 := g2.turn (o := .dT [(kk.map Sum.inl, y)]) List.mem_cons_self
        have le3 : FZ (q :: hid) w2 st2 (upd H2 q (.dT [(kk.map Sum.inl, y)])) = FZ (q :: hid) w2 st2 H2 := FZ.turn List.mem_cons_self
        have r2' : RV X.K fa (w2 ++ [q]) (FZ (q :: hid) w2 st2 (upd H2 q (.dT [(kk.map Sum.inl, y)]))) y d2 := by
          rw [le3]
          exact r2.mono (fun n a h => pre_get (List.prefix_append _ _) h) Le.refl
        have g4 := g3.toCell (c := .dct [(kk, d2)]) trivial nh ⟨[(kk.map Sum.inl, y)], upd_same, .cons ⟨rfl, r2'⟩ .nil⟩
        refine p (.ref q) (w2 ++ [q]) _ ⟨x12.pre.trans (List.prefix_append _ _), ?_, fun a ha => ?_⟩ g4 (.ref ?_)
        · refine xa.trans (x12.le.trans ?_)
          rw [← le3]
          exact Ext.toCell g3.len trivial
        · have z : a ≠ q := fun z => nh (by rw [← z]; exact ha)
          rw [upd_ne z, x12.asd a (List.mem_cons_of_mem _ ha), upd_ne z]
        · rw [← g3.len]; simp
      · exact p.elim
theorem de_pop0 {o : Expr} {apos cpos p0 : Pos} {kk : Nat} (ho : DE X fa ca W Δ o ea) (hbase : attributeBase o "pop" X.env (eval o X.env) = eval o X.env) (hline : (apos.endLine == cpos.line) = true) :
    DE X fa ca W Δ (.Call (.Attribute o "pop" apos) [.Constant (.int 0) kk p0] [] cpos) (.pop0 ea) := by
  refine PE.imp (pe_bm (T := "list") (id := "list.pop") PySem.F.plainAttrs_list PySem.F.slot_list_pop PySem.F.type_list_pop mt_popAt ho (pa_cons pe_int pa_nil rfl) hbase rfl hline rfl rfl) fun σ H Q ⟨hid, w, st, ρ, g, s, p⟩ => ?_
  simp only [ev] at p
  refine ⟨hid, w, st, ρ, g, s, (PostG.bind (rel := relV X.K fa) p).mono fun x H1 ⟨d1, w1, st1, e1, g1, r1, _, p1⟩ => ?_⟩
  split at p1
  · rename_i n
    split at p1
    · rename_i d ds ec
      obtain ⟨a, ea2, vs, h1, h2⟩ := g1.cell ec
      cases r1 with
      | ref hw =>
        rw [ea2] at hw; cases hw
        cases h2 with
        | @cons v0 vs0 _ _ rv0 rvs0 =>
          refine ⟨list_ty h1, ?_⟩
          refine ⟨_, v0 :: vs0, 0, 0, v0, rfl, rfl, h1, by decide, by decide, ?_, rfl, ?_⟩
          · unfold seqIndex?
            simp
          · have x4 := Ext.write (o := .lst vs0) (c' := .lst ds) g1 ea2 ec trivial trivial
            exact (p1.base x4).here (g1.write ea2 ec trivial trivial ⟨_, upd_same, rvs0⟩) (x4.rv rv0)
    · exact p1.elim
  · exact p1.elim
end
end Ev
set_option maxHeartbeats 4000000
namespace Ev
open PySem PySem.Spec PyProof.Rows L2
section
variable {P : Program} {w : World} {A : Around} {E : Value → Shared → Prop} {s : Shared}
abbrev fset (w : World) : Obj := { cls := .type "set", dict := none, data := .set #[] 0 (.fresh 0 0 (!w.params.followText "set-order")) }
theorem set_of_list {l : Addr} {items : Array Value} (ns : List Int) {Q : Value → Shared → Prop} (hh : A.handled = none) (hl : s.heap.IsList l items) (hit : IntsAre items.toList ns) (hb : ns.length + 1 < scanBound)
    (h : ∀ (h' : Heap) (tk c : Nat), SetR w h' s.heap.objs.size (fun j => decide (j ∈ ns)) c → c ≤ ns.length → (∀ b o, s.heap.get? b = some o → h'.get? b = some o) → Q (.ref s.heap.objs.size) { s with heap := h', toks := tk }) :
    wpAny (model P w) A (call (.type "set") [.ref l]) Q E s := by
  have hisz : items.size = ns.length := by
    have q := IntsAre.length hit
    rw [Array.length_toList] at q
    exact q
  obtain ⟨c, tl, hmro⟩ := PySem.F.called_set.mro
  have hmade := PySem.F.called_set.made
  have hsub := PySem.F.called_set.sub
  refine wpAny_call (codeAny_of_tree ?_)
  show wpAny _ _ (callAny (.type "set") _) _ _ _
  refine wpAny_pure ⟨Code.quiet_builtin _ (by decide +kernel), codeAny_builtin PySem.F.entry_type_call ?_⟩
  rw [Around.under_plain (weight_type_call_type "set" [.ref l] []) rfl]
  have h1 := PySem.F.called_set.notType
  have h2 := PySem.F.called_set.canCreate
  have hct := PySem.F.typeCall_set_1 (.ref l)
  repeat (any_goals (first | assumption | wp_step))
  refine codeAny_mono (code_set_led1 (.ref l) (E := E) (Q₁ := fun obj s₁ => obj = .ref s.heap.objs.size ∧ s₁ = { s with heap := s.heap.push (fset w) }) ⟨rfl, rfl⟩) fun r s₁ hr => ?_
  cases r with
  | error e => exact hr
  | ok fl =>
    cases fl with
    | ret obj =>
      obtain ⟨rfl, rfl⟩ := hr
      have hS : (s.heap.push (fset w)).get? s.heap.objs.size = some (fset w) := Heap.get?_push_size _ rfl
      have hT : Shared.TypeIs { s with heap := s.heap.push (fset w) } (.ref s.heap.objs.size) "set" := ⟨_, hS, rfl⟩
      have hli := PySem.F.called_set.init.lookup
      have hbi := PySem.F.called_set.init.bind (.ref s.heap.objs.size)
      repeat (any_goals (first | assumption | wp_step))
      refine codeAny_mono (codeAny_call_builtin (R := wants (fun r s₂ => r = .none ∧ ∃ h' tk c, s₂ = { s with heap := h', toks := tk } ∧ SetR w h' s.heap.objs.size (fun j => decide (j ∈ ns)) c ∧ c ≤ ns.length ∧
          (∀ b o, s.heap.get? b = some o → h'.get? b = some o)) E) PySem.F.called_set.init.plain PySem.F.entry_set_init (check_set_init_1 hT ?_)) fun r₂ s₂ hr₂ => ?_
      · obtain ⟨⟨ocls, odict, odata, oslots⟩, hol, hcl, nl, hdl⟩ := hl
        simp only at hcl hdl
        subst hcl; subst hdl
        have hol' : (s.heap.push (fset w)).get? l = some { cls := .type "list", dict := odict, data := .seq items nl, slots := oslots } := Heap.get?_push_of_some _ hol
        have hsls := PySem.F.sub_list_set
        have hslf := PySem.F.sub_list_frozenset
        have hne : (Value.type "list" == Value.type "dict") = false := by decide
        have hl1 : (s.heap.push (fset w)).IsList l items := ⟨_, hol', rfl, nl, rfl⟩
        unfold Builtin.«set.__init__» noKeywords Builtin.Frozenset.updateFrom
        generalize hPI : pyIter = PI
        wp_walk
        subst hPI
        refine wpAny_pyIter_list hl1 ?_
        refine wpAny_bind (wpAny_runValue ?_)
        have hlS : l < s.heap.objs.size := Heap.lt_size hol
        have hh3 : A.in1.in1.in1.handled = none := by simp [hh]
        have hneI : l ≠ (s.heap.push (fset w)).objs.size := by
          rw [Heap.size_push]; exact Nat.ne_of_lt (Nat.lt_succ_of_lt hlS)
        have hSf : s.heap.objs.size ∉ [(s.heap.push (fset w)).objs.size, l] := by
          rw [Heap.size_push]; simp only [List.mem_cons, List.mem_singleton, List.not_mem_nil, or_false, not_or]
          exact ⟨Nat.ne_of_lt (Nat.lt_succ_self _), Nat.ne_of_gt hlS⟩
        have hval : ∀ (i : Nat) (v : Value), items[i]? = some v → ∃ k t, ns[i]? = some k ∧ v = .int k t := fun i v hv => by
          have hi : i < ns.length := by rw [← hisz]; exact (Array.getElem?_eq_some_iff.mp hv).1
          obtain ⟨t, e⟩ := PyProof.Rows.IntsAre.int_at hit i v (by rw [Array.getElem?_toList]; exact hv)
          refine ⟨ns[i], t, List.getElem?_eq_getElem hi, ?_⟩
          rw [e, List.getD_eq_getElem?_getD, List.getElem?_eq_getElem hi] <;> rfl
        refine set_update_ints ((Walks.list hh3 _ l hneI items).toS) s.heap.objs.size
          hSf ns hisz hb hval (items.size - 0) 0 _ (by omega) (Nat.zero_le _)
          ⟨⟨_, Heap.get?_push_size _ rfl, rfl, rfl⟩, (hl1.push _)⟩ ?hS0 ?hR
        case hS0 => exact ⟨0, Nat.le_refl 0, setR_new_at (Heap.get?_push_of_some _ hS)⟩
        case hR =>
          intro s' c' hm hc' hS'
          obtain ⟨h', g2, d', tk', os'⟩ := s'
          have eg : g2 = s.gens := hm.gens
          have ed : d' = s.drawn := hm.drawn
          have eo : os' = s.os := hm.os
          subst eg; subst ed; subst eo
          show wpAny _ _ _ _ _ _
          refine wpAny_pure ?_
          show wpAny _ _ (ret Value.none) _ _ _
          rw [hisz] at hc'
          refine wpAny_pure ⟨rfl, h', tk', c', rfl, hS', hc', fun b o e => ?_⟩
          have hb0 : b < s.heap.objs.size := Heap.lt_size e
          have hb1 : b ≠ s.heap.objs.size := Nat.ne_of_lt hb0
          have hb2 : b ≠ (s.heap.push (fset w)).objs.size := by
            rw [Heap.size_push]; exact Nat.ne_of_lt (Nat.lt_succ_of_lt hb0)
          exact hm.heap b o (by simp only [List.mem_cons, List.mem_singleton, List.not_mem_nil, or_false, not_or]; exact ⟨hb1, hb2⟩) (Heap.get?_push_of_some _ (Heap.get?_push_of_some _ e))
      · cases r₂ with
        | error e => exact hr₂
        | ok fl₂ =>
          cases fl₂ with
          | ret r =>
            obtain ⟨rfl, h', tk, c', rfl, hS', hc', hk'⟩ := hr₂
            repeat (any_goals (first | assumption | wp_step))
            exact h _ _ _ hS' hc' hk'
          | _ => exact hr₂.elim
    | _ => exact hr.elim
end
end Ev
set_option maxHeartbeats 1000000
namespace Ev
open PySem PySem.Spec PyProof.Rows L2
theorem mem_insU {x z : Int} : ∀ {l : List Int}, z ∈ insU x l ↔ z = x ∨ z ∈ l
  | [] => by simp [insU]
  | y :: l => by
    unfold insU
    split
    · simp
    · split
      · rename_i h; subst h; simp
      · rw [List.mem_cons, mem_insU, List.mem_cons]
        constructor
        · rintro (h | h | h)
          · exact .inr (.inl h)
          · exact .inl h
          · exact .inr (.inr h)
        · rintro (h | h | h)
          · exact .inr (.inl h)
          · exact .inl h
          · exact .inr (.inr h)
theorem mem_usort {z : Int} : ∀ {l : List Int}, z ∈ usort l ↔ z ∈ l
  | [] => by simp [usort]
  | y :: l => by
    show z ∈ insU y (usort l) ↔ _
    rw [mem_insU, mem_usort, List.mem_cons]
theorem lt_insU {x : Int} : ∀ {l : List Int}, l.Pairwise (· < ·) → (insU x l).Pairwise (· < ·)
  | [], _ => by simp [insU]
  | y :: l, h => by
    obtain ⟨h1, h2⟩ := List.pairwise_cons.mp h
    unfold insU
    split
    · rename_i c
      refine List.pairwise_cons.mpr ⟨fun z hz => ?_, h⟩
      rcases List.mem_cons.mp hz with e | e
      · rw [e]; exact c
      · have := h1 z e; omega
    · split
      · exact h
      · refine List.pairwise_cons.mpr ⟨fun z hz => ?_, lt_insU h2⟩
        rcases mem_insU.mp hz with e | e
        · rw [e]; omega
        · exact h1 z e
theorem lt_usort : ∀ l : List Int, (usort l).Pairwise (· < ·)
  | [] => List.Pairwise.nil
  | y :: l => lt_insU (lt_usort l)
theorem lt_ext : ∀ {l m : List Int}, l.Pairwise (· < ·) → m.Pairwise (· < ·) → (∀ z, z ∈ l ↔ z ∈ m) → l = m
  | [], [], _, _, _ => rfl
  | [], y :: m, _, _, h => absurd ((h y).mpr List.mem_cons_self) (by simp)
  | x :: l, [], _, _, h => absurd ((h x).mp List.mem_cons_self) (by simp)
  | x :: l, y :: m, a, b, h => by
    obtain ⟨a1, a2⟩ := List.pairwise_cons.mp a
    obtain ⟨b1, b2⟩ := List.pairwise_cons.mp b
    have e : x = y := by
      rcases List.mem_cons.mp ((h x).mp List.mem_cons_self) with e | e
      · exact e
      · rcases List.mem_cons.mp ((h y).mpr List.mem_cons_self) with e2 | e2
        · exact e2.symm
        · have := b1 x e
          have := a1 y e2
          omega
    subst e
    rw [lt_ext a2 b2 fun z => ?_]
    constructor
    · intro hz
      rcases List.mem_cons.mp ((h z).mp (List.mem_cons_of_mem _ hz)) with e | e
      · have := a1 z hz; omega
      · exact e
    · intro hz
      rcases List.mem_cons.mp ((h z).mpr (List.mem_cons_of_mem _ hz)) with e | e
      · have := b1 z hz; omega
      · exact e
theorem len_insU {x : Int} : ∀ {l : List Int}, (insU x l).length ≤ l.length + 1
  | [] => Nat.le_refl _
  | y :: l => by
    unfold insU
    split
    · exact Nat.le_refl _
    · split
      · exact Nat.le_succ _
      · rw [List.length_cons, List.length_cons]
        have := len_insU (x := x) (l := l)
        omega
theorem len_usort : ∀ l : List Int, (usort l).length ≤ l.length
  | [] => Nat.le_refl _
  | y :: l => by
    show (insU y (usort l)).length ≤ _
    have := len_insU (x := y) (l := usort l)
    have := len_usort l
    rw [List.length_cons]
    omega
theorem vals_intsU : ∀ {us : List Value} {ns : List Int}, IntsAre us ns → Vals (ns.map V.int) us
  | _, _, .nil => .nil
  | _, _, .cons n t h => .cons ⟨t, rfl⟩ (vals_intsU h)
section
variable {X : Cx}
def tSset (K : PySem.W.Frag) (ta : TE) : TE := fun σ H Q => ta σ H fun x H1 => ∃ (l : Addr) (ns : List Int), x = .ref l ∧ SqL K H1 l (ns.map V.int) ∧ ns.length < 64 ∧ ∀ p, H1 p = none → Q (.ref p) (upd H1 p (.lst ((usort ns).map V.int)))
theorem pe_sset {a : Expr} {ta : TE} {p p2 q pos : Pos} (hc : X.calm = true) (hg : Gl X "sorted") (hm : X.mg "sorted" = none) (hg2 : Gl X "set") (hm2 : X.mg "set" = none) (ha : PE X a ta)
    (na : starEach [a] X.env = (false, eval a X.env) :: starEach [] X.env := by rfl) : PE X (.Call (.Name "sorted" p) [.Call (.Name "set" p2) [a] [] q] [] pos) (tSset X.K ta) := by
  refine ⟨fun pins s σ H Q I h => ?_⟩
  refine Call_ (ld_blt I hg hm PyProof.Rows.boot_sorted ?_)
  refine PyProof.Rows.callWith_builtin1 (PyProof.Rows.args_cons ?_ rfl) rfl rfl
  refine Call_ (ld_blt I hg2 hm2 PyProof.Rows.boot_set ?_)
  refine PyProof.Rows.callWith_type1 (PyProof.Rows.args_cons (thn (ha.run pins s σ H _ I h) fun v s1 ⟨x, H1, I1, r1, q1⟩ => PyProof.Rows.args_nil ?_) na) na rfl
  obtain ⟨l, ns, rfl, hq, h1, q1⟩ := q1
  cases r1
  obtain ⟨its, r, pl, hz⟩ := I1.list hq
  refine set_of_list ns (I1.ok.hd hc) pl.isList (by simpa using ints_of_vals r) (by unfold scanBound; omega) fun h' tk c R hc' k => ?_
  refine PyProof.Rows.args_nil ?_
  have I2 : Inv X pins σ H1 { s1 with heap := h', toks := tk } := I1.kept fun b o e => k b o e
  refine sorted_set R (I2.ok.hd hc) (by omega) fun s' p out cc ms k2 g o hp hget hint hlt hmem _ => ?_
  have em : ms = usort ns := lt_ext hlt (lt_usort ns) fun z => by
    rw [mem_usort, hmem z, decide_eq_true_eq]
  subst em
  have hp1 : s1.heap.objs.size ≤ p := Nat.le_trans (Nat.le_of_lt R.lt) hp
  have k3 : ∀ b o, s1.heap.get? b = some o → s'.heap.get? b = some o := fun b o e => k2 b o (k b o e)
  have hn : H1 p = none := I1.hok.fresh hp1
  have hlen : ((usort ns).map V.int).length ≤ sizeLine := by
    rw [List.length_map, sizeLine_eq]
    have := len_usort ns
    omega
  have J : Inv X pins σ (upd H1 p (.lst ((usort ns).map V.int))) { s1 with heap := s'.heap, gens := s'.gens, drawn := s'.drawn, toks := s'.toks } :=
    I1.call (ch := []) (Un.laid k3 hp1 hn) (I1.hok.laid k3 hp1 ⟨hlen, out.toList, cc, vals_intsU hint, hget⟩) (by rw [g]; exact I1.bare) (fun _ z => nomatch z)
  have e : s' = { s1 with heap := s'.heap, gens := s'.gens, drawn := s'.drawn, toks := s'.toks } := by
    cases s'
    cases s1
    cases o
    rfl
  rw [e]
  exact ⟨.ref p, _, J, rfl, q1 p hn⟩
end
end Ev
set_option maxHeartbeats 1000000
namespace Ev
open PySem PySem.Spec PyProof.Rows L2
section
variable {X : Cx} {fa ca : Nat → Addr} {W : WX} {Δ : Dn} {a b c tg : Expr} {ea eb ec : E} {pos : Pos}
theorem DqAll.ofInts {F : Hp} : ∀ l : List Int, DqAll F (l.map V.int) (l.map PyData.int)
  | [] => .nil
  | i :: l => .cons (.int i) (DqAll.ofInts l)
theorem de_sset {p p2 q : Pos} (hc : X.calm = true) (hg : Gl X "sorted") (hm : X.mg "sorted" = none) (hg2 : Gl X "set") (hm2 : X.mg "set" = none) (ha : DE X fa ca W Δ a ea) (na : starEach [a] X.env = [(false, eval a X.env)]) :
    DE X fa ca W Δ (.Call (.Name "sorted" p) [.Call (.Name "set" p2) [a] [] q] [] pos) (.sset ea) := by
  refine PE.imp (pe_sset hc hg hm hg2 hm2 ha na) fun σ H Q ⟨hid, w, st, ρ, g, s, p⟩ => ?_
  simp only [ev] at p
  refine ⟨hid, w, st, ρ, g, s, (PostG.bind (rel := relV X.K fa) p).mono fun x H1 ⟨d1, w1, st1, e1, g1, r1, _, p1⟩ => ?_⟩
  split at p1
  · rename_i l
    split at p1
    · rename_i ns hn
      split at p1
      · rename_i h64
        cases r1 with
        | py q =>
          cases q with
          | lst h1 h2 =>
            rw [h2.ints hn] at h1
            refine ⟨_, ns, rfl, SqL.of (FZ.le _ _ h1), h64, fun z hz => ?_⟩
            exact p1.new g1 hz (.py (.lst (FZ.new g1 hz) (DqAll.ofInts _)))
      · exact p1.elim
    · exact p1.elim
  · exact p1.elim
theorem iter_rangeC {K : PySem.W.Frag} {w0 : List Addr} {F : Hp} {lo k : Int} {n : Nat} : IterOk K fa ca w0 F (Itc lo k n) (rangeC lo k n) := by
  intro i hid w st H g hw le
  refine ⟨fun d e => ?_, fun hl => ?_⟩
  · unfold rangeC at e
    rw [List.getElem?_map] at e
    obtain ⟨j, h1, rfl⟩ := Option.map_eq_some_iff.mp e
    obtain ⟨h3, h4⟩ := List.getElem?_eq_some_iff.mp h1
    rw [List.getElem_range] at h4
    subst h4
    rw [List.length_range] at h3
    refine ⟨h3, fun x H' y => ?_⟩
    obtain ⟨rfl, rfl⟩ := y
    exact ⟨g, Ext.refl, .py (.int _)⟩
  · unfold rangeC at hl
    rw [List.length_map, List.length_range] at hl
    exact Nat.le_of_eq hl
theorem di_rng3 {p : Pos} (hg : Gl X "range") (hm : X.mg "range" = none) (ha : DE X fa ca W Δ a ea) (hb : DE X fa ca W Δ b eb) (hc : DE X fa ca W Δ c ec) (hs : starEach [a, b, c] X.env = [(false, eval a X.env), (false, eval b X.env), (false, eval c X.env)])
    (hs2 : starEach [b, c] X.env = [(false, eval b X.env), (false, eval c X.env)]) (hs3 : starEach [c] X.env = [(false, eval c X.env)]) :
    DI X fa ca W Δ tg (.Call (.Name "range" p) [a, b, c] [] pos) (.rng3 ea eb ec) := by
  refine PI.imp (pi_range3 hg hm (pa_cons ha (pa_cons hb (pa_cons hc pa_nil hs3) (by rw [hs2, hs3])) (by rw [hs, hs2])) (by rw [hs, hs2]) (by rw [hs2] <;> rfl)) fun σ H R ⟨hid, w, st, ρ, g0, s0, p⟩ => ?_
  simp only [evI] at p
  refine ⟨hid, w, st, ρ, g0, s0, (PostG.bind (rel := relV X.K fa) p).mono fun x H1 ⟨d1, w1, st1, e1, g1, r1, _, p1⟩ => ?_⟩
  refine ⟨hid, w1, st1, ρ, g1, e1.slots s0, (PostG.bind (rel := relV X.K fa) p1).mono fun y H2 ⟨d2, w2, st2, e2, g2, r2, _, p2⟩ => ?_⟩
  refine ⟨hid, w2, st2, ρ, g2, e2.slots (e1.slots s0), (PostG.bind (rel := relV X.K fa) p2).mono fun z H3 ⟨d3, w3, st3, e3, g3, r3, _, p3⟩ => ?_⟩
  split at p3
  · split at p3
    · rename_i hf
      unfold stepOk at hf
      rw [Bool.and_eq_true, Bool.and_eq_true, Bool.and_eq_true, decide_eq_true_eq, decide_eq_true_eq, decide_eq_true_eq] at hf
      obtain ⟨f1, f2, f3, f4⟩ := hf
      cases r1 with
      | py q =>
        cases q
        cases r2 with
        | py q =>
          cases q
          cases r3 with
          | py q =>
            cases q
            exact ⟨_, _, _, _, rfl, ⟨f1, f2, f3, (Int.toNat_of_nonneg f4).symm⟩, p3.here g3 iter_rangeC⟩
    · exact p3.elim
  · exact p3.elim
end
end Ev
set_option maxHeartbeats 1000000
namespace Ev
open PySem PySem.Spec PyProof.Rows L2
abbrev ZR (h : Heap) (z TI TO : Addr) (f0 fl : Value) : Prop :=
  h.get? z = some { cls := .type "zip", dict := none, data := .fields #[f0, fl, .bool false, .ref TI, .ref TO], slots := #[] }
def OwnOk (f0 fl : Value) : Prop := f0 = .none ∨ ∃ (T : Addr) (b : Bool), f0 = rawInt T ∧ fl = .bool b
section
variable {prog : Program} {w : World} {A : Around} {E : Value → Shared → Prop} {s : Shared} {z TI TO i1 i2 : Addr} {fp1 fp2 : List Addr} {n1 n2 i : Nat} {P1 P2 : Nat → Value → Prop} {St1 St2 : Nat → Heap → Prop} {f0 fl a1 a2 : Value}
theorem alive_any {a : Addr} {Q : Option Obj → Shared → Prop} (h : Q (s.heap.get? a) s) : wpAny (model prog w) A (loadIfAlive a) Q E s := fun _ _ _ => h
theorem z_own {Q : Bool → Shared → Prop} (k : ZR s.heap z TI TO f0 fl) (o : OwnOk f0 fl) (ht : Q true s)
    (hf : ∀ (T : Addr) (h' : Heap), ZR h' z TI TO (rawInt T) (.bool true) → Heap.SameBut z s.heap h' → Q false { s with heap := h' }) :
    wpAny (model prog w) A (Builtin.SmallTypes.ownedTupleIsFree (.ref z)) Q E s := by
  unfold Builtin.SmallTypes.ownedTupleIsFree
  rcases o with rfl | ⟨T, b, rfl, rfl⟩
  · exact wpAny_bind (wpAny_field k rfl (x := .none) rfl (wpAny_pure ht))
  · refine wpAny_bind (wpAny_field k rfl (x := rawInt T) rfl ?_)
    change wpAny _ _ (loadIfAlive ((T : Int).toNat) >>= fun _ => _) _ _ _
    rw [Int.toNat_natCast]
    refine wpAny_bind (alive_any ?_)
    cases s.heap.get? T with
    | none =>
      simp only [Option.isNone_none, if_true]
      exact wpAny_pure ht
    | some oT =>
      simp only [Option.isNone_some, if_false, Bool.false_eq_true]
      refine wpAny_bind (wpAny_field k rfl (x := .bool b) rfl ?_)
      cases b with
      | true =>
        rw [if_neg (show ¬ (Value.bool true != Value.bool true) = true from Bool.false_ne_true)]
        exact wpAny_pure (hf T s.heap k (Heap.SameBut.refl _ _))
      | false =>
        rw [if_pos (show (Value.bool false != .bool true) = true from rfl)]
        exact wpAny_bind (wpAny_setField_rec k (by simp) fun h1 k1 e1 => wpAny_pure (hf T h1 k1 e1))
/-- a draw of a zip, whatever became of the pair that it gave out before -/
theorem z_next {Q : Value → Shared → Prop} (S : ZipSep2 z TI TO i1 i2 fp1 fp2) (D1 : Draws prog w A i1 fp1 n1 P1 St1) (D2 : Draws prog w A i2 fp2 n2 P2 St2)
    (k : ZR s.heap z TI TO f0 fl) (o : OwnOk f0 fl) (kI : IsTupOf2 s.heap TI (.ref i1) (.ref i2)) (kO : IsTupOf2 s.heap TO a1 a2) (t1 : St1 i s.heap) (t2 : St2 i s.heap) (l1 : i < n1) (l2 : i < n2)
    (hQ : ∀ x1 x2 h' tk, P1 i x1 → P2 i x2 → (∃ g0 gl, ZR h' z TI TO g0 gl ∧ OwnOk g0 gl) → (∃ b1 b2, IsTupOf2 h' TO b1 b2) → St1 (i + 1) h' → St2 (i + 1) h' → IsTupOf2 h' s.heap.objs.size x1 x2 → h'.objs.size = s.heap.objs.size + 1 →
      (∀ c ob, c ≠ z → c ≠ TO → c ≠ i1 → c ≠ i2 → s.heap.get? c = some ob → h'.get? c = some ob) → Q (.ref s.heap.objs.size) { s with heap := h', toks := tk }) :
    wpAny (model prog w) A (Builtin.«zip.__next__» ⟨[.ref z], []⟩) (fun fin s' => ∃ v, fin = .done (.ret v) ∧ Q v s') E s := by
  obtain ⟨hp, gg, dd, tk0, os⟩ := s
  show wpAny _ _ (field (.ref z) 2 >>= _) _ _ _
  refine wpAny_bind (wpAny_field k rfl (x := .bool false) rfl ?_)
  show wpAny _ _ (field (.ref z) 3 >>= _) _ _ _
  refine wpAny_bind (wpAny_field k rfl (x := .ref TI) rfl ?_)
  refine wpAny_bind (wpAny_seqItems kI rfl ?_)
  change wpAny _ _ (Builtin.SmallTypes.ownedTupleIsFree (Value.ref z) >>= fun _ => _) _ _ _
  refine wpAny_bind (z_own k o ?_ fun T q0 kq eq => ?_)
  · -- the pair of its own again
    simp only [if_true]
    refine wpAny_bind (wpAny_rule (wpAny_bind (wpAny_field k rfl (x := .ref TO) rfl ?_)))
    refine wpAny_bind (wpAny_setField_rec k (by simp) fun q0 k0 e0 => wpAny_bind ?_)
    replace k0 : ZR q0 z TI TO .ellipsis fl := k0
    replace e0 : Heap.SameBut z hp q0 := e0
    simp only [List.forIn_cons, List.forIn_nil, List.zipIdx_cons, List.zipIdx_nil]
    refine wpAny_bind (wpAny_bind (wpAny_onRaise ?_))
    change wpAny _ _ (Builtin.SmallTypes.nextOf (Value.ref i1) >>= fun _ => _) _ _ ⟨q0, gg, dd, tk0, os⟩
    refine wpAny_bind (D1.item i _ _ _ l1 (D1.over t1 e0 S.zf1) fun x1 p1 tk1 y1 u1 c1 => wpAny_pure ?_)
    replace c1 : Heap.SameBut i1 q0 p1 := c1
    have kU : IsTupOf2 p1 TO a1 a2 := c1.extBut _ _ S.Ti1 (e0.extBut _ _ S.TOz kO)
    refine wpAny_bind (wpAny_seqItems (s := ⟨p1, gg, dd, tk1, os⟩) kU rfl (wpAny_bind (updateSeq_IsTupOf2 (s := ⟨p1, gg, dd, tk1, os⟩) kU fun q1 kT1 e1 => wpAny_bind (wpAny_letGo (wpAny_pure ?_)))))
    replace kT1 : IsTupOf2 q1 TO x1 a2 := kT1
    replace e1 : Heap.SameBut TO p1 q1 := e1
    refine wpAny_bind (wpAny_bind (wpAny_onRaise ?_))
    change wpAny _ _ (Builtin.SmallTypes.nextOf (Value.ref i2) >>= fun _ => _) _ _ ⟨q1, gg, dd, tk1, os⟩
    refine wpAny_bind (D2.item i _ _ _ l2 (D2.over (D2.over (D2.over t2 e0 S.zf2) c1 S.sep1_2) e1 S.Tf2) fun x2 p2 tk2 y2 u2 c2 => wpAny_pure ?_)
    replace c2 : Heap.SameBut i2 q1 p2 := c2
    have kV : IsTupOf2 p2 TO x1 a2 := c2.extBut _ _ S.Ti2 kT1
    refine wpAny_bind (wpAny_seqItems (s := ⟨p2, gg, dd, tk2, os⟩) kV rfl (wpAny_bind (updateSeq_IsTupOf2 (s := ⟨p2, gg, dd, tk2, os⟩) kV fun q2 kT2 e2 => wpAny_bind (wpAny_letGo (wpAny_pure (wpAny_pure ?_))))))
    replace kT2 : IsTupOf2 q2 TO x1 x2 := kT2
    replace e2 : Heap.SameBut TO p2 q2 := e2
    refine wpAny_bind (wpAny_seqItems (s := ⟨q2, gg, dd, tk2, os⟩) kT2 rfl (wpAny_bind (wpAny_newTuple ?_)))
    have sz : q2.objs.size = hp.objs.size := by rw [e2.1, c2.1, e1.1, c1.1, e0.1]
    have kz : ZR q2 z TI TO .ellipsis fl := e2.extBut _ _ S.TOz.symm (c2.extBut _ _ S.zi2 (e1.extBut _ _ S.TOz.symm (c1.extBut _ _ S.zi1 k0)))
    have kk : ∀ c ob, c ≠ z → c ≠ TO → c ≠ i1 → c ≠ i2 → hp.get? c = some ob → q2.get? c = some ob := fun c ob n0 n1 n2 n3 e =>
      e2.extBut _ _ n1 (c2.extBut _ _ n3 (e1.extBut _ _ n1 (c1.extBut _ _ n2 (e0.extBut _ _ n0 e))))
    have j1 : St1 (i + 1) q2 := D1.over (D1.over (D1.over u1 e1 S.Tf1) c2 S.sep2_1) e2 S.Tf1
    have j2 : St2 (i + 1) q2 := D2.over u2 e2 S.Tf2
    have zl : z < q2.objs.size := Heap.lt_size kz
    change wpAny _ _ (Builtin.SmallTypes.ownedTupleHandOut (Value.ref z) (Value.ref q2.objs.size) >>= fun _ => _) _ _ ⟨q2.push { cls := .type "tuple", data := .seq #[x1, x2] }, gg, dd, tk2, os⟩
    refine wpAny_bind ?_
    unfold Builtin.SmallTypes.ownedTupleHandOut
    have k6 : ZR (q2.push { cls := .type "tuple", data := .seq #[x1, x2] }) z TI TO .ellipsis fl := Heap.get?_push_of_some _ kz
    refine wpAny_bind (wpAny_setField_rec k6 (by simp) fun q7 k7 e7 => ?_)
    replace k7 : ZR q7 z TI TO (rawInt q2.objs.size) fl := k7
    refine wpAny_setField_rec k7 (by simp) fun q8 k8 e8 => wpAny_pure ⟨_, rfl, ?_⟩
    replace k8 : ZR q8 z TI TO (rawInt q2.objs.size) (.bool false) := k8
    replace e7 : Heap.SameBut z (q2.push { cls := .type "tuple", data := .seq #[x1, x2] }) q7 := e7
    replace e8 : Heap.SameBut z q7 q8 := e8
    have up : ∀ c ob, c ≠ z → q2.get? c = some ob → q8.get? c = some ob := fun c ob n e => e8.extBut _ _ n (e7.extBut _ _ n (Heap.get?_push_of_some _ e))
    have kN : IsTupOf2 q8 q2.objs.size x1 x2 := e8.extBut _ _ (Nat.ne_of_gt zl) (e7.extBut _ _ (Nat.ne_of_gt zl) (Heap.get?_push_size _ rfl))
    have s8 : q8.objs.size = q2.objs.size + 1 := by rw [e8.1, e7.1, Heap.size_push]
    show Q (.ref q2.objs.size) ⟨q8, gg, dd, tk2, os⟩
    rw [sz] at k8 kN s8 ⊢
    exact hQ x1 x2 q8 tk2 y1 y2 ⟨_, _, k8, .inr ⟨_, _, rfl, rfl⟩⟩ ⟨_, _, up _ _ S.TOz kT2⟩ (D1.frame _ _ _ j1 fun b hb ob e => up b ob (fun q => S.zf1 (q ▸ hb)) e) (D2.frame _ _ _ j2 fun b hb ob e => up b ob (fun q => S.zf2 (q ▸ hb)) e) kN s8 fun c ob n0 n1 n2 n3 e => up c ob n0 (kk c ob n0 n1 n2 n3 e)
  · -- a new pair, since the old one is out
    replace eq : Heap.SameBut z hp q0 := eq
    simp only [Bool.false_eq_true, if_false]
    refine wpAny_bind ?_
    rw [← Array.forIn_toList]
    simp only [List.forIn_nil, List.forIn_cons]
    refine wpAny_bind (wpAny_bind (wpAny_holding ?_))
    change wpAny _ _ (Builtin.SmallTypes.nextOf (Value.ref i1) >>= fun _ => _) _ _ ⟨q0, gg, dd, tk0, os⟩
    refine wpAny_bind (D1.item i _ _ _ l1 (D1.over t1 eq S.zf1) fun x1 p1 tk1 y1 u1 c1 => wpAny_pure (wpAny_pure ?_))
    replace c1 : Heap.SameBut i1 q0 p1 := c1
    refine wpAny_bind (wpAny_bind (wpAny_holding ?_))
    change wpAny _ _ (Builtin.SmallTypes.nextOf (Value.ref i2) >>= fun _ => _) _ _ ⟨p1, gg, dd, tk1, os⟩
    refine wpAny_bind (D2.item i _ _ _ l2 (D2.over (D2.over t2 eq S.zf2) c1 S.sep1_2) fun x2 p2 tk2 y2 u2 c2 => wpAny_pure (wpAny_pure (wpAny_pure ?_)))
    replace c2 : Heap.SameBut i2 p1 p2 := c2
    change wpAny _ _ (newTuple [x1, x2] >>= fun _ => _) _ _ ⟨p2, gg, dd, tk2, os⟩
    refine wpAny_bind (wpAny_newTuple (wpAny_pure ⟨_, rfl, ?_⟩))
    have sz : p2.objs.size = hp.objs.size := by rw [c2.1, c1.1, eq.1]
    have kz : ZR p2 z TI TO (rawInt T) (.bool true) := c2.extBut _ _ S.zi2 (c1.extBut _ _ S.zi1 kq)
    have kk : ∀ c ob, c ≠ z → c ≠ i1 → c ≠ i2 → hp.get? c = some ob → p2.get? c = some ob := fun c ob n0 n1 n2 e => c2.extBut _ _ n2 (c1.extBut _ _ n1 (eq.extBut _ _ n0 e))
    have j1 : St1 (i + 1) p2 := D1.over u1 c2 S.sep2_1
    have kN : IsTupOf2 (p2.push { cls := .type "tuple", data := .seq #[x1, x2] }) p2.objs.size x1 x2 := Heap.get?_push_size _ rfl
    have s8 : (p2.push { cls := .type "tuple", data := .seq #[x1, x2] }).objs.size = p2.objs.size + 1 := Heap.size_push ..
    show Q (.ref p2.objs.size) ⟨p2.push { cls := .type "tuple", data := .seq #[x1, x2] }, gg, dd, tk2, os⟩
    rw [sz] at kN s8 ⊢
    exact hQ x1 x2 _ tk2 y1 y2 ⟨_, _, Heap.get?_push_of_some _ kz, .inr ⟨_, _, rfl, rfl⟩⟩ ⟨_, _, Heap.get?_push_of_some _ (kk _ _ S.TOz S.Ti1 S.Ti2 kO)⟩ (D1.frame _ _ _ j1 fun b hb ob e => Heap.get?_push_of_some _ e) (D2.frame _ _ _ u2 fun b hb ob e => Heap.get?_push_of_some _ e) kN s8 fun c ob n0 n1 n2 n3 e => Heap.get?_push_of_some _ (kk c ob n0 n2 n3 e)
/-- a zip at its end -/
theorem z_done {Q : Fin → Shared → Prop} (S : ZipSep2 z TI TO i1 i2 fp1 fp2) (D1 : Draws prog w A i1 fp1 n1 P1 St1) (D2 : Draws prog w A i2 fp2 n2 P2 St2)
    (k : ZR s.heap z TI TO f0 fl) (o : OwnOk f0 fl) (kI : IsTupOf2 s.heap TI (.ref i1) (.ref i2)) (kO : IsTupOf2 s.heap TO a1 a2) (t1 : St1 i s.heap) (t2 : St2 i s.heap) (l1 : i ≤ n1) (l2 : i ≤ n2) (le : i = n1 ∨ i = n2)
    (hE : ∀ h' tk e, (∀ c ob, c ≠ z → c ≠ TO → c ≠ i1 → c ≠ i2 → s.heap.get? c = some ob → h'.get? c = some ob) → (∃ ob, h'.get? e = some ob ∧ ob.cls = .type "StopIteration") → E (.ref e) { s with heap := h', toks := tk }) :
    wpAny (model prog w) A (Builtin.«zip.__next__» ⟨[.ref z], []⟩) Q E s := by
  obtain ⟨hp, gg, dd, tk0, os⟩ := s
  show wpAny _ _ (field (.ref z) 2 >>= _) _ _ _
  refine wpAny_bind (wpAny_field k rfl (x := .bool false) rfl ?_)
  show wpAny _ _ (field (.ref z) 3 >>= _) _ _ _
  refine wpAny_bind (wpAny_field k rfl (x := .ref TI) rfl ?_)
  refine wpAny_bind (wpAny_seqItems kI rfl ?_)
  change wpAny _ _ (Builtin.SmallTypes.ownedTupleIsFree (Value.ref z) >>= fun _ => _) _ _ _
  refine wpAny_bind (z_own k o ?_ fun T q0 kq eq => ?_)
  · simp only [if_true]
    refine wpAny_bind (wpAny_rule (wpAny_bind (wpAny_field k rfl (x := .ref TO) rfl ?_)))
    refine wpAny_bind (wpAny_setField_rec k (by simp) fun q0 k0 e0 => wpAny_bind ?_)
    replace k0 : ZR q0 z TI TO .ellipsis fl := k0
    replace e0 : Heap.SameBut z hp q0 := e0
    simp only [List.forIn_cons, List.forIn_nil, List.zipIdx_cons, List.zipIdx_nil]
    refine wpAny_bind (wpAny_bind (wpAny_onRaise ?_))
    change wpAny _ _ (Builtin.SmallTypes.nextOf (Value.ref i1) >>= fun _ => _) _ _ ⟨q0, gg, dd, tk0, os⟩
    by_cases c : i < n1
    · refine wpAny_bind (D1.item i _ _ _ c (D1.over t1 e0 S.zf1) fun x1 p1 tk1 y1 u1 c1 => wpAny_pure ?_)
      replace c1 : Heap.SameBut i1 q0 p1 := c1
      have kU : IsTupOf2 p1 TO a1 a2 := c1.extBut _ _ S.Ti1 (e0.extBut _ _ S.TOz kO)
      refine wpAny_bind (wpAny_seqItems (s := ⟨p1, gg, dd, tk1, os⟩) kU rfl (wpAny_bind (updateSeq_IsTupOf2 (s := ⟨p1, gg, dd, tk1, os⟩) kU fun q1 kT1 e1 => wpAny_bind (wpAny_letGo (wpAny_pure ?_)))))
      replace e1 : Heap.SameBut TO p1 q1 := e1
      have hi2 : i = n2 := le.resolve_left (Nat.ne_of_lt c)
      refine wpAny_bind (wpAny_bind (wpAny_onRaise ?_))
      change wpAny _ _ (Builtin.SmallTypes.nextOf (Value.ref i2) >>= fun _ => _) _ _ ⟨q1, gg, dd, tk1, os⟩
      refine wpAny_bind (D2.done ⟨q1, gg, dd, tk1, os⟩ _ _ (by rw [← hi2]; exact D2.over (D2.over (D2.over t2 e0 S.zf2) c1 S.sep1_2) e1 S.Tf2) fun q e xq ⟨oe, ko, kc⟩ => ?_)
      replace xq : Heap.ExtBut i2 q1 q := xq
      replace ko : q.get? e = some oe := ko
      have kz : ZR q z TI TO .ellipsis fl := xq _ _ S.zi2 (e1.extBut _ _ S.TOz.symm (c1.extBut _ _ S.zi1 k0))
      have ne : e ≠ z := fun x => by subst x; rw [kz] at ko; cases ko; simp at kc
      refine wpAny_setField_rec (s := ⟨q, gg, dd, tk1, os⟩) kz (by simp) fun q' _ eq' => ?_
      replace eq' : Heap.SameBut z q q' := eq'
      exact hE q' tk1 e (fun c ob n0 n1 n2 n3 x => eq'.extBut _ _ n0 (xq _ _ n3 (e1.extBut _ _ n1 (c1.extBut _ _ n2 (e0.extBut _ _ n0 x))))) ⟨oe, eq'.extBut _ _ ne ko, kc⟩
    · have hi1 : i = n1 := Nat.le_antisymm l1 (Nat.not_lt.mp c)
      refine wpAny_bind (D1.done ⟨q0, gg, dd, tk0, os⟩ _ _ (by rw [← hi1]; exact D1.over t1 e0 S.zf1) fun q e xq ⟨oe, ko, kc⟩ => ?_)
      replace xq : Heap.ExtBut i1 q0 q := xq
      replace ko : q.get? e = some oe := ko
      have kz : ZR q z TI TO .ellipsis fl := xq _ _ S.zi1 k0
      have ne : e ≠ z := fun x => by subst x; rw [kz] at ko; cases ko; simp at kc
      refine wpAny_setField_rec (s := ⟨q, gg, dd, tk0, os⟩) kz (by simp) fun q' _ eq' => ?_
      replace eq' : Heap.SameBut z q q' := eq'
      exact hE q' tk0 e (fun c ob n0 n1 n2 n3 x => eq'.extBut _ _ n0 (xq _ _ n2 (e0.extBut _ _ n0 x))) ⟨oe, eq'.extBut _ _ ne ko, kc⟩
  · replace eq : Heap.SameBut z hp q0 := eq
    simp only [Bool.false_eq_true, if_false]
    refine wpAny_bind ?_
    rw [← Array.forIn_toList]
    simp only [List.forIn_nil, List.forIn_cons]
    refine wpAny_bind (wpAny_bind (wpAny_holding ?_))
    change wpAny _ _ (Builtin.SmallTypes.nextOf (Value.ref i1) >>= fun _ => _) _ _ ⟨q0, gg, dd, tk0, os⟩
    by_cases c : i < n1
    · refine wpAny_bind (D1.item i _ _ _ c (D1.over t1 eq S.zf1) fun x1 p1 tk1 y1 u1 c1 => wpAny_pure (wpAny_pure ?_))
      replace c1 : Heap.SameBut i1 q0 p1 := c1
      have hi2 : i = n2 := le.resolve_left (Nat.ne_of_lt c)
      refine wpAny_bind (wpAny_bind (wpAny_holding ?_))
      change wpAny _ _ (Builtin.SmallTypes.nextOf (Value.ref i2) >>= fun _ => _) _ _ ⟨p1, gg, dd, tk1, os⟩
      refine wpAny_bind (D2.done ⟨p1, gg, dd, tk1, os⟩ _ _ (by rw [← hi2]; exact D2.over (D2.over t2 eq S.zf2) c1 S.sep1_2) fun q e xq he => ?_)
      replace xq : Heap.ExtBut i2 p1 q := xq
      exact hE q tk1 e (fun c ob n0 n1 n2 n3 x => xq _ _ n3 (c1.extBut _ _ n2 (eq.extBut _ _ n0 x))) he
    · have hi1 : i = n1 := Nat.le_antisymm l1 (Nat.not_lt.mp c)
      refine wpAny_bind (D1.done ⟨q0, gg, dd, tk0, os⟩ _ _ (by rw [← hi1]; exact D1.over t1 eq S.zf1) fun q e xq he => ?_)
      replace xq : Heap.ExtBut i1 q0 q := xq
      exact hE q tk0 e (fun c ob n0 n1 n2 n3 x => xq _ _ n2 (eq.extBut _ _ n0 x)) he
end
end Ev
set_option maxHeartbeats 1000000
namespace Ev
open PySem PySem.Spec PyProof.Rows L2
section
variable {prog : Program} {w : World} {A : Around} {E : Value → Shared → Prop} {s : Shared} {e z TI TO i1 i2 : Addr} {fp1 fp2 : List Addr} {n1 n2 i : Nat} {P1 P2 : Nat → Value → Prop} {St1 St2 : Nat → Heap → Prop} {f0 fl a1 a2 old : Value}
/-- a turn of enumerate over a zip -/
theorem ez_next {Q : Value → Shared → Prop} (S : ZipSep2 z TI TO i1 i2 fp1 fp2) (D1 : Draws prog w A.in1 i1 fp1 n1 P1 St1) (D2 : Draws prog w A.in1 i2 fp2 n2 P2 St2) (ke : IsEnum s.heap e z (i : Int) old) (nz : e ≠ z) (nO : e ≠ TO) (n_1 : e ≠ i1) (n_2 : e ≠ i2)
    (k : ZR s.heap z TI TO f0 fl) (o : OwnOk f0 fl) (kI : IsTupOf2 s.heap TI (.ref i1) (.ref i2)) (kO : IsTupOf2 s.heap TO a1 a2) (t1 : St1 i s.heap) (t2 : St2 i s.heap) (l1 : i < n1) (l2 : i < n2)
    (hQ : ∀ x1 x2 h1 h' tk, P1 i x1 → P2 i x2 → (∃ g0 gl, ZR h1 z TI TO g0 gl ∧ OwnOk g0 gl) → (∃ b1 b2, IsTupOf2 h1 TO b1 b2) → St1 (i + 1) h1 → St2 (i + 1) h1 → IsTupOf2 h1 s.heap.objs.size x1 x2 → h1.objs.size = s.heap.objs.size + 1 →
      (∀ c ob, c ≠ z → c ≠ TO → c ≠ i1 → c ≠ i2 → s.heap.get? c = some ob → h1.get? c = some ob) →
      IsEnumOut h' e z ((i : Int) + 1) (.ref s.heap.objs.size) h1.objs.size → IsTupOf2 h' h1.objs.size (.int i tk) (.ref s.heap.objs.size) → (∀ c ob, c ≠ e → h1.get? c = some ob → h'.get? c = some ob) → Q (.ref h1.objs.size) { s with heap := h', toks := tk + 1 }) :
    wpAny (model prog w) A (Builtin.«enumerate.__next__» ⟨[.ref e], []⟩) (fun fin s' => ∃ v, fin = .done (.ret v) ∧ Q v s') E s := by
  have hT : s.TypeIs (.ref z) "zip" := ⟨_, k, rfl⟩
  obtain ⟨hp, gg, dd, tk0, os⟩ := s
  show wpAny _ _ (field (.ref e) 2 >>= _) _ _ _
  refine wpAny_bind (wpAny_field ke rfl (x := .ref z) rfl (wpAny_bind ?_))
  unfold Builtin.SmallTypes.nextOf
  refine wpAny_bind (wpAny_callSpecial?_slot (name := Str.ofString "__next__") hT F.slot_zip_next (wpAny_call_entry F.slot_zip_next hT F.entry_zip_next
    (z_next S D1 D2 k o kI kO t1 t2 l1 l2 fun x1 x2 h1 tk y1 y2 zz oo u1 u2 kN sz kk => wpAny_pure ?_) (F.args_zip_next_1 _)))
  have k1 : IsEnum h1 e z (i : Int) old := kk _ _ nz nO n_1 n_2 ke
  show wpAny _ _ (field (.ref e) 3 >>= _) _ _ ⟨h1, gg, dd, tk, os⟩
  refine wpAny_bind (wpAny_field k1 rfl (x := rawInt i) rfl ?_)
  show wpAny _ _ (field (.ref e) 4 >>= _) _ _ ⟨h1, gg, dd, tk, os⟩
  refine wpAny_bind (wpAny_field k1 rfl (x := .none) rfl ?_)
  show wpAny _ _ (mkInt i >>= _) _ _ ⟨h1, gg, dd, tk, os⟩
  refine wpAny_bind (wpAny_mkInt (wpAny_bind (wpAny_setField_rec k1 (by simp) fun h2 k2 e2 => wpAny_bind (wpAny_setField_rec k2 (by simp) fun h3 k3 e3 => ?_))))
  replace e2 : Heap.SameBut e h1 h2 := e2
  replace e3 : Heap.SameBut e h2 h3 := e3
  replace k3 : IsEnum h3 e z ((i : Int) + 1) old := k3
  change wpAny _ _ (newTuple [.int i tk, .ref hp.objs.size] >>= fun _ => _) _ _ ⟨h3, gg, dd, tk + 1, os⟩
  refine wpAny_bind (wpAny_newTuple ?_)
  have z3 : h3.objs.size = h1.objs.size := by rw [e3.1, e2.1]
  have el : e < h3.objs.size := Heap.lt_size k3
  have k4 : IsEnum (h3.push { cls := .type "tuple", data := .seq #[.int i tk, .ref hp.objs.size] }) e z ((i : Int) + 1) old := Heap.get?_push_of_some _ k3
  have p4 : IsTupOf2 (h3.push { cls := .type "tuple", data := .seq #[.int i tk, .ref hp.objs.size] }) h3.objs.size (.int i tk) (.ref hp.objs.size) := Heap.get?_push_size _ rfl
  have q4 : ∀ c ob, c ≠ e → h1.get? c = some ob → (h3.push { cls := .type "tuple", data := .seq #[.int i tk, .ref hp.objs.size] }).get? c = some ob := fun c ob n x =>
    Heap.get?_push_of_some _ (e3.extBut _ _ n (e2.extBut _ _ n x))
  change wpAny _ _ (Builtin.SmallTypes.ownedTupleIsFree (Value.ref e) >>= fun _ => _) _ _ ⟨h3.push { cls := .type "tuple", data := .seq #[.int i tk, .ref hp.objs.size] }, gg, dd, tk + 1, os⟩
  refine wpAny_bind ?_
  unfold Builtin.SmallTypes.ownedTupleIsFree
  refine wpAny_bind (wpAny_field k4 rfl (x := .none) rfl (wpAny_pure ?_))
  simp only [if_true]
  refine wpAny_bind (wpAny_rule (wpAny_bind (wpAny_field k4 rfl (x := old) rfl (wpAny_bind (wpAny_setField_rec k4 (by simp) fun h5 k5 e5 => wpAny_bind ?_)))))
  replace e5 : Heap.SameBut e (h3.push { cls := .type "tuple", data := .seq #[.int i tk, .ref hp.objs.size] }) h5 := e5
  replace k5 : IsEnum h5 e z ((i : Int) + 1) (.ref hp.objs.size) := k5
  unfold Builtin.SmallTypes.ownedTupleHandOut
  refine wpAny_bind (wpAny_setField_rec k5 (by simp) fun h6 k6 e6 => wpAny_setField_rec k6 (by simp) fun h7 k7 e7 => wpAny_bind (wpAny_letGo (wpAny_pure ⟨_, rfl, ?_⟩)))
  replace e6 : Heap.SameBut e h5 h6 := e6
  replace e7 : Heap.SameBut e h6 h7 := e7
  replace k7 : IsEnumOut h7 e z ((i : Int) + 1) (.ref hp.objs.size) h3.objs.size := k7
  have up : ∀ c ob, c ≠ e → (h3.push { cls := .type "tuple", data := .seq #[.int i tk, .ref hp.objs.size] }).get? c = some ob → h7.get? c = some ob := fun c ob n x => e7.extBut _ _ n (e6.extBut _ _ n (e5.extBut _ _ n x))
  have kP := up _ _ (Nat.ne_of_gt el) p4
  show Q (.ref h3.objs.size) ⟨h7, gg, dd, tk + 1, os⟩
  rw [z3] at kP k7 ⊢
  exact hQ x1 x2 h1 h7 tk y1 y2 zz oo u1 u2 kN sz kk k7 kP fun c ob n x => up c ob n (q4 c ob n x)
theorem ez_item {Q : Option Value → Shared → Prop} (S : ZipSep2 z TI TO i1 i2 fp1 fp2) (D1 : Draws prog w A.in1.in1 i1 fp1 n1 P1 St1) (D2 : Draws prog w A.in1.in1 i2 fp2 n2 P2 St2) (ke : IsEnum s.heap e z (i : Int) old) (nz : e ≠ z) (nO : e ≠ TO) (n_1 : e ≠ i1) (n_2 : e ≠ i2)
    (k : ZR s.heap z TI TO f0 fl) (o : OwnOk f0 fl) (kI : IsTupOf2 s.heap TI (.ref i1) (.ref i2)) (kO : IsTupOf2 s.heap TO a1 a2) (t1 : St1 i s.heap) (t2 : St2 i s.heap) (l1 : i < n1) (l2 : i < n2)
    (hQ : ∀ x1 x2 h1 h' tk, P1 i x1 → P2 i x2 → (∃ g0 gl, ZR h1 z TI TO g0 gl ∧ OwnOk g0 gl) → (∃ b1 b2, IsTupOf2 h1 TO b1 b2) → St1 (i + 1) h1 → St2 (i + 1) h1 → IsTupOf2 h1 s.heap.objs.size x1 x2 → h1.objs.size = s.heap.objs.size + 1 →
      (∀ c ob, c ≠ z → c ≠ TO → c ≠ i1 → c ≠ i2 → s.heap.get? c = some ob → h1.get? c = some ob) →
      IsEnumOut h' e z ((i : Int) + 1) (.ref s.heap.objs.size) h1.objs.size → IsTupOf2 h' h1.objs.size (.int i tk) (.ref s.heap.objs.size) → (∀ c ob, c ≠ e → h1.get? c = some ob → h'.get? c = some ob) → Q (some (.ref h1.objs.size)) { s with heap := h', toks := tk + 1 }) :
    wpAny (model prog w) A (pyNext (.ref e)) Q E s := by
  have hT : s.TypeIs (.ref e) "enumerate" := ⟨_, ke, rfl⟩
  unfold pyNext
  exact wpAny_bind (wpAny_attempt (wpAny_callSpecial?_slot (name := Str.ofString "__next__") hT F.slot_enumerate_next (wpAny_call_entry F.slot_enumerate_next hT F.entry_enumerate_next
    (ez_next S D1 D2 ke nz nO n_1 n_2 k o kI kO t1 t2 l1 l2 fun x1 x2 h1 h' tk b1 b2 b3 b4 b5 b6 b7 b8 b9 b10 b11 b12 => wpAny_pure (hQ x1 x2 h1 h' tk b1 b2 b3 b4 b5 b6 b7 b8 b9 b10 b11 b12)) (F.args_enumerate_next_1 _))))
theorem ez_end {Q : Option Value → Shared → Prop} (S : ZipSep2 z TI TO i1 i2 fp1 fp2) (D1 : Draws prog w A.in1.in1 i1 fp1 n1 P1 St1) (D2 : Draws prog w A.in1.in1 i2 fp2 n2 P2 St2) (ke : IsEnum s.heap e z (i : Int) old)
    (k : ZR s.heap z TI TO f0 fl) (o : OwnOk f0 fl) (kI : IsTupOf2 s.heap TI (.ref i1) (.ref i2)) (kO : IsTupOf2 s.heap TO a1 a2) (t1 : St1 i s.heap) (t2 : St2 i s.heap) (l1 : i ≤ n1) (l2 : i ≤ n2) (le : i = n1 ∨ i = n2)
    (hQ : ∀ h' tk, (∀ c ob, c ≠ z → c ≠ TO → c ≠ i1 → c ≠ i2 → s.heap.get? c = some ob → h'.get? c = some ob) → Q none { s with heap := h', toks := tk }) : wpAny (model prog w) A (pyNext (.ref e)) Q E s := by
  have hT : s.TypeIs (.ref e) "enumerate" := ⟨_, ke, rfl⟩
  have hZ : s.TypeIs (.ref z) "zip" := ⟨_, k, rfl⟩
  unfold pyNext
  refine wpAny_bind (wpAny_attempt (wpAny_callSpecial?_slot (name := Str.ofString "__next__") hT F.slot_enumerate_next (wpAny_call_entry F.slot_enumerate_next hT F.entry_enumerate_next ?_ (F.args_enumerate_next_1 _))))
  show wpAny _ _ (field (.ref e) 2 >>= _) _ _ _
  refine wpAny_bind (wpAny_field ke rfl (x := .ref z) rfl (wpAny_bind ?_))
  unfold Builtin.SmallTypes.nextOf
  refine wpAny_bind (wpAny_callSpecial?_slot (name := Str.ofString "__next__") hZ F.slot_zip_next (wpAny_call_entry F.slot_zip_next hZ F.entry_zip_next
    (z_done S D1 D2 k o kI kO t1 t2 l1 l2 le fun h' tk x kk ⟨ob, ho, hc⟩ => ?_) (F.args_zip_next_1 _)))
  exact wpAny_bind (wpAny_isInstance (T := "StopIteration") (b := true) ⟨ob, ho, hc⟩ isSubtype_stop (wpAny_pure (hQ _ _ kk)))
end
end Ev
set_option maxHeartbeats 1000000
namespace Ev
open PySem PySem.Spec PyProof.Rows L2
def ItEZ (ka kb : Bool) (a b : Addr) (xs ys : List V) : L2.It :=
  ⟨fun i H => SqK ka H a xs ∧ SqK kb H b ys ∧ i < xs.length ∧ i < ys.length,
    fun i H v H' => ∃ T1 T2 x y, v = .ref T2 ∧ H T1 = none ∧ upd H T1 (.tup [x, y]) T2 = none ∧ H' = upd (upd H T1 (.tup [x, y])) T2 (.tup [.int (i : Nat), .ref T1]) ∧ xs[i]? = some x ∧ ys[i]? = some y,
    fun i H => SqK ka H a xs ∧ SqK kb H b ys ∧ i ≤ xs.length ∧ i ≤ ys.length ∧ (i = xs.length ∨ i = ys.length)⟩
theorem turn_EZ {P : Program} {w : World} {K : PySem.W.Frag} {elts : List Expr} {kk : Nat} {tpos : Pos} {ka kb : Bool} {a b e z TI TO i1 i2 : Addr} {xs ys : List V} (D : ZipSep2 z TI TO i1 i2 [i1, a] [i2, b]) (nz : e ≠ z) (nI : e ≠ TI) (nO : e ≠ TO) (m1 : e ≠ i1) (m2 : e ≠ i2) :
    Turn P w K (.Tuple elts kk tpos) (ItEZ ka kb a b xs ys) [e, z, TI, TO, i1, i2] e (fun i h => (∃ old, IsEnum h e z (i : Int) old) ∧ (∃ f0 fl, ZR h z TI TO f0 fl ∧ OwnOk f0 fl) ∧ IsTupOf2 h TI (.ref i1) (.ref i2) ∧ (∃ x y, IsTupOf2 h TO x y) ∧ ItK ka h i1 a i ∧ ItK kb h i2 b i) where
  mem := by simp
  obj := fun i h st c hc => by
    obtain ⟨⟨old, ke⟩, ⟨f0, fl, kz, _⟩, kI, ⟨x, y, kO⟩, t1, t2⟩ := st
    have q : c = e ∨ c = z ∨ c = TI ∨ c = TO ∨ c = i1 ∨ c = i2 := by simpa using hc
    rcases q with rfl | rfl | rfl | rfl | rfl | rfl
    · exact ⟨_, ke, fun v q => nomatch q⟩
    · exact ⟨_, kz, fun v q => nomatch q⟩
    · exact ⟨_, kI, fun v q => nomatch q⟩
    · exact ⟨_, kO, fun v q => nomatch q⟩
    · exact itK_obj t1
    · exact itK_obj t2
  keep := fun i h h' st k => by
    obtain ⟨⟨old, ke⟩, ⟨f0, fl, kz, oz⟩, kI, ⟨x, y, kO⟩, t1, t2⟩ := st
    exact ⟨⟨old, k e (by simp) _ ke⟩, ⟨f0, fl, k z (by simp) _ kz, oz⟩, k TI (by simp) _ kI, ⟨x, y, k TO (by simp) _ kO⟩, itK_at t1 (k i1 (by simp)), itK_at t2 (k i2 (by simp))⟩
  item := by
    intro X hP hw hK hc i pins s σ H E I hf st hg
    subst hP hw hK
    have hob : ∀ c ∈ [e, z, TI, TO, i1, i2], c < s.heap.objs.size := fun c hcm => by
      obtain ⟨⟨old, ke⟩, ⟨f0, fl, kz, _⟩, kI, ⟨x, y, kO⟩, t1, t2⟩ := st
      have q : c = e ∨ c = z ∨ c = TI ∨ c = TO ∨ c = i1 ∨ c = i2 := by simpa using hcm
      rcases q with rfl | rfl | rfl | rfl | rfl | rfl
      · exact Heap.lt_size ke
      · exact Heap.lt_size kz
      · exact Heap.lt_size kI
      · exact Heap.lt_size kO
      · obtain ⟨_, q, _⟩ := itK_obj t1; exact Heap.lt_size q
      · obtain ⟨_, q, _⟩ := itK_obj t2; exact Heap.lt_size q
    obtain ⟨⟨old, ke⟩, ⟨f0, fl, kz, oz⟩, kI, ⟨x0, y0, kO⟩, t1, t2⟩ := st
    obtain ⟨q1, q2, l1, l2⟩ := hg
    obtain ⟨its, rv, p⟩ := sqK_items I q1
    obtain ⟨its2, rv2, p2⟩ := sqK_items I q2
    have n1 : a ≠ i1 := fun q => by have := (hf i1 (by simp)).1; cases ka <;> simp_all [SqK]
    have n2 : b ≠ i2 := fun q => by have := (hf i2 (by simp)).1; cases kb <;> simp_all [SqK]
    have na : a ≠ e := fun q => by have := (hf e (by simp)).1; cases ka <;> simp_all [SqK]
    have nb : b ≠ e := fun q => by have := (hf e (by simp)).1; cases kb <;> simp_all [SqK]
    have hh : X.A.in1.in1.handled = none := I.ok.hd hc
    have e1 := rv.length
    have e2 := rv2.length
    refine ez_item D (draws_k hh ka i1 a n1 its.toArray) (draws_k hh kb i2 b n2 its2.toArray) ke nz nO m1 m2 kz oz kI kO ⟨t1, p⟩ ⟨t2, p2⟩ (by simp; omega) (by simp; omega) fun x1 x2 h1 h' tk y1 y2 zz oo u1 u2 kN sz kp ho hT kq => ?_
    refine ⟨_, rfl, wpAny_letOwnedTupleGo_enum (s := { s with heap := h', toks := tk + 1 }) ho fun h'' ke' sb => ?_⟩
    replace sb : Heap.SameBut e h' h'' := sb
    have hx1 : its[i]? = some x1 := by simpa using y1
    have hx2 : its2[i]? = some x2 := by simpa using y2
    obtain ⟨v1, hv1, r1⟩ := vals_getV rv hx1
    obtain ⟨v2, hv2, r2⟩ := vals_getV rv2 hx2
    have new1 : ObjOk X.prog X.w (upd H s.heap.objs.size (.tup [v1, v2])) h1 s.heap.objs.size (.tup [v1, v2]) :=
      ⟨by show 2 ≤ sizeLine; decide, [x1, x2], .cons r1 (.cons r2 .nil), ⟨_, kN, rfl, _, rfl⟩⟩
    have keep1 : ∀ c o, c ∉ [e, z, TI, TO, i1, i2] → s.heap.get? c = some o → h1.get? c = some o := fun c o hb q => by
      simp only [List.mem_cons, List.not_mem_nil, or_false, not_or] at hb
      exact kp c o hb.2.1 hb.2.2.2.1 hb.2.2.2.2.1 hb.2.2.2.2.2 q
    have I1 : Inv X pins σ (upd H s.heap.objs.size (.tup [v1, v2])) { s with heap := h1, toks := tk } := I.turnedNew (t' := tk) (ch := [e, z, TI, TO, i1, i2]) keep1 hf (Nat.le_refl _) new1
    have hf1 : ∀ c ∈ [e, z, TI, TO, i1, i2], FpOk X pins (upd H s.heap.objs.size (.tup [v1, v2])) c := fun c hcm => ⟨by rw [upd_ne (Nat.ne_of_lt (hob c hcm))]; exact (hf c hcm).1, (hf c hcm).2⟩
    have up : ∀ c o, c ≠ e → h1.get? c = some o → h''.get? c = some o := fun c o n q => (sb.2 c n).trans (kq c o n q)
    have el : e < h1.objs.size := Nat.lt_of_lt_of_le (hob e (by simp)) (by omega)
    have hT2 : h''.get? h1.objs.size = some { cls := .type "tuple", data := .seq #[.int i tk, .ref s.heap.objs.size] } := (sb.2 _ (Nat.ne_of_gt el)).trans hT
    have new2 : ObjOk X.prog X.w (upd (upd H s.heap.objs.size (.tup [v1, v2])) h1.objs.size (.tup [.int (i : Nat), .ref s.heap.objs.size])) h'' h1.objs.size (.tup [.int (i : Nat), .ref s.heap.objs.size]) :=
      ⟨by show 2 ≤ sizeLine; decide, [.int i tk, .ref s.heap.objs.size], .cons ⟨_, rfl⟩ (.cons rfl .nil), ⟨_, hT2, rfl, _, rfl⟩⟩
    have I2 : Inv X pins σ (upd (upd H s.heap.objs.size (.tup [v1, v2])) h1.objs.size (.tup [.int (i : Nat), .ref s.heap.objs.size])) { s with heap := h'', toks := tk + 1 } :=
      I1.turnedNew (t' := tk + 1) (ch := [e, z, TI, TO, i1, i2]) (fun c o hb q => up c o (fun q' => hb (by simp [q'])) q) hf1 (Nat.le_refl _) new2
    have hfr : upd H s.heap.objs.size (.tup [v1, v2]) h1.objs.size = none := I1.hok.fresh (Nat.le_refl _)
    obtain ⟨g0, gl, gz, go⟩ := zz
    obtain ⟨b1, b2, gO⟩ := oo
    refine ⟨.ref h1.objs.size, _, I2, rfl, ⟨_, _, v1, v2, rfl, I.hok.fresh (Nat.le_refl _), hfr, rfl, hv1, hv2⟩, ⟨⟨.ref s.heap.objs.size, ?_⟩, ⟨g0, gl, up _ _ nz.symm gz, go⟩, up _ _ nI.symm (kp _ _ D.TIz D.TITO D.TIi1 D.TIi2 kI), ⟨b1, b2, up _ _ nO.symm gO⟩, itK_at u1.1 fun o q => up _ _ m1.symm q, itK_at u2.1 fun o q => up _ _ m2.symm q⟩, fun c hcm => ?_⟩
    · have : ((i + 1 : Nat) : Int) = (i : Int) + 1 := by omega
      rw [this]; exact ke'
    · have hlt : c < h1.objs.size := by
        have h0 : c < s.heap.objs.size := hob c hcm
        rw [sz]
        exact Nat.lt_succ_of_lt h0
      rw [upd_ne (Nat.ne_of_lt hlt)]
      exact (hf1 c hcm).1
  done := by
    intro X hP hw hK hc i pins s σ H E I hf st hg
    subst hP hw hK
    obtain ⟨⟨old, ke⟩, ⟨f0, fl, kz, oz⟩, kI, ⟨x0, y0, kO⟩, t1, t2⟩ := st
    obtain ⟨q1, q2, l1, l2, hend⟩ := hg
    obtain ⟨its, rv, p⟩ := sqK_items I q1
    obtain ⟨its2, rv2, p2⟩ := sqK_items I q2
    have n1 : a ≠ i1 := fun q => by have := (hf i1 (by simp)).1; cases ka <;> simp_all [SqK]
    have n2 : b ≠ i2 := fun q => by have := (hf i2 (by simp)).1; cases kb <;> simp_all [SqK]
    have hh : X.A.in1.in1.handled = none := I.ok.hd hc
    have e1 := rv.length
    have e2 := rv2.length
    refine ez_end D (draws_k hh ka i1 a n1 its.toArray) (draws_k hh kb i2 b n2 its2.toArray) ke kz oz kI kO ⟨t1, p⟩ ⟨t2, p2⟩ (by simp; omega) (by simp; omega) (by simp; omega) fun h' tk kp => ⟨rfl, ?_⟩
    refine I.turnedL (t' := tk) (ch := [e, z, TI, TO, i1, i2]) (fun c o hb q => ?_) hf
    simp only [List.mem_cons, List.not_mem_nil, or_false, not_or] at hb
    exact kp c o hb.2.1 hb.2.2.2.1 hb.2.2.2.2.1 hb.2.2.2.2.2 q
  self := fun A i s Q E st h => let ⟨⟨_, ke⟩, _⟩ := st; wpAny_pyIter_enum ke h
theorem meets_enumZ (z TI TO : Addr) : Meets (Builtin.«enumerate.__new__» ⟨[.type "enumerate", .ref z], []⟩) (fun _ R s => IsZip s.heap z TI TO .none ∧
    R (.ok (.ret (.ref s.heap.objs.size))) { s with heap := s.heap.push { cls := .type "enumerate", data := .fields #[.none, .bool false, .ref z, rawInt 0, .none, .none] } }) :=
  .of_wp fun prog w A R s h => by
    obtain ⟨hp, gg, dd, tk, os⟩ := s
    obtain ⟨kz, h⟩ := h
    have hsub := sub_enumerate
    have q1 : ∀ {A' : Around} {E : Value → Shared → Prop} {Q : Value → Shared → Prop}, Q (.ref z) ⟨hp, gg, dd, tk, os⟩ → wpAny (model prog w) A' (pyIter (.ref z)) Q E ⟨hp, gg, dd, tk, os⟩ := fun q => wpAny_pyIter_zip (s := ⟨hp, gg, dd, tk, os⟩) kz q
    wp_walk using q1
    refine wpAny_stack_any fun st => wpAny_pure ?_
    split
    · rename_i c _ _ _ _ _
      cases (c == Value.type "enumerate")
      · wp_walk using q1
        exact ⟨_, rfl, h⟩
      · wp_walk using q1
        exact ⟨_, rfl, h⟩
    · wp_walk using q1
      exact ⟨_, rfl, h⟩
theorem enumZ_call {prog : Program} {w : World} {A : Around} {E : Value → Shared → Prop} {s : Shared} {z TI TO : Addr} {Q : Value → Shared → Prop} (kz : IsZip s.heap z TI TO .none)
    (h : ∀ h', IsEnum h' s.heap.objs.size z 0 .none → (∀ c ob, s.heap.get? c = some ob → h'.get? c = some ob) → Q (.ref s.heap.objs.size) { s with heap := h' }) : wpAny (model prog w) A (call (.type "enumerate") [.ref z]) Q E s := by
  refine callType_new F.called_enumerate (by decide) (F.typeCall_enumerate_1 _) (F.newCall_enumerate_1 _) (fun obj => F.args_object_init_2 obj _) F.entry_enumerate_new (meets_enumZ z TI TO) ⟨kz, ?_⟩
  have ke : IsEnum (s.heap.push { cls := .type "enumerate", data := .fields #[.none, .bool false, .ref z, rawInt 0, .none, .none] }) s.heap.objs.size z 0 .none := Heap.get?_push_size _ rfl
  exact ⟨⟨_, ke, rfl⟩, h _ ke fun c ob q => Heap.get?_push_of_some _ q⟩
def iEZ (ta : TA) : TI := fun σ H R => ta σ H fun vs H1 => ∃ a b ka kb xs ys, vs = [.ref a, .ref b] ∧ SqK ka H1 a xs ∧ SqK kb H1 b ys ∧ R (ItEZ ka kb a b xs ys) H1
theorem pi_EZ {X : Cx} {e e2 : Expr} {ta : TA} {p p2 pos pos2 tpos : Pos} {elts : List Expr} {kk : Nat} (hg : Gl X "enumerate") (hm : X.mg "enumerate" = none) (hg2 : Gl X "zip") (hm2 : X.mg "zip" = none) (ha : PA X [e, e2] ta)
    (hs : starEach [e, e2] X.env = (false, eval e X.env) :: starEach [e2] X.env) (hpl : (backTo pos2 (starEach [e2] X.env)).any (·.1) = false) :
    PI X (.Tuple elts kk tpos) (.Call (.Name "enumerate" p) [.Call (.Name "zip" p2) [e, e2] [] pos2] [] pos) (iEZ ta) := by
  refine ⟨fun pins s σ H R I h => ?_⟩
  refine Call_ (ld_blt I hg hm boot_enumerate (callWith_type1 (Calls.spliced_cons ?_) rfl rfl))
  refine Call_ (ld_blt I hg2 hm2 boot_zip (callWith_type1 (thn (ha.run pos2 pins s σ H _ I h) fun us s1 ⟨vs, H1, I1, r1, q1⟩ => ?_) hs hpl))
  obtain ⟨a, b, ka, kb, xs, ys, ex, qa, qb, q⟩ := q1
  subst ex
  cases r1 with
  | cons r rr =>
    cases rr with
    | cons r' rr =>
      cases rr
      cases r
      cases r'
      obtain ⟨its, rv, p1⟩ := sqK_items I1 qa
      obtain ⟨its2, rv2, p2⟩ := sqK_items I1 qb
      have sep := zip_sep2 (N := s1.heap.objs.size) (fp1 := [a]) (fp2 := [b]) (fun c hc => by rw [List.mem_singleton.mp hc]; exact hpK_lt p1) (fun c hc => by rw [List.mem_singleton.mp hc]; exact hpK_lt p2)
      refine zip_begins2 (begins_k ka a its.toArray) (begins_k kb b its2.toArray) p1 p2 fun h' hz hTI hTO g1 g2 hsz hk => Calls.spliced_nil ?_
      refine enumZ_call hz fun h2 ke up => wpAny_pyIter_enum ke ?_
      replace ke : IsEnum h2 h'.objs.size (s1.heap.objs.size + 4) 0 .none := ke
      replace up : ∀ c ob, h'.get? c = some ob → h2.get? c = some ob := up
      have I2 : Inv X pins σ H1 { s1 with heap := h2 } := I1.kept (t' := s1.toks) fun c ob q => up _ _ (hk c ob q)
      have sz5 : h'.objs.size = s1.heap.objs.size + 5 := hsz
      have far : ∀ j : Nat, j < 5 → h'.objs.size ≠ s1.heap.objs.size + j := fun j hj q => by rw [sz5] at q; omega
      refine ⟨h'.objs.size, [h'.objs.size, s1.heap.objs.size + 4, s1.heap.objs.size + 2, s1.heap.objs.size + 3, s1.heap.objs.size, s1.heap.objs.size + 1], _, _, H1, rfl, I2,
        turn_EZ (ka := ka) (kb := kb) sep (far 4 (by omega)) (far 2 (by omega)) (far 3 (by omega)) (far 0 (by omega)) (far 1 (by omega)), ⟨⟨_, ke⟩, ⟨_, _, up _ _ hz, .inl rfl⟩, up _ _ hTI, ⟨_, _, up _ _ hTO⟩, itK_at (itK_new g1) fun o q => up _ _ q, itK_at (itK_new g2) fun o q => up _ _ q⟩, fun c hcm => ?_, q⟩
      have hle : s1.heap.objs.size ≤ c := by
        simp only [List.mem_cons, List.not_mem_nil, or_false] at hcm
        rcases hcm with q | q | q | q | q | q
        · rw [q, sz5]; exact Nat.le_add_right _ _
        · rw [q]; exact Nat.le_add_right _ _
        · rw [q]; exact Nat.le_add_right _ _
        · rw [q]; exact Nat.le_add_right _ _
        · rw [q]; exact Nat.le_refl _
        · rw [q]; exact Nat.le_add_right _ _
      exact I1.fpOk hle (I1.hok.fresh hle)
section
variable {X : Cx} {fa ca : Nat → Addr} {W : WX} {Δ : Dn} {a b tg : Expr} {ea eb : E} {pos : Pos}
theorem enumD_at {l : List D} {i : Nat} {d : D} (h : (enumD l)[i]? = some d) : ∃ x, l[i]? = some x ∧ d = mkTup [.py (.int (i : Nat)), x] := by
  unfold enumD at h
  rw [List.getElem?_zipWith] at h
  cases e1 : l[i]? with
  | none =>
    have hi : l.length ≤ i := List.getElem?_eq_none_iff.mp e1
    rw [e1, List.getElem?_eq_none (by rw [List.length_range]; exact hi)] at h
    cases h
  | some x =>
    have hi := (List.getElem?_eq_some_iff.mp e1).1
    rw [e1, List.getElem?_range hi] at h
    cases h
    exact ⟨x, rfl, rfl⟩
theorem enumD_len (l : List D) : (enumD l).length = l.length := by
  unfold enumD
  rw [List.length_zipWith, List.length_range, Nat.min_self]
theorem iter_ez {K : PySem.W.Frag} {w0 : List Addr} {F : Hp} {ka kb : Bool} {p q : Addr} {xs ys : List V} {l l' : List D} (h1 : SqK ka F p xs) (h2 : SqK kb F q ys) (r1 : RVs K fa w0 F xs l) (r2 : RVs K fa w0 F ys l') :
    IterOk K fa ca w0 F (ItEZ ka kb p q xs ys) (enumD (zipD l l')) := by
  intro i hid w st H g hw le
  have s1 : SqK ka H p xs := sqK_le FZ.le (sqK_le le h1)
  have s2 : SqK kb H q ys := sqK_le FZ.le (sqK_le le h2)
  refine ⟨fun d e => ?_, fun hl => ?_⟩
  · obtain ⟨d1, e0, rfl⟩ := enumD_at e
    obtain ⟨x, y, e1, e2, rfl⟩ := zipD_at e0
    obtain ⟨v1, f1, t1⟩ := r1.get e1
    obtain ⟨v2, f2, t2⟩ := r2.get e2
    refine ⟨⟨s1, s2, (List.getElem?_eq_some_iff.mp f1).1, (List.getElem?_eq_some_iff.mp f2).1⟩, fun v H' hy => ?_⟩
    obtain ⟨T1, T2, x', y', rfl, hT, hT2, rfl, k1, k2⟩ := hy
    rw [f1] at k1; cases k1
    rw [f2] at k2; cases k2
    have g1 := g.new (o := .tup [v1, v2]) hT
    have x1 := Ext.new (o := .tup [v1, v2]) g hT
    have g2 := g1.new (o := .tup [.int (i : Nat), .ref T1]) hT2
    have x2 := Ext.new (o := .tup [.int (i : Nat), .ref T1]) g1 hT2
    refine ⟨g2, x1.trans x2, mkTup_ok (FZ.new g1 hT2) ?_⟩
    have l2 : Le F (FZ hid w st (upd H T1 (.tup [v1, v2]))) := le.trans x1.le
    have inner : RV K fa w (FZ hid w st (upd H T1 (.tup [v1, v2]))) (.ref T1) (mkTup [x, y]) := mkTup_ok (FZ.new g hT) (.cons (t1.mono hw l2) (.cons (t2.mono hw l2) .nil))
    exact .cons (.py (.int _)) (.cons (inner.mono (fun _ _ q => q) x2.le) .nil)
  · rw [enumD_len, zipD_len, ← r1.length, ← r2.length] at hl
    exact ⟨s1, s2, by omega, by omega, by omega⟩
theorem di_ez {elts : List Expr} {kk : Nat} {p p2 pos2 tpos : Pos} (hg : Gl X "enumerate") (hm : X.mg "enumerate" = none) (hg2 : Gl X "zip") (hm2 : X.mg "zip" = none) (ha : DE X fa ca W Δ a ea) (hb : DE X fa ca W Δ b eb) (hs : starEach [a, b] X.env = (false, eval a X.env) :: starEach [b] X.env) (hs2 : starEach [b] X.env = (false, eval b X.env) :: starEach [] X.env) :
    DI X fa ca W Δ (.Tuple elts kk tpos) (.Call (.Name "enumerate" p) [.Call (.Name "zip" p2) [a, b] [] pos2] [] pos) (.ezip ea eb) := by
  refine PI.imp (pi_EZ hg hm hg2 hm2 (pa_cons ha (pa_cons hb pa_nil hs2) hs) hs (by rw [hs2]; rfl)) fun σ H R ⟨hid, w, st, ρ, g0, s0, p⟩ => ?_
  simp only [evI] at p
  refine ⟨hid, w, st, ρ, g0, s0, (PostG.bind (rel := relV X.K fa) p).mono fun x H1 ⟨d1, w1, st1, e1, g1, r1, _, p1⟩ => ?_⟩
  refine ⟨hid, w1, st1, ρ, g1, e1.slots s0, (PostG.bind (rel := relV X.K fa) p1).mono fun y H2 ⟨d2, w2, st2, e2, g2, r2, _, p2⟩ => ?_⟩
  have go : (∀ n, d1 ≠ .ref n) → (∀ n, d2 ≠ .ref n) → PostG X.K fa ca (relI X.K fa ca) hid w2 st2 H2 (fun c d H' => W c d σ H') (match seqOf st2 d1, seqOf st2 d2 with | some l, some l' => Rs.ok (enumD (zipD l l')) st2 | _, _ => .bad) R →
      ∃ a b ka kb xs ys, [x, y] = [V.ref a, V.ref b] ∧ SqK ka H2 a xs ∧ SqK kb H2 b ys ∧ R (ItEZ ka kb a b xs ys) H2 := fun n1 n2 p2 => by
    cases q1 : seqOf st2 d1 with
    | none => rw [q1] at p2; exact p2.elim
    | some l =>
      cases q2 : seqOf st2 d2 with
      | none => rw [q1, q2] at p2; exact p2.elim
      | some l' =>
        rw [q1, q2] at p2
        obtain ⟨A, xs, ka, rfl, rx, hx⟩ := froz_k n1 (e2.rv r1) q1
        obtain ⟨B, ys, kb, rfl, ry, hy⟩ := froz_k n2 r2 q2
        exact ⟨A, B, ka, kb, xs, ys, rfl, sqK_le FZ.le hx, sqK_le FZ.le hy, p2.here g2 (iter_ez hx hy rx ry)⟩
  cases d1 <;> cases d2 <;> first | exact p2.elim | exact go (fun n z => by cases z) (fun n z => by cases z) p2
end
end Ev
set_option maxHeartbeats 2000000
namespace Ev
open PySem PySem.Spec PyProof.Rows L2
/-- a test of one number, in the scope of its own -/
def NumT (P : Program) (w : World) (sc : Scope) (x : Str) (e : Expr) (f : Int → Bool) : Prop :=
  ∀ (en : Env) (B : Around) (J : Value → Shared → Prop) (i : Int) (t : Tok) (u : Shared) (m : Str → Option Value), en.scope = sc → u.heap.Ns en.locals m → m x = some (.int i t) → wpAny (model P w) B (eval e en) (fun y u' => y = .bool (f i) ∧ Keeps u u') J u
theorem numT_ge {P : Program} {w : World} {sc : Scope} {x : Str} {k : Int} {kd : Nat} {p1 p2 p3 : Pos} (hk : sc.kind = .function) (hx : sc.names.lookup x = some .local) (hd : (x == ("__debug__" : Str)) = false) :
    NumT P w sc x (.Compare (.Name x p1) [.GtE] [.Constant (.int k) kd p2] p3) (fun i => decide (k ≤ i)) := fun en B J i t u m hs hn hm => by
  refine wpAny_Compare1 (wpAny_Name (wpAny_loadName_local (hs ▸ hk) (show en.scope.names.lookup x = _ from hs ▸ hx) hn hm ?_) hd)
  refine wpAny_Constant_int ?_
  exact PySem.P.ge_int ⟨rfl, _, _, rfl, fun _ _ e => e⟩
section
variable {X : Cx} {pins : List (Addr × Obj)} {σ : L2.St} {H : Hp} {s : Shared}
/-- the generator at g is ready: it tells the tests of ns, one behind another -/
def RdyN (X : Cx) (pins : List (Addr × Obj)) (σ : L2.St) (H1 : Hp) (T : Addr) (ns : List Int) (f : Int → Bool) (g : Addr) (u : Shared) : Prop :=
  ∃ (fp wr : List Addr) (G : Array GenState → Array GenState → Prop) (F : Nat → Value → Prop) (St : Nat → Shared → Prop), WalksS X.prog X.w X.A.in1 g fp wr G ns.length F St ∧ St 0 u ∧ (∀ j v, F j v → ∃ i, ns[j]? = some i ∧ v = .bool (f i)) ∧ ∀ u', Moved wr G u u' → ∃ H2, GxR.Tabbed T H1 H2 ∧ Inv X pins σ H2 u'
theorem gen_nums {c T : Addr} {elt iter : Expr} {x : Str} {px gp : Pos} {sc : Scope} {f : Int → Bool} {te : TE} {k : Nat} {Q' : Value → Shared → Prop} {R : List Int → Hp → Prop}
    (hr : Room k X.A) (B : GxR.TabB X.base X.mg c T) (hc : X.env.code = .ref c) (S : GxR.GenS X.env sc x) (hi : PE X iter te) (ht : NumT X.prog X.w sc x elt f) (hs : ∀ v, genFold iter X.env v = pure v) (I : Inv X pins σ H s)
    (h : te σ H fun v H1 => ∃ (a : Addr) (ns : List Int), v = .ref a ∧ SqT X.K H1 a (ns.map V.int) ∧ GxR.TabG H1 T ∧ R ns H1) (hQ : ∀ ns H1 g u, R ns H1 → RdyN X pins σ H1 T ns f g u → Q' (.ref g) u) :
    wpAny (model X.prog X.w) X.A (eval (.GeneratorExp elt [⟨.Name x px, iter, [], 0⟩] sc gp) X.env) Q' X.xe s := by
  have dep : X.A.depth < recursionLimit := by have := hr.dp; omega
  refine wpAny_GeneratorExp_walksQ hr.hd S.co (closure_ok S.free) S.cell S.dot S.loc S.kind dep (thn (hi.run pins s σ H _ I h) fun it u ⟨v, H1, I1, r1, a, ns, e1, q1, ⟨ps, tP, tk⟩, q2⟩ => ?_) hs
  subst e1
  obtain rfl : it = Value.ref a := r1
  obtain ⟨ys, rv, tup, _⟩ := I1.tuple q1
  have aT : u.heap.IsTuple a ys.toArray := tup
  have a_lt : a < u.heap.objs.size := let ⟨_, e, _⟩ := aT; Heap.lt_size e
  have len : ys.toArray.size = ns.length := by rw [List.size_toArray, ← rv.length, List.length_map]
  have num : ∀ (i : Nat) (v : Value), ys.toArray[i]? = some v → ∃ n t, ns[i]? = some n ∧ v = .int n t := fun i v hv => by
    have hv' : ys[i]? = some v := by simpa using hv
    have hi : i < ns.length := by have := (List.getElem?_eq_some_iff.mp hv').1; rw [List.size_toArray] at len; omega
    obtain ⟨z, hz, rz⟩ := rv.get (show (ns.map V.int)[i]? = some (V.int ns[i]) by rw [List.getElem?_map, List.getElem?_eq_getElem hi]; rfl)
    rw [hv'] at hz; cases hz
    obtain ⟨t, e⟩ := (show ∃ t, v = Value.int ns[i] t from rz)
    exact ⟨_, t, List.getElem?_eq_getElem hi, e⟩
  refine wpAny_pyIter_tuple aT ?_
  obtain ⟨N, hN⟩ : ∃ N, u.heap.objs.size = N := ⟨_, rfl⟩
  obtain ⟨oi, hoi⟩ : ∃ oi : Obj, oi = { cls := .type "tuple_iterator", data := .fields #[.ref a, .int 0 0] } := ⟨_, rfl⟩
  rw [← hoi, hN]
  have aN : (a : Nat) < N := hN ▸ a_lt
  have it0 : (u.heap.push oi).IsTupleIter N a 0 := ⟨oi, hN ▸ Heap.get?_push_size _ (hoi ▸ rfl), hoi ▸ rfl, hoi ▸ rfl⟩
  have tab1 : u.heap.get? T = some { cls := .none, data := .fields ps } := I1.hok T _ tP
  have T_lt : T < N := hN ▸ Heap.lt_size tab1
  have up : ∀ b o, u.heap.get? b = some o → (u.heap.push oi).get? b = some o := fun b o e => Heap.get?_push_of_some _ e
  have lim := I1.nolimit.push oi
  have hd2 := B.code.keeps fun b o e => up b o (I1.bk b o e)
  have szN : (u.heap.push oi).objs.size = N + 1 := hN ▸ Heap.size_push ..
  have go : ∀ (cv : Value) (h3 : Heap) (n3 : Nat) (ps' : Array Value), Heap.ExtBut T (u.heap.push oi) h3 → N + 1 ≤ h3.objs.size → h3.get? T = some { cls := .none, data := .fields ps' } → (∃ more, ps' = ps ++ more) → TriplesOk ps'.toList →
      wpAny (model X.prog X.w) X.A (builtinsFor X.env.globals X.env.builtins) (fun bi s4 => ∃ I0 fp wr m P0 S0 pz F, Value.ref N = .ref I0 ∧ (∀ B : Around, B.handled = none → Walks X.prog X.w B I0 fp wr m P0 S0) ∧ S0 0 s4.heap ∧ (∀ b ∈ fp, b < s4.heap.objs.size) ∧ s4.heap.NoLimit ∧ cStatics ∉ wr ∧
        (∀ hr : Heap, (∀ b o, s4.heap.get? b = some o → hr.get? b = some o) → QuietGen X.prog X.w (genEnv sc (cloFrom X.env.cells sc.names []) s4.heap.objs.size cv bi X.env) x [] elt (List.range s4.heap.objs.size) wr P0 pz F hr) ∧
        (∀ g h5 tk gs, gs.bare = true → s4.heap.objs.size < g → h5.objs.size = g + 1 → (∀ b o, s4.heap.get? b = some o → h5.get? b = some o) →
          WalksS X.prog X.w X.A.in4 g (g :: s4.heap.objs.size :: List.range s4.heap.objs.size) (s4.heap.objs.size :: wr) (GenOnlyQ s4.gens.size) (passing pz m 0).length (fun j y => ∃ i, (passing pz m 0)[j]? = some i ∧ F i y) (GenAt X.prog X.w X.A.in4 g s4.gens.size s4.heap.objs.size (List.range s4.heap.objs.size) wr pz m F) →
          GenAt X.prog X.w X.A.in4 g s4.gens.size s4.heap.objs.size (List.range s4.heap.objs.size) wr pz m F 0 { s4 with gens := s4.gens.push gs, toks := tk, heap := h5 } → Q' (.ref g) { s4 with gens := s4.gens.push gs, toks := tk, heap := h5 })) X.xe { u with heap := h3, toks := n3 } := by
    intro cv h3 n3 ps' x3 z3 t3 grown ok3
    obtain ⟨bm, ob, k1, k2, k3, k4, k5, k6, k7, k8⟩ := B.bm
    have k3' : ∀ b o, b ≠ T → u.heap.get? b = some o → h3.get? b = some o := fun b o nb e => x3 b o nb (up b o e)
    have noT : ∀ {b : Addr} {o : Obj} {es : Array DictEntry} {ep : Nat}, u.heap.get? b = some o → o.data = .dict es ep → b ≠ T := fun {b o es ep} e d z => by
      rw [z, tab1] at e; cases e; cases d
    have stT : cStatics ≠ T := by
      obtain ⟨_, ⟨o, es, ep, e, d, _⟩, _⟩ := I1.nolimit
      exact noT e d
    have stN : cStatics ≠ N := by
      obtain ⟨_, hns, _⟩ := I1.nolimit
      rw [← hN]
      exact Nat.ne_of_lt hns.lt
    have aneT : a ≠ T := fun z => by
      obtain ⟨o, e, _, _, d⟩ := aT
      rw [z, tab1] at e; cases e; cases d
    have a3 : h3.IsTuple a ys.toArray := let ⟨o, e, r⟩ := aT; ⟨o, k3' _ _ aneT e, r⟩
    have it3 : h3.IsTupleIter N a 0 := let ⟨o, e, r⟩ := it0; ⟨o, x3 _ _ (Nat.ne_of_gt T_lt) e, r⟩
    refine wpAny_builtinsFor (m := X.mg) ?_ k1 k2 (k3' _ _ k4 (I1.bk _ _ k5)) k6 k7 k8 ⟨N, [N, a], [N], ys.toArray.size, fun i v => ys.toArray[i]? = some v, fun i h => h.IsTupleIter N a i ∧ h.IsTuple a ys.toArray, fun _ => true, fun i y => ∃ n, ns[i]? = some n ∧ y = .bool (f n), rfl, fun B' hB => Walks.tuple hB N a (Nat.ne_of_lt aN) _, ⟨it3, a3⟩, fun b hb => ?_, lim.extBut x3 stT, fun z => stN (List.mem_singleton.mp z), fun hr _ => ⟨fun B' J i v u2 m2 _ _ _ _ _ => ?_, fun B' J i v u2 m2 _ hp _ hn hm _ => ?_⟩, fun g h5 tk gs bare lt sz5 k45 W at0 => ?_⟩
    · rw [I1.ok.glob]
      exact ((I1.mod.glob.keeps I1.bk).push oi).extBut x3 B.gP
    · have hb' : b = N ∨ b = a := by simpa using hb
      show b < h3.objs.size
      rcases hb' with e | e
      · exact e ▸ Nat.lt_of_lt_of_le (Nat.lt_succ_self N) z3
      · exact e ▸ Nat.lt_of_lt_of_le (Nat.lt_succ_of_lt aN) z3
    · rw [List.forIn_nil]
      exact wpAny_pure ⟨rfl, _, _, rfl, fun _ _ e => e⟩
    · obtain ⟨n, t, hn1, rfl⟩ := num i v hp
      exact wpAny_mono (ht _ B' J n t u2 m2 rfl hn hm) (fun y u3 r => ⟨⟨n, hn1, r.1⟩, r.2⟩) fun _ _ e => e
    · rw [GxR.passing_true, List.length_range, len] at W
      rw [len] at at0
      refine hQ ns H1 g _ q2 ⟨_, _, _, _, _, W.in4_1, at0, fun j v hv => ?_, fun u' mv => ?_⟩
      · obtain ⟨i, e1, n, e2, e3⟩ := hv
        have hj := (List.getElem?_eq_some_iff.mp e1).2
        rw [List.getElem_range] at hj
        exact ⟨n, hj ▸ e2, e3⟩
      · obtain ⟨more, em⟩ := grown
        have old : ∀ b o, u.heap.get? b = some o → b ∉ h3.objs.size :: [N] := fun b o e hb => by
          have l1 := Heap.lt_size e
          have hb' : b = h3.objs.size ∨ b = N := by simpa using hb
          have l2 : (b : Nat) < N := hN ▸ l1
          rcases hb' with e | e
          · exact Nat.lt_irrefl _ (Nat.lt_trans (e ▸ l2 : (h3.objs.size : Nat) < N) z3)
          · exact Nat.ne_of_lt l2 e
        have J := GxR.inv_tab (more := more) (h' := u'.heap) (g' := u'.gens) (d' := u'.drawn) (t' := u'.toks) I1 tP (fun b o nb e => mv.heap b o (old b o e) (k45 b o (k3' b o nb e))) (em ▸ mv.heap T _ (old T _ tab1) (k45 T _ t3)) (AllBare.movedS (I1.bare.push bare) mv)
        rw [GxR.sh_eta u u' mv.os] at J
        exact ⟨_, ⟨⟨_, upd_same, em ▸ ok3⟩, fun b nb => upd_ne nb⟩, J⟩
  refine ⟨lim, ?_⟩
  have tab2 := up T _ tab1
  cases hf : codeAmong gp ps.toList with
  | some cv => exact wpAny_genexprCode_hit hc (hd2.code tab2 tk) hf (go cv _ _ ps (Heap.ExtBut.refl _ _) (by omega) tab2 ⟨#[], by simp⟩ tk)
  | none =>
    refine wpAny_genexprCodeX hc (hd2.code tab2 tk) (hd2.tab tab2) hf fun c' h' n' x' ge lt isC _ tb _ => ?_
    obtain ⟨_, _, _, _, _, _, _, _, _, _, _, _, _, _, _, _, _, _, _, tr, _⟩ := isC
    exact go _ h' n' _ x' (Nat.le_trans (Nat.le_of_eq szN.symm) (Nat.le_trans ge (Nat.le_of_lt lt))) tb.2 ⟨_, rfl⟩ tr
/-- all(.. for x in a tuple of numbers); behind it the def's table may have grown -/
def tAllN (K : PySem.W.Frag) (T : Addr) (f : Int → Bool) (te : TE) : TE := fun σ H Q => te σ H fun v H1 => ∃ (a : Addr) (ns : List Int), v = .ref a ∧ SqT K H1 a (ns.map V.int) ∧ GxR.TabG H1 T ∧ ∀ H2, GxR.Tabbed T H1 H2 → Q (.bl (ns.all f)) H2
theorem pe_allN {c T : Addr} {elt iter : Expr} {x : Str} {px p pos gp : Pos} {sc : Scope} {f : Int → Bool} {te : TE} {k : Nat} (hr : Room k X.A) (hg : Gl X "all") (hm : X.mg "all" = none) (B : GxR.TabB X.base X.mg c T) (hc : X.env.code = .ref c) (S : GxR.GenS X.env sc x) (hi : PE X iter te) (ht : NumT X.prog X.w sc x elt f) (hs : ∀ v, genFold iter X.env v = pure v)
    (he : starEach [.GeneratorExp elt [⟨.Name x px, iter, [], 0⟩] sc gp] X.env = (false, eval (.GeneratorExp elt [⟨.Name x px, iter, [], 0⟩] sc gp) X.env) :: starEach [] X.env) : PE X (.Call (.Name "all" p) [.GeneratorExp elt [⟨.Name x px, iter, [], 0⟩] sc gp] [] pos) (tAllN X.K T f te) := ⟨fun pins s σ H Q I h => by
  refine wpAny_Call_Name_kw (ld_blt I hg hm boot_all (PyProof.Rows.callWith_builtin1 ?_ he (by rfl)))
  rw [he]
  refine (Calls.spliced_cons (gen_nums (R := fun ns H1 => ∀ H2, GxR.Tabbed T H1 H2 → Q (.bl (ns.all f)) H2) hr B hc S hi ht hs I h fun ns H1 g u hR rdy => Calls.spliced_nil ?_) : wpAny _ _ (spliced ((false, eval (.GeneratorExp elt [⟨.Name x px, iter, [], 0⟩] sc gp) X.env) :: backTo pos (starEach [] X.env))) _ _ s)
  obtain ⟨fp, wr, G, F, St, W, s0, hF, hI⟩ := rdy
  refine call_all_walkS (W.self 0 _ _ _ s0 ⟨g, fp, wr, G, _, _, St, fun j => (ns[j]?.map f).getD false, rfl, W, s0, fun j v u2 Q2 E2 hv q => ?_, fun u' mv => ?_⟩)
  · obtain ⟨i, hi, rfl⟩ := hF j v hv
    refine wpAny_truthy_bool ?_
    simpa [hi] using q
  · obtain ⟨H2, tb, J⟩ := hI u' mv
    refine ⟨.bl _, H2, J, rfl, ?_⟩
    have e : (List.range ns.length).all (fun j => (ns[j]?.map f).getD false) = ns.all f := by
      rw [Bool.eq_iff_iff, List.all_eq_true, List.all_eq_true]
      constructor
      · intro q i hi
        obtain ⟨j, hj, rfl⟩ := List.getElem_of_mem hi
        simpa [List.getElem?_eq_getElem hj] using q j (List.mem_range.mpr hj)
      · intro q j hj
        have hj' := List.mem_range.mp hj
        simpa [List.getElem?_eq_getElem hj'] using q _ (List.getElem_mem hj')
    rw [e]
    exact hR H2 tb⟩
end
end Ev
set_option maxHeartbeats 1000000
namespace Ev
open PySem PySem.Spec PyProof.Rows L2
section
variable {X : Cx} {fa ca : Nat → Addr} {W : WX} {Δ : Dn}
/-- behind the walk the def's table may have grown: the cell stands for it still -/
theorem Good.grown {K : PySem.W.Frag} {hid w : List Addr} {st : Store} {H H2 : Hp} {j : Nat} (g : Good K fa ca hid w st H) (e : st[j]? = some (.tab j)) (h : GxR.Tabbed (fa (tOff + j)) H H2) : Ext hid w st H w st H2 ∧ Good K fa ca hid w st H2 := by
  obtain ⟨a, e1, e2, e3⟩ := g.cell e
  subst e2
  obtain ⟨⟨ps, h1, h2⟩, h3⟩ := h
  have eq : H2 = upd H (fa (tOff + j)) (.tbl ps) := by
    funext b
    by_cases q : b = fa (tOff + j)
    · rw [q, upd_same]; exact h1
    · rw [upd_ne q]; exact h3 b q
  have hs : st.set j (.tab j) = st := by
    obtain ⟨q1, q2⟩ := List.getElem?_eq_some_iff.mp e
    rw [← q2]
    exact List.set_getElem_self q1
  have x := Ext.write (o := .tbl ps) (c' := .tab j) g e1 e trivial trivial
  have y := Good.write (o := .tbl ps) (c' := .tab j) g e1 e trivial trivial ⟨rfl, ps, upd_same, h2⟩
  rw [hs, ← eq] at x y
  exact ⟨x, y⟩
theorem de_allN {c : Addr} {j k : Nat} {kk : Int} {elt iter : Expr} {ea : E} {x : Str} {px p pos gp : Pos} {sc : Scope} (hr : Room k X.A) (hg : Gl X "all") (hm : X.mg "all" = none) (B : GxR.TabB X.base X.mg c (fa (tOff + j))) (hc : X.env.code = .ref c) (S : GxR.GenS X.env sc x) (hi : DE X fa ca W Δ iter ea)
    (ht : NumT X.prog X.w sc x elt (fun i => decide (kk ≤ i))) (hs : ∀ v, genFold iter X.env v = pure v)
    (he : starEach [.GeneratorExp elt [⟨.Name x px, iter, [], 0⟩] sc gp] X.env = (false, eval (.GeneratorExp elt [⟨.Name x px, iter, [], 0⟩] sc gp) X.env) :: starEach [] X.env) :
    DE X fa ca W Δ (.Call (.Name "all" p) [.GeneratorExp elt [⟨.Name x px, iter, [], 0⟩] sc gp] [] pos) (.allN j kk ea) :=
  PE.imp (pe_allN hr hg hm B hc S hi ht hs he) fun σ H Q ⟨hid, w, st, ρ, g0, s0, p⟩ => by
    simp only [ev] at p
    refine ⟨hid, w, st, ρ, g0, s0, (PostG.bind (rel := relV X.K fa) p).mono fun v H1 ⟨d1, w1, st1, e1, g1, r1, _, p1⟩ => ?_⟩
    split at p1
    · rename_i l
      split at p1
      · rename_i ns i q1 q2
        split at p1
        · rename_i hij
          subst hij
          obtain ⟨a, u1, u2, u3⟩ := g1.cell q2
          subst u2
          cases r1 with
          | py dq =>
            cases dq with
            | @tup b vs _ f1 f2 =>
              have e4 := f2.ints q1
              subst e4
              refine ⟨b, ns, rfl, SqT.of (FZ.le _ _ f1), u3, fun H2 hT => ?_⟩
              obtain ⟨x2, g2⟩ := g1.grown q2 hT
              exact p1 _ _ _ x2 g2 (.py (.bl _))
        · exact p1.elim
      · exact p1.elim
    · exact p1.elim
theorem ty_ok {K : PySem.W.Frag} {hid w : List Addr} {st : Store} {H : Hp} {v : V} {d : D} {t : String} (g : Good K fa ca hid w st H) (r : RV K fa w (FZ hid w st H) v d) (h : tyD st d = some t) : TyX K H v (.type t) := by
  cases r with
  | py q =>
    cases q with
    | non => cases h; exact .base .non
    | bl b => cases h; exact .base (.bl b)
    | int i => cases h; exact .base (.int i)
    | str x => cases h; exact .base (.str x)
    | lst h1 h2 => cases h; exact .base (.lst (FZ.le _ _ h1))
    | tup h1 h2 => cases h; exact .base (.tup (FZ.le _ _ h1))
  | @ref n a hw =>
    have h' : (match st[n]? with
      | some (.lst _) => some "list"
      | some (.frz (.list _)) => some "list"
      | _ => none) = some t := h
    split at h'
    · rename_i ds e
      cases h'
      obtain ⟨b, ea, vs, h1, h2⟩ := g.cell e
      rw [ea] at hw; cases hw
      exact .base (.lst h1)
    · rename_i ds e
      cases h'
      obtain ⟨b, ea, h1⟩ := g.cell e
      rw [ea] at hw; cases hw
      have q : Dq (FZ hid w st H) (.ref a) (.list ds) := h1
      cases q with
      | lst k1 k2 => exact .base (.lst (FZ.le _ _ k1))
    · cases h'
  | fn => cases h
  | tp _ _ => cases h
  | scr _ => cases h
  | ob _ _ => cases h
theorem de_inst {T : String} {x : Str} {a : Expr} {ea : E} {p1 p2 pos : Pos} (hg : Gl X "isinstance") (hm : X.mg "isinstance" = none) (hg2 : Gl X x) (hm2 : X.mg x = none) (hv : bootBuiltins x = some (.type T)) (hn : x ≠ "__name__") (hd : (x == ("__debug__" : Str)) = false) (ha : DE X fa ca W Δ a ea)
    (sa : starEach [a, .Name x p2] X.env = (false, eval a X.env) :: starEach [.Name x p2] X.env) : DE X fa ca W Δ (.Call (.Name "isinstance" p1) [a, .Name x p2] [] pos) (.inst T ea) := by
  refine PE.imp (pe_callB (p := p1) (pos := pos) call_isi hg hm (by decide +kernel) (pa_cons ha (pa_cons (pe_bltn (v := .ty T) hg2 hm2 hv rfl hn hd) pa_nil rfl) sa) (by decide) (by decide) sa rfl) fun σ H Q ⟨hid, w, st, ρ, g0, s0, p⟩ => ?_
  simp only [ev] at p
  refine ⟨hid, w, st, ρ, g0, s0, (PostG.bind (rel := relV X.K fa) p).mono fun v H1 ⟨d1, w1, st1, e1, g1, r1, _, p1⟩ => ?_⟩
  split at p1
  · rename_i b hb
    obtain ⟨t, h1, h2⟩ := Option.bind_eq_some_iff.mp hb
    exact ⟨v, .ty T, .type t, .type T, b, rfl, .ty T, ty_ok g1 r1 h1, kit_ty h2, p1.here g1 (.py (.bl b))⟩
  · exact p1.elim
end
end Ev
set_option maxHeartbeats 4000000
namespace Ev
open PySem PySem.Spec PyProof.Rows L2
def NumT2 (P : Program) (w : World) (sc : Scope) (x y : Str) (e : Expr) (f : Int → Int → Bool) : Prop :=
  ∀ (en : Env) (B : Around) (J : Value → Shared → Prop) (i k : Int) (t t' : Tok) (u : Shared) (m : Str → Option Value), en.scope = sc → u.heap.Ns en.locals m → m x = some (.int i t) → m y = some (.int k t') → wpAny (model P w) B (eval e en) (fun v u' => v = .bool (f i k) ∧ Keeps u u') J u
theorem numT2_le {P : Program} {w : World} {sc : Scope} {x y : Str} {p1 p2 p3 : Pos} (hk : sc.kind = .function) (hx : sc.names.lookup x = some .local) (hy : sc.names.lookup y = some .local) (hd : (x == ("__debug__" : Str)) = false) (hd2 : (y == ("__debug__" : Str)) = false) :
    NumT2 P w sc x y (.Compare (.Name x p1) [.LtE] [.Name y p2] p3) (fun i k => decide (i ≤ k)) := fun en B J i k t t' u m hs hn hm hm2 => by
  refine wpAny_Compare1 (wpAny_Name (wpAny_loadName_local (hs ▸ hk) (show en.scope.names.lookup x = _ from hs ▸ hx) hn hm ?_) hd)
  refine wpAny_Name (wpAny_loadName_local (hs ▸ hk) (show en.scope.names.lookup y = _ from hs ▸ hy) hn hm2 ?_) hd2
  exact PySem.P.le_int ⟨rfl, _, _, rfl, fun _ _ e => e⟩
section
variable {X : Cx} {pins : List (Addr × Obj)} {σ : L2.St} {H : Hp} {s : Shared}
def RdyB (X : Cx) (pins : List (Addr × Obj)) (σ : L2.St) (H1 : Hp) (T : Addr) (bs : List Bool) (g : Addr) (u : Shared) : Prop :=
  ∃ (fp wr : List Addr) (G : Array GenState → Array GenState → Prop) (F : Nat → Value → Prop) (St : Nat → Shared → Prop), WalksS X.prog X.w X.A.in1 g fp wr G bs.length F St ∧ St 0 u ∧ (∀ j v, F j v → ∃ b, bs[j]? = some b ∧ v = .bool b) ∧ ∀ u', Moved wr G u u' → ∃ H2, GxR.Tabbed T H1 H2 ∧ Inv X pins σ H2 u'
theorem gen_zip {c T : Addr} {elt e1 e2 : Expr} {xa xb : Str} {pa pb pt p pos gp : Pos} {kt : Nat} {sc : Scope} {f : Int → Int → Bool} {ta : TA} {k : Nat} {Q' : Value → Shared → Prop} {R : List Int → List Int → Hp → Prop}
    (hr : Room k X.A) (B : GxR.TabB X.base X.mg c T) (hc : X.env.code = .ref c) (S : GxR.GenS X.env sc xa) (hxb : sc.names.lookup xb = some .local) (hab : xa ≠ xb) (hg : Gl X "zip") (hm : X.mg "zip" = none) (ha : PA X [e1, e2] ta)
    (hst : starEach [e1, e2] X.env = (false, eval e1 X.env) :: starEach [e2] X.env) (hpl : (backTo pos (starEach [e2] X.env)).any (·.1) = false) (ht : NumT2 X.prog X.w sc xa xb elt f) (I : Inv X pins σ H s)
    (h : ta σ H fun vs H1 => ∃ (a b : Addr) (ns ms : List Int), vs = [.ref a, .ref b] ∧ SqT X.K H1 a (ns.map V.int) ∧ SqT X.K H1 b (ms.map V.int) ∧ GxR.TabG H1 T ∧ R ns ms H1)
    (hQ : ∀ ns ms H1 g u, R ns ms H1 → RdyB X pins σ H1 T ((ns.zip ms).map fun q => f q.1 q.2) g u → Q' (.ref g) u) :
    wpAny (model X.prog X.w) X.A (eval (.GeneratorExp elt [⟨.Tuple [.Name xa pa, .Name xb pb] kt pt, .Call (.Name "zip" p) [e1, e2] [] pos, [], 0⟩] sc gp) X.env) Q' X.xe s := by
  have dep : X.A.depth < recursionLimit := by have := hr.dp; omega
  refine wpAny_GeneratorExp_walksQT hr.hd S.co (closure_ok S.free) S.cell S.dot S.loc hxb hab S.kind dep ?_ (fun _ => rfl)
  refine Call_ (ld_blt I hg hm boot_zip (callWith_type1 (thn (ha.run pos pins s σ H _ I h) fun us u ⟨vs, H1, I1, r1, q0⟩ => ?_) hst hpl))
  obtain ⟨a, b, ns, ms, ex, qa, qb, ⟨ps, tP, tk⟩, q2⟩ := q0
  subst ex
  cases r1 with
  | cons ra rr =>
  cases rr with
  | cons rb rr =>
  cases rr
  cases ra
  cases rb
  obtain ⟨ys, rv, tupA, _⟩ := I1.tuple qa
  obtain ⟨zs, rv2, tupB, _⟩ := I1.tuple qb
  have aT : u.heap.IsTuple a ys.toArray := tupA
  have bT : u.heap.IsTuple b zs.toArray := tupB
  have a_lt : a < u.heap.objs.size := let ⟨_, e, _⟩ := aT; Heap.lt_size e
  have b_lt : b < u.heap.objs.size := let ⟨_, e, _⟩ := bT; Heap.lt_size e
  have len : ys.toArray.size = ns.length := by rw [List.size_toArray, ← rv.length, List.length_map]
  have len2 : zs.toArray.size = ms.length := by rw [List.size_toArray, ← rv2.length, List.length_map]
  have num : ∀ {l : List Int} {ws : List Value}, Vals (l.map V.int) ws → ∀ (i : Nat) (v : Value), ws.toArray[i]? = some v → ∃ n t, l[i]? = some n ∧ v = .int n t := fun {l ws} rv i v hv => by
    have hv' : ws[i]? = some v := by simpa using hv
    have e0 := rv.length
    have hi : i < l.length := by have := (List.getElem?_eq_some_iff.mp hv').1; rw [List.length_map] at e0; omega
    obtain ⟨z, hz, rz⟩ := rv.get (show (l.map V.int)[i]? = some (V.int l[i]) by rw [List.getElem?_map, List.getElem?_eq_getElem hi]; rfl)
    rw [hv'] at hz; cases hz
    obtain ⟨t, e⟩ := (show ∃ t, v = Value.int l[i] t from rz)
    exact ⟨_, t, List.getElem?_eq_getElem hi, e⟩
  obtain ⟨N, hN⟩ : ∃ N, u.heap.objs.size = N := ⟨_, rfl⟩
  have aN : (a : Nat) < N := hN ▸ a_lt
  have bN : (b : Nat) < N := hN ▸ b_lt
  have tab1 : u.heap.get? T = some { cls := .none, data := .fields ps } := I1.hok T _ tP
  have T_lt : T < N := hN ▸ Heap.lt_size tab1
  have sep := zip_sep2 (N := u.heap.objs.size) (fp1 := [a]) (fp2 := [b]) (fun c hc => by rw [List.mem_singleton.mp hc]; exact a_lt) (fun c hc => by rw [List.mem_singleton.mp hc]; exact b_lt)
  refine zip_begins2 (begins_k false a ys.toArray) (begins_k false b zs.toArray) tupA tupB fun hz0 hz hTI hTO g1 g2 hsz up => ?_
  refine wpAny_pyIter_zip hz ?_
  rw [hN] at sep hz hTI hTO g1 g2 hsz
  have lim : hz0.NoLimit := I1.nolimit.keeps up
  have hd2 := B.code.keeps fun b o e => up b o (I1.bk b o e)
  have szN : N + 1 ≤ hz0.objs.size := by rw [hsz]; exact Nat.add_le_add_left (by decide) N
  have big : ∀ c, c ∈ [N + 4, N + 3, N, N + 1] → N ≤ c := fun c hc => by
    simp only [List.mem_cons, List.not_mem_nil, or_false] at hc
    rcases hc with e | e | e | e
    · rw [e]; exact Nat.le_add_right _ _
    · rw [e]; exact Nat.le_add_right _ _
    · rw [e]; exact Nat.le_refl _
    · rw [e]; exact Nat.le_add_right _ _
  have go : ∀ (cv : Value) (h3 : Heap) (n3 : Nat) (ps' : Array Value), Heap.ExtBut T hz0 h3 → hz0.objs.size ≤ h3.objs.size → h3.get? T = some { cls := .none, data := .fields ps' } → (∃ more, ps' = ps ++ more) → TriplesOk ps'.toList →
      wpAny (model X.prog X.w) X.A (builtinsFor X.env.globals X.env.builtins) (fun bi s4 => ∃ I0 fp wr m Pt S0 Mid pz F, Value.ref (N + 4) = .ref I0 ∧ (∀ B : Around, B.handled = none → WalksU X.prog X.w B I0 fp wr m Pt S0 Mid) ∧ (∀ i vals, Pt i vals → ∃ va vb, vals = #[va, vb]) ∧ S0 0 s4.heap ∧ (∀ b ∈ fp, b < s4.heap.objs.size) ∧ s4.heap.NoLimit ∧ cStatics ∉ wr ∧
        (∀ hr : Heap, (∀ b o, s4.heap.get? b = some o → hr.get? b = some o) → QuietGenT X.prog X.w (genEnv sc (cloFrom X.env.cells sc.names []) s4.heap.objs.size cv bi X.env) xa xb [] elt (List.range s4.heap.objs.size) wr Pt pz F hr) ∧
        (∀ g h5 tk gs, gs.bare = true → s4.heap.objs.size < g → h5.objs.size = g + 1 → (∀ b o, s4.heap.get? b = some o → h5.get? b = some o) →
          WalksS X.prog X.w X.A.in4 g (g :: s4.heap.objs.size :: List.range s4.heap.objs.size) (s4.heap.objs.size :: wr) (GenOnlyQ s4.gens.size) (passing pz m 0).length (fun j y => ∃ i, (passing pz m 0)[j]? = some i ∧ F i y) (GenAt X.prog X.w X.A.in4 g s4.gens.size s4.heap.objs.size (List.range s4.heap.objs.size) wr pz m F) →
          GenAt X.prog X.w X.A.in4 g s4.gens.size s4.heap.objs.size (List.range s4.heap.objs.size) wr pz m F 0 { s4 with gens := s4.gens.push gs, toks := tk, heap := h5 } → Q' (.ref g) { s4 with gens := s4.gens.push gs, toks := tk, heap := h5 })) X.xe { u with heap := h3, toks := n3 } := by
    intro cv h3 n3 ps' x3 z3 t3 grown ok3
    obtain ⟨bm, ob, k1, k2, k3, k4, k5, k6, k7, k8⟩ := B.bm
    have k3' : ∀ b o, b ≠ T → u.heap.get? b = some o → h3.get? b = some o := fun b o nb e => x3 b o nb (up b o e)
    have noT : ∀ {b : Addr} {o : Obj} {es : Array DictEntry} {ep : Nat}, u.heap.get? b = some o → o.data = .dict es ep → b ≠ T := fun {b o es ep} e d z => by
      rw [z, tab1] at e; cases e; cases d
    have stT : cStatics ≠ T := by
      obtain ⟨_, ⟨o, es, ep, e, d, _⟩, _⟩ := I1.nolimit
      exact noT e d
    have stN : (cStatics : Nat) < N := by
      obtain ⟨_, hns, _⟩ := I1.nolimit
      rw [← hN]
      exact hns.lt
    have tupNe : ∀ {q : Addr} {its : Array Value}, u.heap.IsTuple q its → q ≠ T := fun {q its} ⟨o, e, _, _, d⟩ z => by
      rw [z, tab1] at e; cases e; cases d
    have a3 : h3.IsTuple a ys.toArray := let ⟨o, e, r⟩ := aT; ⟨o, k3' _ _ (tupNe aT) e, r⟩
    have b3 : h3.IsTuple b zs.toArray := let ⟨o, e, r⟩ := bT; ⟨o, k3' _ _ (tupNe bT) e, r⟩
    have nw : ∀ {q : Nat}, N ≤ q → (q : Addr) ≠ T := fun {q} l e => Nat.lt_irrefl _ (Nat.lt_of_lt_of_le T_lt (e ▸ l))
    have i13 : h3.IsTupleIter N a 0 := let ⟨o, e, r⟩ := itK_new g1; ⟨o, x3 _ _ (nw (Nat.le_refl _)) e, r⟩
    have i23 : h3.IsTupleIter (N + 1) b 0 := let ⟨o, e, r⟩ := itK_new g2; ⟨o, x3 _ _ (nw (Nat.le_add_right _ _)) e, r⟩
    have z3' := x3 _ _ (nw (Nat.le_add_right _ _)) hz
    have TI3 := x3 _ _ (nw (Nat.le_add_right _ _)) hTI
    have TO3 := x3 _ _ (nw (Nat.le_add_right _ _)) hTO
    refine wpAny_builtinsFor (m := X.mg) ?_ k1 k2 (k3' _ _ k4 (I1.bk _ _ k5)) k6 k7 k8 ⟨N + 4, _, _, min ys.toArray.size zs.toArray.size, _, _, _, fun _ => true, fun i y => ∃ n k, ns[i]? = some n ∧ ms[i]? = some k ∧ y = .bool (f n k), rfl, fun B' hB => (WalksT.zipD2 sep (Draws.tuple (A := B'.in1) hB N a (Nat.ne_of_lt aN) ys.toArray) (Draws.tuple (A := B'.in1) hB (N + 1) b (Nat.ne_of_lt (Nat.lt_succ_of_lt bN)) zs.toArray)).toU,
      fun i vals ⟨x1, x2, _, _, e⟩ => ⟨x1, x2, e⟩, ⟨z3', TI3, ⟨_, _, TO3⟩, ⟨i13, a3⟩, ⟨i23, b3⟩⟩, fun b' hb => ?_, lim.extBut x3 stT, fun z => Nat.lt_irrefl _ (Nat.lt_of_lt_of_le stN (big _ z)), fun hr _ => ⟨fun B' J i va vb u2 m2 _ _ _ _ _ _ => ?_, fun B' J i va vb u2 m2 _ hp _ hn hm hm2 _ => ?_⟩, fun g h5 tk gs bare lt sz5 k45 W at0 => ?_⟩
    · rw [I1.ok.glob]
      exact ((I1.mod.glob.keeps I1.bk).keeps up).extBut x3 B.gP
    · have hb' : b' = N + 4 ∨ b' = N + 2 ∨ b' = N + 3 ∨ b' = N ∨ b' = a ∨ b' = N + 1 ∨ b' = b := by simpa using hb
      show b' < h3.objs.size
      rcases hb' with e | e | e | e | e | e | e
      · rw [e]; exact Heap.lt_size z3'
      · rw [e]; exact Heap.lt_size TI3
      · rw [e]; exact Heap.lt_size TO3
      · rw [e]; obtain ⟨_, q, _⟩ := i13; exact Heap.lt_size q
      · rw [e]; obtain ⟨_, q, _⟩ := a3; exact Heap.lt_size q
      · rw [e]; obtain ⟨_, q, _⟩ := i23; exact Heap.lt_size q
      · rw [e]; obtain ⟨_, q, _⟩ := b3; exact Heap.lt_size q
    · rw [List.forIn_nil]
      exact wpAny_pure ⟨rfl, _, _, rfl, fun _ _ e => e⟩
    · obtain ⟨x1, x2, p1, p2, e⟩ := hp
      obtain ⟨e1, e2⟩ : va = x1 ∧ vb = x2 := by simpa using congrArg Array.toList e
      subst e1 e2
      obtain ⟨n, t, hn1, rfl⟩ := num rv i _ p1
      obtain ⟨n', t', hn2, rfl⟩ := num rv2 i _ p2
      exact wpAny_mono (ht _ B' J n n' t t' u2 m2 rfl hn hm hm2) (fun y u3 r => ⟨⟨n, n', hn1, hn2, r.1⟩, r.2⟩) fun _ _ e => e
    · have lz : min ys.toArray.size zs.toArray.size = ((ns.zip ms).map fun q => f q.1 q.2).length := by rw [len, len2, List.length_map, List.length_zip]
      rw [GxR.passing_true, List.length_range, lz] at W
      rw [lz] at at0
      refine hQ ns ms H1 g _ q2 ⟨_, _, _, _, _, W.in4_1, at0, fun j v hv => ?_, fun u' mv => ?_⟩
      · obtain ⟨i, e1, n, k, e2, e3, e4⟩ := hv
        have hj := (List.getElem?_eq_some_iff.mp e1).2
        rw [List.getElem_range] at hj
        subst hj
        refine ⟨f n k, ?_, e4⟩
        rw [List.getElem?_map, (List.getElem?_zip_eq_some (z := (n, k))).mpr ⟨e2, e3⟩]
        rfl
      · obtain ⟨more, em⟩ := grown
        have old : ∀ b' o, u.heap.get? b' = some o → b' ∉ h3.objs.size :: [N + 4, N + 3, N, N + 1] := fun b' o e hb => by
          have l1 := Heap.lt_size e
          have l2 : (b' : Nat) < N := hN ▸ l1
          rcases List.mem_cons.mp hb with e | e
          · exact Nat.lt_irrefl _ (Nat.lt_trans (e ▸ l2 : (h3.objs.size : Nat) < N) (Nat.lt_of_lt_of_le szN z3))
          · exact Nat.lt_irrefl _ (Nat.lt_of_lt_of_le l2 (big _ e))
        have J := GxR.inv_tab (more := more) (h' := u'.heap) (g' := u'.gens) (d' := u'.drawn) (t' := u'.toks) I1 tP (fun b o nb e => mv.heap b o (old b o e) (k45 b o (k3' b o nb e))) (em ▸ mv.heap T _ (old T _ tab1) (k45 T _ t3)) (AllBare.movedS (I1.bare.push bare) mv)
        rw [GxR.sh_eta u u' mv.os] at J
        exact ⟨_, ⟨⟨_, upd_same, em ▸ ok3⟩, fun b nb => upd_ne nb⟩, J⟩
  rw [hN]
  refine ⟨lim, ?_⟩
  have tab2 := up T _ tab1
  cases hf : codeAmong gp ps.toList with
  | some cv => exact wpAny_genexprCode_hit hc (hd2.code tab2 tk) hf (go cv _ _ ps (Heap.ExtBut.refl _ _) (Nat.le_refl _) tab2 ⟨#[], by simp⟩ tk)
  | none =>
    refine wpAny_genexprCodeX hc (hd2.code tab2 tk) (hd2.tab tab2) hf fun c' h' n' x' ge lt isC _ tb _ => ?_
    obtain ⟨_, _, _, _, _, _, _, _, _, _, _, _, _, _, _, _, _, _, _, tr, _⟩ := isC
    exact go _ h' n' _ x' (Nat.le_trans ge (Nat.le_of_lt lt)) tb.2 ⟨_, rfl⟩ tr
/-- all(..); behind it the def's table may have grown -/
def tAllZ (K : PySem.W.Frag) (T : Addr) (f : Int → Int → Bool) (ta : TA) : TE := fun σ H Q => ta σ H fun vs H1 => ∃ (a b : Addr) (ns ms : List Int), vs = [.ref a, .ref b] ∧ SqT K H1 a (ns.map V.int) ∧ SqT K H1 b (ms.map V.int) ∧ GxR.TabG H1 T ∧ ∀ H2, GxR.Tabbed T H1 H2 → Q (.bl ((ns.zip ms).all fun q => f q.1 q.2)) H2
theorem pe_allZ {c T : Addr} {elt e1 e2 : Expr} {xa xb : Str} {pa pb pt p p0 pos pos0 gp : Pos} {kt : Nat} {sc : Scope} {f : Int → Int → Bool} {ta : TA} {k : Nat} (hr : Room k X.A) (hg0 : Gl X "all") (hm0 : X.mg "all" = none) (B : GxR.TabB X.base X.mg c T) (hc : X.env.code = .ref c) (S : GxR.GenS X.env sc xa) (hxb : sc.names.lookup xb = some .local) (hab : xa ≠ xb) (hg : Gl X "zip") (hm : X.mg "zip" = none) (ha : PA X [e1, e2] ta)
    (hst : starEach [e1, e2] X.env = (false, eval e1 X.env) :: starEach [e2] X.env) (hpl : (backTo pos (starEach [e2] X.env)).any (·.1) = false) (ht : NumT2 X.prog X.w sc xa xb elt f)
    (he : starEach [.GeneratorExp elt [⟨.Tuple [.Name xa pa, .Name xb pb] kt pt, .Call (.Name "zip" p) [e1, e2] [] pos, [], 0⟩] sc gp] X.env = (false, eval (.GeneratorExp elt [⟨.Tuple [.Name xa pa, .Name xb pb] kt pt, .Call (.Name "zip" p) [e1, e2] [] pos, [], 0⟩] sc gp) X.env) :: starEach [] X.env) :
    PE X (.Call (.Name "all" p0) [.GeneratorExp elt [⟨.Tuple [.Name xa pa, .Name xb pb] kt pt, .Call (.Name "zip" p) [e1, e2] [] pos, [], 0⟩] sc gp] [] pos0) (tAllZ X.K T f ta) := ⟨fun pins s σ H Q I h => by
  refine wpAny_Call_Name_kw (ld_blt I hg0 hm0 boot_all (PyProof.Rows.callWith_builtin1 ?_ he (by rfl)))
  rw [he]
  refine (Calls.spliced_cons (gen_zip (R := fun ns ms H1 => ∀ H2, GxR.Tabbed T H1 H2 → Q (.bl ((ns.zip ms).all fun q => f q.1 q.2)) H2) hr B hc S hxb hab hg hm ha hst hpl ht I h fun ns ms H1 g u hR rdy => Calls.spliced_nil ?_) : wpAny _ _ (spliced ((false, eval (.GeneratorExp elt [⟨.Tuple [.Name xa pa, .Name xb pb] kt pt, .Call (.Name "zip" p) [e1, e2] [] pos, [], 0⟩] sc gp) X.env) :: backTo pos0 (starEach [] X.env))) _ _ s)
  obtain ⟨fp, wr, G, F, St, W, s0, hF, hI⟩ := rdy
  refine call_all_walkS (W.self 0 _ _ _ s0 ⟨g, fp, wr, G, _, _, St, fun j => (((ns.zip ms).map fun q => f q.1 q.2)[j]?).getD false, rfl, W, s0, fun j v u2 Q2 E2 hv q => ?_, fun u' mv => ?_⟩)
  · obtain ⟨b, hb, rfl⟩ := hF j v hv
    refine wpAny_truthy_bool ?_
    simpa [hb] using q
  · obtain ⟨H2, tb, J⟩ := hI u' mv
    refine ⟨.bl _, H2, J, rfl, ?_⟩
    have e : ∀ bs : List Bool, (List.range bs.length).all (fun j => (bs[j]?).getD false) = bs.all id := fun bs => by
      rw [Bool.eq_iff_iff, List.all_eq_true, List.all_eq_true]
      constructor
      · intro q i hi
        obtain ⟨j, hj, rfl⟩ := List.getElem_of_mem hi
        simpa [List.getElem?_eq_getElem hj] using q j (List.mem_range.mpr hj)
      · intro q j hj
        have hj' := List.mem_range.mp hj
        simpa [List.getElem?_eq_getElem hj'] using q _ (List.getElem_mem hj')
    rw [e, List.all_map]
    exact hR H2 tb⟩
end
section
variable {X : Cx} {fa ca : Nat → Addr} {W : WX} {Δ : Dn}
theorem de_allZ {c : Addr} {j k : Nat} {elt e1 e2 : Expr} {ea eb : E} {xa xb : Str} {pa pb pt p p0 pos pos0 gp : Pos} {kt : Nat} {sc : Scope} (hr : Room k X.A) (hg0 : Gl X "all") (hm0 : X.mg "all" = none) (B : GxR.TabB X.base X.mg c (fa (tOff + j))) (hc : X.env.code = .ref c) (S : GxR.GenS X.env sc xa) (hxb : sc.names.lookup xb = some .local) (hab : xa ≠ xb) (hg : Gl X "zip") (hm : X.mg "zip" = none)
    (h1 : DE X fa ca W Δ e1 ea) (h2 : DE X fa ca W Δ e2 eb) (hs : starEach [e1, e2] X.env = (false, eval e1 X.env) :: starEach [e2] X.env) (hs2 : starEach [e2] X.env = (false, eval e2 X.env) :: starEach [] X.env)
    (ht : NumT2 X.prog X.w sc xa xb elt (fun i k => decide (i ≤ k)))
    (he : starEach [.GeneratorExp elt [⟨.Tuple [.Name xa pa, .Name xb pb] kt pt, .Call (.Name "zip" p) [e1, e2] [] pos, [], 0⟩] sc gp] X.env = (false, eval (.GeneratorExp elt [⟨.Tuple [.Name xa pa, .Name xb pb] kt pt, .Call (.Name "zip" p) [e1, e2] [] pos, [], 0⟩] sc gp) X.env) :: starEach [] X.env) :
    DE X fa ca W Δ (.Call (.Name "all" p0) [.GeneratorExp elt [⟨.Tuple [.Name xa pa, .Name xb pb] kt pt, .Call (.Name "zip" p) [e1, e2] [] pos, [], 0⟩] sc gp] [] pos0) (.allZ j ea eb) :=
  PE.imp (pe_allZ hr hg0 hm0 B hc S hxb hab hg hm (pa_cons h1 (pa_cons h2 pa_nil hs2) hs) hs (by rw [hs2]; rfl) ht he) fun σ H Q ⟨hid, w, st, ρ, g0, s0, p⟩ => by
    simp only [ev] at p
    refine ⟨hid, w, st, ρ, g0, s0, (PostG.bind (rel := relV X.K fa) p).mono fun x H1 ⟨d1, w1, st1, e1, g1, r1, _, p1⟩ => ?_⟩
    refine ⟨hid, w1, st1, ρ, g1, e1.slots s0, (PostG.bind (rel := relV X.K fa) p1).mono fun y H2 ⟨d2, w2, st2, e2, g2, r2, _, p2⟩ => ?_⟩
    split at p2
    · rename_i l m
      split at p2
      · rename_i ns ms i q1 q2 q3
        split at p2
        · rename_i hij
          subst hij
          obtain ⟨a, u1, u2, u3⟩ := g2.cell q3
          subst u2
          cases e2.rv r1 with
          | py dq =>
            cases dq with
            | @tup b vs _ f1 f2 =>
              cases r2 with
              | py dq2 =>
                cases dq2 with
                | @tup b2 vs2 _ f3 f4 =>
                  have e4 := f2.ints q1
                  have e5 := f4.ints q2
                  subst e4 e5
                  refine ⟨b, b2, ns, ms, rfl, SqT.of (FZ.le _ _ f1), SqT.of (FZ.le _ _ f3), u3, fun H3 hT => ?_⟩
                  obtain ⟨x2, g3⟩ := g2.grown q3 hT
                  exact p2 _ _ _ x2 g3 (.py (.bl _))
        · exact p2.elim
      · exact p2.elim
    · exact p2.elim
end
end Ev
set_option maxHeartbeats 4000000
namespace Ev
open PySem PySem.Spec PyProof.Rows L2
section
variable {X : Cx} {fa ca : Nat → Addr} {W : WX} {Δ : Dn}
theorem tLc2_of {J0 I1 : It} {eltc : E} {tgc tg1 : Tg} {own own1 : List Nat} (hown : ∀ j ∈ tgc.slots, j ∈ own) (hown1 : ∀ j ∈ tg1.slots, j ∈ own1) {σ : L2.St} {H : Hp} {Q : VK} (h : tL X.K fa ca W (evL Δ (.lc2 eltc tgc own J0 tg1 own1 I1)) σ H Q) :
    tLc2 (tG X.K fa ca W (relI X.K fa ca) (evI Δ J0)) (tTg X.K fa ca tgc) tYes (tG X.K fa ca noW (relI X.K fa ca) (evI Δ I1)) (tTg X.K fa ca tg1) tYes (tG X.K fa ca noW (relV X.K fa) (ev Δ eltc)) own own1 σ H Q := by
  obtain ⟨hid, w, st, ρ, g0, s0, p⟩ := h
  simp only [evL] at p
  refine ⟨hid, w, st, ρ, g0, s0, (PostL.bind (rel := relI X.K fa ca) p).mono fun J H1 ⟨ds, w1, st1, e1, g1, it, _, p1⟩ Dd hD => ?_⟩
  have nD := g1.noth hD
  generalize hf : (fun (d : D) (acc : List D) (st : Store) => (match asg tgc st d (Ev.wipe ρ own) with
    | some ρ' => (evI Δ I1 ρ' st).noex.bind fun es st => lcLoop (lcTurn (ev Δ eltc) (fun _ st => Rs.ok true st) tg1 (Ev.wipe ρ' own1)) acc es st
    | none => Rs.bad : Rs (List D))) = f at p1
  generalize hR : lcOut f [] ds st1 = R at p1
  have nb : R ≠ .bad := fun z => by rw [z] at p1; exact p1
  let Wf : Nat → Nat → Hp → Prop := fun i m H2 => m + i = ds.length ∧ ∃ w' st' acc vs, Good X.K fa ca (Dd :: hid) w' st' H2 ∧ w1 <+: w' ∧ Le (FZ hid w1 st1 H1) (FZ (Dd :: hid) w' st' H2) ∧ (∀ a ∈ hid, H2 a = H1 a) ∧
    H2 Dd = some (.lst vs) ∧ RVs X.K fa w' (FZ (Dd :: hid) w' st' H2) vs acc ∧ lcOut f acc (ds.drop i) st' = R
  have sl : ∀ {w' st' H2}, w1 <+: w' → Le (FZ hid w1 st1 H1) (FZ (Dd :: hid) w' st' H2) → Slots X.K fa w' (FZ (Dd :: hid) w' st' H2) (Ev.wipe ρ own) (L2.wipe σ own) := fun {w' st' H2} pre le => by
    have s1 := (e1.slots s0).wipe own
    exact ⟨s1.1, fun i d e => let ⟨v, h1, h2⟩ := s1.2 i d e; ⟨v, h1, h2.mono (fun _ _ z => pre_get pre z) le⟩⟩
  refine ⟨Wf, ⟨ds.length, by simp, w1, st1, [], [], g1.aside hD, List.prefix_refl _, FZ.aside g1 hD, fun a ha => upd_ne fun z => nD (z ▸ ha), upd_same, .nil, by rw [List.drop_zero]; exact hR⟩, ?_⟩
  rintro i m H2 ⟨hm, w', st', acc, vs, g2, pre, le, hh, hvs, rvs, hrun⟩
  obtain ⟨itm, its⟩ := it i (Dd :: hid) w' st' H2 g2 (fun _ _ z => pre_get pre z) le
  by_cases hlt : i < ds.length
  · refine .inr ?_
    have hd : ds[i]? = some ds[i] := List.getElem?_eq_getElem hlt
    obtain ⟨hgo, hy⟩ := itm _ hd
    refine ⟨hgo, Wf (i + 1) (m - 1), fun H' z => ⟨m - 1, by omega, z⟩, fun x H3 y => ?_⟩
    obtain ⟨g3, e3, rx⟩ := hy x H3 y
    have le3 := le.trans e3.le
    rw [List.drop_eq_getElem_cons hlt] at hrun
    simp only [lcOut] at hrun
    rw [← hf] at hrun
    simp only at hrun
    rw [hf] at hrun
    cases ha : asg tgc st' ds[i] (Ev.wipe ρ own) with
    | none => rw [ha] at hrun; exact absurd hrun.symm nb
    | some ρ' =>
      rw [ha] at hrun
      simp only at hrun
      refine ⟨Dd :: hid, w', st', Ev.wipe ρ own, ds[i], g3, sl pre le3, rx, ρ', ha, fun σ2 s2 l2 k2 => ⟨wipe_back hown l2 k2, ?_⟩⟩
      simp only [tYes, if_true]
      refine ⟨Dd :: hid, w', st', ρ', g3, s2, ?_⟩
      cases hT : evI Δ I1 ρ' st' with
      | ex e s => rw [hT] at hrun; exact absurd hrun.symm nb
      | bad => rw [hT] at hrun; exact absurd hrun.symm nb
      | ok es st4 =>
        rw [hT] at hrun
        simp only [Rs.noex_ok, Rs.bind_ok] at hrun
        intro J1 w4 H4 e4 g4 it4
        have le4 := le3.trans e4.le
        have pre4 := pre.trans e4.pre
        have hh4 : ∀ a ∈ hid, H4 a = H1 a := fun a ha => ((e4.asd a (List.mem_cons_of_mem _ ha)).trans (e3.asd a (List.mem_cons_of_mem _ ha))).trans (hh a ha)
        have hv4 : H4 Dd = some (.lst vs) := ((e4.asd Dd List.mem_cons_self).trans (e3.asd Dd List.mem_cons_self)).trans hvs
        have rv4 := (e3.trans e4).rvs rvs
        have s4 := (e4.slots s2).wipe own1
        generalize hf1 : lcTurn (ev Δ eltc) (fun _ st => Rs.ok true st) tg1 (Ev.wipe ρ' own1) = f1 at hrun
        let Wi : Nat → Nat → Hp → Prop := fun j k H5 => k + j = es.length ∧ ∃ w' st' acc vs, Good X.K fa ca (Dd :: hid) w' st' H5 ∧ w4 <+: w' ∧ Le (FZ (Dd :: hid) w4 st4 H4) (FZ (Dd :: hid) w' st' H5) ∧ (∀ a ∈ hid, H5 a = H1 a) ∧
          H5 Dd = some (.lst vs) ∧ RVs X.K fa w' (FZ (Dd :: hid) w' st' H5) vs acc ∧ (lcLoop f1 acc (es.drop j) st').bind (fun acc st => lcOut f acc (ds.drop (i + 1)) st) = R
        refine ⟨Wi, ⟨es.length, by simp, w4, st4, acc, vs, g4, List.prefix_refl _, fun _ _ z => z, hh4, hv4, rv4, by rw [List.drop_zero]; exact hrun⟩, ?_⟩
        rintro j k H5 ⟨hk, w5, st5, acc5, vs5, g5, pre5, le5, hh5, hv5, rv5, hrun5⟩
        obtain ⟨itm5, its5⟩ := it4 j (Dd :: hid) w5 st5 H5 g5 (fun _ _ z => pre_get pre5 z) le5
        by_cases hlt5 : j < es.length
        · refine .inr ?_
          have hd5 : es[j]? = some es[j] := List.getElem?_eq_getElem hlt5
          obtain ⟨hgo5, hy5⟩ := itm5 _ hd5
          refine ⟨hgo5, Wi (j + 1) (k - 1), fun H' z => ⟨k - 1, by omega, z⟩, fun x6 H6 y6 => ?_⟩
          obtain ⟨g6, e6, rx6⟩ := hy5 x6 H6 y6
          have le6 := le5.trans e6.le
          rw [List.drop_eq_getElem_cons hlt5] at hrun5
          simp only [lcLoop] at hrun5
          rw [← hf1] at hrun5
          unfold lcTurn at hrun5
          have sl6 : Slots X.K fa w5 (FZ (Dd :: hid) w5 st5 H6) (Ev.wipe ρ' own1) (L2.wipe σ2 own1) := ⟨s4.1, fun i d e => let ⟨v, h1, h2⟩ := s4.2 i d e; ⟨v, h1, h2.mono (fun _ _ z => pre_get pre5 z) le6⟩⟩
          cases ha1 : asg tg1 st5 es[j] (Ev.wipe ρ' own1) with
          | none => rw [ha1] at hrun5; exact absurd hrun5.symm nb
          | some ρ7 =>
            rw [ha1] at hrun5
            simp only [Rs.noex_ok, Rs.bind_ok, if_true] at hrun5
            refine ⟨Dd :: hid, w5, st5, Ev.wipe ρ' own1, es[j], g6, sl6, rx6, ρ7, ha1, fun σ3 s3 l3 k3 => ⟨wipe_back hown1 l3 k3, ?_⟩⟩
            refine ⟨Dd :: hid, w5, st5, ρ7, g6, s3, ?_⟩
            cases hE : ev Δ eltc ρ7 st5 with
            | ex e s => rw [hE] at hrun5; exact absurd hrun5.symm nb
            | bad => rw [hE] at hrun5; exact absurd hrun5.symm nb
            | ok d8 st8 =>
              rw [hE] at hrun5
              simp only [Rs.noex_ok, Rs.bind_ok] at hrun5
              intro yv w8 H8 e8 g8 ry
              have hv8 : H8 Dd = some (.lst vs5) := ((e8.asd Dd List.mem_cons_self).trans (e6.asd Dd List.mem_cons_self)).trans hv5
              split at hrun5
              · rename_i hlen
                have rv8 := (e6.trans e8).rvs rv5
                refine ⟨vs5, hv8, by rw [rv8.length, sizeLine_eq]; exact hlen, by omega, w8, st8, acc5 ++ [d8], vs5 ++ [yv], g8.turn List.mem_cons_self, pre5.trans e8.pre, ?_, ?_, upd_same, ?_, by rw [← hrun5, ← hf1]; rfl⟩
                · rw [FZ.turn List.mem_cons_self]; exact le6.trans e8.le
                · intro a ha
                  have ne : a ≠ Dd := fun z => nD (z ▸ ha)
                  rw [upd_ne ne]
                  exact ((e8.asd a (List.mem_cons_of_mem _ ha)).trans (e6.asd a (List.mem_cons_of_mem _ ha))).trans (hh5 a ha)
                · rw [FZ.turn List.mem_cons_self]
                  exact rv8.append (.cons ry .nil)
              · exact absurd hrun5.symm nb
        · refine .inl ⟨its5 (by omega), by omega, w5, st5, acc5, vs5, g5, pre4.trans pre5, le4.trans le5, hh5, hv5, rv5, ?_⟩
          rw [List.drop_eq_nil_of_le (as := es) (by omega)] at hrun5
          simp only [lcLoop, Rs.bind_ok] at hrun5
          exact hrun5
  · refine .inl ⟨its (by omega), ?_⟩
    rw [List.drop_eq_nil_of_le (by omega)] at hrun
    simp only [lcOut] at hrun
    rw [← hrun] at p1
    exact p1 Dd vs w' H2 nD g2 hvs rvs pre le hh
theorem dl_lc2 {elt tg iter tg' iter' : Expr} {scope : Scope} {own : List (Str × Nat)} {own1 : List Nat} {pos : Pos} {J0 I1 : It} {eltc : E} {tgc tg1 : Tg} (hown : ∀ j ∈ tgc.slots, j ∈ own.map (·.2)) (hown1 : ∀ j ∈ tg1.slots, j ∈ own1) (hv : ∀ i ∈ own1, i ∈ own.map (·.2)) (hc : X.calm = true) (hN : X.N.Nodup) (hi : DI X fa ca W Δ tg iter J0) (ok : BlkOk X.N X.env.scope scope own)
    (hg : ∀ (s : Shared) (H : Hp) (C : Addr) (cl : List (Str × Addr)) (fp : List Addr), DG (X.blk s H scope (compEnvC scope cl C X.env) fp) fa ca tg tgc)
    (hi1 : ∀ (s : Shared) (H : Hp) (C : Addr) (cl : List (Str × Addr)) (fp : List Addr), DI (X.blk s H scope (compEnvC scope cl C X.env) fp) fa ca noW Δ tg' iter' I1)
    (hg1 : ∀ (s : Shared) (H : Hp) (C : Addr) (cl : List (Str × Addr)) (fp : List Addr), DG (X.blk s H scope (compEnvC scope cl C X.env) fp) fa ca tg' tg1)
    (he : ∀ (s : Shared) (H : Hp) (C : Addr) (cl : List (Str × Addr)) (fp : List Addr), DE (X.blk s H scope (compEnvC scope cl C X.env) fp) fa ca noW Δ elt eltc) (hs : ∀ x, foldedSetIterable iter X.env x = pure x) (hs1 : ∀ env x, foldedSetIterable iter' env x = pure x) :
    DL X fa ca W Δ (.ListComp elt [⟨tg, iter, [], 0⟩, ⟨tg', iter', [], 0⟩] scope pos) (.lc2 eltc tgc (own.map (·.2)) J0 tg1 own1 I1) :=
  PE.imp (pe_lc2 hc hN hi ok hv hg (fun _ _ _ _ _ => pts_nil) hi1 hg1 (fun _ _ _ _ _ => pts_nil) he hs hs1) fun σ H Q h => tLc2_of (X := X) hown hown1 h
theorem dl_setLc2 {i : Nat} {y : Str} {py spos : Pos} {elt tg iter tg' iter' : Expr} {scope : Scope} {own : List (Str × Nat)} {own1 : List Nat} {pos : Pos} {J0 I1 : It} {eltc : E} {tgc tg1 : Tg} (hy : X.N[i]? = some y) (hyl : X.env.scope.names.lookup y = some .local)
    (hsw : swapsWith (.ListComp elt [⟨tg, iter, [], 0⟩, ⟨tg', iter', [], 0⟩] scope pos) (some (.Name y py)) spos.line X.env = pure true) (hown : ∀ j ∈ tgc.slots, j ∈ own.map (·.2)) (hown1 : ∀ j ∈ tg1.slots, j ∈ own1) (hv : ∀ i ∈ own1, i ∈ own.map (·.2)) (hc : X.calm = true) (hN : X.N.Nodup) (hi : DI X fa ca W Δ tg iter J0) (ok : BlkOk X.N X.env.scope scope own)
    (hg : ∀ (s : Shared) (H : Hp) (C : Addr) (cl : List (Str × Addr)) (fp : List Addr), DG (X.blk s H scope (compEnvC scope cl C X.env) fp) fa ca tg tgc)
    (hi1 : ∀ (s : Shared) (H : Hp) (C : Addr) (cl : List (Str × Addr)) (fp : List Addr), DI (X.blk s H scope (compEnvC scope cl C X.env) fp) fa ca noW Δ tg' iter' I1)
    (hg1 : ∀ (s : Shared) (H : Hp) (C : Addr) (cl : List (Str × Addr)) (fp : List Addr), DG (X.blk s H scope (compEnvC scope cl C X.env) fp) fa ca tg' tg1)
    (he : ∀ (s : Shared) (H : Hp) (C : Addr) (cl : List (Str × Addr)) (fp : List Addr), DE (X.blk s H scope (compEnvC scope cl C X.env) fp) fa ca noW Δ elt eltc) (hs : ∀ x, foldedSetIterable iter X.env x = pure x) (hs1 : ∀ env x, foldedSetIterable iter' env x = pure x) :
    PS X (.Assign [.Name y py] (.ListComp elt [⟨tg, iter, [], 0⟩, ⟨tg', iter', [], 0⟩] scope pos) spos) (tAsg (tL X.K fa ca W (evL Δ (.lc2 eltc tgc (own.map (·.2)) J0 tg1 own1 I1))) (gName i)) :=
  PS.imp (ps_setLc2 hc hN hy hyl hsw hi ok hv hg (fun _ _ _ _ _ => pts_nil) hi1 hg1 (fun _ _ _ _ _ => pts_nil) he hs hs1) fun D σ H h => tLc2_of (X := X) hown hown1 h
end
end Ev
set_option maxHeartbeats 2000000
namespace Ev
open PySem PySem.Spec PyProof.Rows L2
abbrev tabO : Obj := { cls := .none, data := .fields #[] }
/-- what is tracked ahead of the law's call: the script, the tables -/
def OnlyT (ts : List Addr) (H : Hp) : Prop := (∀ t ∈ ts, H t = some (.tbl #[])) ∧ ∀ b, H b = none ∨ b ∈ ts ∨ ∃ o xs, H b = some (.frz o (.lst xs))
theorem call_topT {P : Program} {w : World} {K : PySem.W.Frag} {mg mb : Str → Option Value} {k : Nat} {fa a : Addr} {ts : List Addr} {fd : FuncData} {x : Str} {sp : Sp} {s : Shared} {vs : List Value} {ns : List Int} (KX : K.In s.heap) (hns : s.heap.Ns mainGlobals mg) (hb : s.heap.Ns builtinsNs mb) (hbb : ∀ x : Str, x ≠ "__name__" → mb x = bootBuiltins x) (hlim : s.heap.NoLimit) (hg : s.gens = #[])
    (hT : ∀ t ∈ ts, s.heap.get? t = some tabO) (nT : ∀ t ∈ ts, K.lookup t = none) (cT : ∀ t ∈ ts, ∃ c, PySem.W.codeHdIn K c t = true) (hbm : ∃ (bm : Addr) (ob : Obj), mg "__builtins__" = some (.ref bm) ∧ bm ≠ builtinsNs ∧ s.heap.get? bm = some ob ∧ ob.cls = .type "module" ∧ ob.dict = some builtinsNs ∧ ob.data = .plain)
    (ha : s.heap.get? a = some { cls := .type "list", data := .seq vs.toArray }) (hi : IntsAre vs ns) (hl : ns.length ≤ sizeLine) (hr : RoomG k callerA)
    (F : ∀ base : Heap, K.In base → base.Ns mainGlobals mg → (∀ c t, t ∈ ts → PySem.W.codeHdIn K c t = true → GxR.TabB base mg c t) → FnG P w K mg base k fa fd [x] sp) (hbind : ∀ (s : Shared) (u : Value), BindsTo s fd ⟨[u], []⟩ [(x, u)]) (hsp : ∀ H : Hp, OnlyT ts H → SqL K H a (ns.map V.int) → sp [.ref a] H (fun v _ => v = .bl true) fun _ _ _ => False) :
    codeAny (model P w) callerA (.call (.ref fa) ⟨[.ref a], []⟩) (fun r s' => r = .ok (.ret (.bool true)) ∧ OldK s.heap s'.heap ∧ s'.os = s.os ∧ AllBare s'.gens) s := by
  have rv := vals_ints hi
  have aT : a ∉ ts := fun z => by
    have q := hT a z
    rw [ha] at q
    exact absurd (congrArg Obj.data (Option.some.inj q)) fun z => by cases z
  have key : ∀ H : Hp, OnlyT ts H → SqL K H a (ns.map V.int) → HOk P w H s.heap → (∀ b, H b ≠ none → b ∈ ts ∨ (b = a ∧ K.lookup a = none)) → codeAny (model P w) callerA (.call (.ref fa) ⟨[.ref a], []⟩) (fun r s' => r = .ok (.ret (.bool true)) ∧ OldK s.heap s'.heap ∧ s'.os = s.os ∧ AllBare s'.gens) s := fun H hO hS hok hA => by
    have free : ∀ {b : Addr} {o : Obj}, s.heap.get? b = some o → (K.lookup b = some o ∨ ((∀ v n, o.data ≠ .seq v n) ∧ o.data ≠ .fields #[])) → H b = none := fun {b o} e z => by
      cases q : H b with
      | none => rfl
      | some u =>
        rcases hA b (by rw [q]; simp) with m | ⟨rfl, n⟩
        · rcases z with z | z
          · rw [nT b m] at z; cases z
          · rw [hT b m] at e; cases e; exact absurd rfl z.2
        · rcases z with z | z
          · rw [n] at z; cases z
          · rw [ha] at e; cases e; exact absurd rfl (z.1 _ _)
    have nsB : ∀ {b : Addr} {m : Str → Option Value}, s.heap.Ns b m → (hidT s.heap H).Ns b m := fun {b m} ⟨o, es, ep, e, d, r⟩ => ⟨o, es, ep, hidT_get e (free e (.inr ⟨(fun v n z => by rw [d] at z; cases z), (fun z => by rw [d] at z; cases z)⟩)), d, r⟩
    have kB : K.In (hidT s.heap H) := fun b o e => hidT_get (KX b o e) (free (KX b o e) (.inl e))
    have tB : ∀ c t, t ∈ ts → PySem.W.codeHdIn K c t = true → GxR.TabB (hidT s.heap H) mg c t := fun c t m e => by
      refine ⟨PySem.W.codeHd_of_K kB e, ?_, fun z => ?_⟩
      · obtain ⟨bm, ob, b1, b2, b3, b4, b5, b6⟩ := hbm
        have dp : (∀ v n, ob.data ≠ .seq v n) ∧ ob.data ≠ .fields #[] := ⟨(fun v n z => by rw [b6] at z; cases z), (fun z => by rw [b6] at z; cases z)⟩
        refine ⟨bm, ob, b1, b2, fun q => ?_, fun q => ?_, hidT_get b3 (free b3 (.inr dp)), b4, b5, b6⟩
        · obtain ⟨o, es, ep, e1, d, _⟩ := hns
          rw [← q, b3] at e1; cases e1
          rw [b6] at d; cases d
        · rw [q, hT t m] at b3; cases b3; cases b6
      · obtain ⟨o, es, ep, e1, d, _⟩ := hns
        rw [z, hT t m] at e1; cases e1; cases d
    have e0 : Env0 P w K mg (hidT s.heap H) callerA [] s H := ⟨rfl, ⟨kB, nsB hns, ⟨mb, nsB hb, hbb⟩, let ⟨mc, h1, h2⟩ := hlim; ⟨mc, nsB h1, h2⟩⟩, fun b o e => of_hidT e, Nat.le_of_eq (hidT_size _ _), trivial, fun b hb => absurd (show b ∈ ([] : List Addr) from hb) (by simp), hok, .of_eq hg⟩
    refine codeAny_mono ((F _ kB (nsB hns) tB).run callerA [] s H ⟨[.ref a], []⟩ [.ref a] [.ref a] _ _ hr e0 (hbind s (.ref a)) (.cons rfl .nil) (hsp H hO hS)) fun r s' h => ?_
    cases r with
    | error e =>
      obtain ⟨_, _, _, _, _, _, _, _, _, _, _, _, z⟩ := (show L2.CX P w [] H s (fun _ _ _ => False) e s' from h)
      exact z.elim
    | ok fl =>
      cases fl with
      | next => exact h.elim
      | brk => exact h.elim
      | cont => exact h.elim
      | ret u =>
        obtain ⟨v, H', os, bare, un, hok', r', q⟩ := h
        cases (show v = .bl true from q)
        cases (show u = Value.bool true from r')
        have same : ∀ b o, b ∉ ts → s.heap.get? b = some o → s'.heap.get? b = some o := fun b o nb e => by
          rcases hO.2 b with z | z | ⟨o2, xs, z⟩
          · exact un.keep b o e z (by intro z; exact absurd (show b ∈ ([] : List Addr) from z) (by simp)) (by simp)
          · exact absurd z nb
          · have e1 := (hok b _ z).1
            rw [e] at e1; cases e1
            exact (hok' b _ (un.frzs b _ _ z)).1
        have more : ∀ t ∈ ts, ∃ m : Array Value, s'.heap.get? t = some { cls := .none, data := .fields m } := fun t m => by
          obtain ⟨ex, z⟩ := un.tbls t #[] (hO.1 t m)
          exact ⟨_, hok' t _ z⟩
        refine ⟨rfl, ⟨fun b o e => ?_, fun b o e => ?_⟩, os, bare⟩
        · by_cases m : b ∈ ts
          · obtain ⟨mm, hm⟩ := more b m
            obtain ⟨c, hc⟩ := cT b m
            rw [hT b m] at e; cases e
            exact .inr (.inl ⟨((PySem.W.codeHd_of_K KX hc).tab (hT b m)).isCodeTable, rfl, #[], mm, rfl, by rw [Array.empty_append]; exact hm⟩)
          · exact .inl (same b o m e)
        · by_cases m : b ∈ ts
          · obtain ⟨mm, hm⟩ := more b m
            exact ⟨_, hm⟩
          · exact ⟨o, same b o m e⟩
  by_cases hk : K.lookup a = none
  · have at_a : ∀ b, b = a → (if b = a then some (HO.frz { cls := .type "list", data := .seq vs.toArray } (.lst (ns.map V.int))) else if b ∈ ts then some (.tbl #[]) else none) = some (.frz { cls := .type "list", data := .seq vs.toArray } (.lst (ns.map V.int))) := fun b e => if_pos e
    have at_t : ∀ b, b ≠ a → b ∈ ts → (if b = a then some (HO.frz { cls := .type "list", data := .seq vs.toArray } (.lst (ns.map V.int))) else if b ∈ ts then some (.tbl #[]) else none) = some (.tbl #[]) := fun b e m => (if_neg e).trans (if_pos m)
    have at_n : ∀ b, b ≠ a → b ∉ ts → (if b = a then some (HO.frz { cls := .type "list", data := .seq vs.toArray } (.lst (ns.map V.int))) else if b ∈ ts then some (.tbl #[]) else none) = none := fun b e m => (if_neg e).trans (if_neg m)
    have ne : ∀ t ∈ ts, t ≠ a := fun t m z => aT (z ▸ m)
    refine key _ ⟨fun t m => at_t t (ne t m) m, fun b => ?_⟩ (.inl (.inr ⟨_, at_a a rfl⟩)) (fun b u z => ?_) fun b z => ?_
    · by_cases e : b = a
      · exact .inr (.inr ⟨_, _, at_a b e⟩)
      · by_cases m : b ∈ ts
        · exact .inr (.inl m)
        · exact .inl (at_n b e m)
    · by_cases e : b = a
      · cases (at_a b e).symm.trans z
        subst e
        exact ⟨ha, by rw [List.length_map]; exact hl, vs, _, rv, ha⟩
      · by_cases m : b ∈ ts
        · cases (at_t b e m).symm.trans z
          exact hT b m
        · cases (at_n b e m).symm.trans z
    · by_cases e : b = a
      · exact .inr ⟨e, hk⟩
      · by_cases m : b ∈ ts
        · exact .inl m
        · exact absurd (at_n b e m) z
  · obtain ⟨o, ho⟩ := Option.ne_none_iff_exists'.mp hk
    have e := KX a o ho
    rw [ha] at e
    cases e
    refine key (fun b => if b ∈ ts then some (.tbl #[]) else none) ⟨fun t m => if_pos m, fun b => ?_⟩ (.inr ⟨_, vs.toArray, _, ho, rfl, rfl, rfl, by rw [List.size_toArray, hi.length]; exact hl, by simpa using rv⟩) (fun b u z => ?_) fun b z => ?_
    · by_cases m : b ∈ ts
      · exact .inr (.inl m)
      · exact .inl (if_neg m)
    · by_cases m : b ∈ ts
      · cases (if_pos m).symm.trans z
        exact hT b m
      · cases (if_neg m).symm.trans z
    · by_cases m : b ∈ ts
      · exact .inl m
      · exact absurd (if_neg m) z
theorem walkGT {l : PySem.W.OpenLaw} {n k : Nat} {q : Program} {loose : List Str} {XP : (Str → Option Value) → Heap → Prop} {YP : World → Heap → Prop} {d : DefRec} {x : Str} (hn : l.most = Option.some n) (hn2 : n ≤ sizeLine) (hdf : d.params.defaults = []) (hr : RoomG k callerA)
    (F : ∀ (w : World) (mg : Str → Option Value) (fa : Addr) (h : Heap), YP w h → h.Ns mainGlobals mg → mg d.name = Option.some (.ref fa) →
      ∃ (K : PySem.W.Frag) (fd : FuncData) (sp : Sp) (ts : List Addr), K.In h ∧ (∀ t ∈ ts, h.get? t = some tabO) ∧ (∀ t ∈ ts, K.lookup t = none) ∧ (∀ t ∈ ts, ∃ c, PySem.W.codeHdIn K c t = true) ∧ (∀ (s : Shared) (u : Value), BindsTo s fd ⟨[u], []⟩ [(x, u)]) ∧
        (∀ (H : Hp) (a : Addr) (ns : List Int), ns.length ≤ n → OnlyT ts H → SqL K H a (ns.map V.int) → sp [.ref a] H (fun v _ => v = .bl true) fun _ _ _ => False) ∧
        ∀ base : Heap, K.In base → base.Ns mainGlobals mg → (∀ c t, t ∈ ts → PySem.W.codeHdIn K c t = true → GxR.TabB base mg c t) → FnG l.prog w K mg base k fa fd [x] sp) : PySem.W.WalkO q loose XP YP l.row.toRowW d [] (fun f vs => PySem.call f vs) :=
  Att.attach_call hn hdf fun w s₀ s₁ mg mb fa o pm cd doc a vs ns G Y ho hd hcd hmg hobj hints hlen hg => by
    obtain ⟨K, fd, sp, ts, KX, t1, t2, t3, hb, hsp, hF⟩ := F w mg fa _ Y G.T.g hmg
    exact call_topT KX G.T.g G.T.b G.T.builtins G.T.nolimit hg t1 t2 t3 G.T.bmain hobj hints (Nat.le_trans hlen hn2) hr hF hb fun H hO hS => hsp H a ns hlen hO hS
/-- the script's promise, the tables being the first cells -/
theorem spF_lawT {K : PySem.W.Frag} {fa ca : Nat → Addr} {Δ : Dn} {f m : Nat} {H : Hp} {a : Addr} {ns : List Int} {st : Store} (hS : SqL K H a (ns.map V.int)) (hT : ∀ j, j < m → H (fa (tOff + j)) = some (.tbl #[])) (inj : ∀ i j, i < m → j < m → fa (tOff + i) = fa (tOff + j) → i = j) (na : ∀ j, j < m → H a ≠ none → fa (tOff + j) ≠ a)
    (h : Δ f [.scr ns] ((List.range m).map Cell.tab) = .ok (.py (.bool true)) st) : spF K fa ca Δ f 1 [.ref a] H (fun v _ => v = .bl true) fun _ _ _ => False := by
  have w_at : ∀ n b, ((List.range m).map fun j => fa (tOff + j))[n]? = some b → n < m ∧ b = fa (tOff + n) := fun n b e => by
    rw [List.getElem?_map] at e
    obtain ⟨i, e1, e2⟩ := Option.map_eq_some_iff.mp e
    obtain ⟨q1, q2⟩ := List.getElem?_eq_some_iff.mp e1
    rw [List.getElem_range] at q2
    rw [List.length_range] at q1
    subst q2
    exact ⟨q1, e2.symm⟩
  have s_at : ∀ n c, ((List.range m).map Cell.tab)[n]? = some c → c = Cell.tab n := fun n c e => by
    rw [List.getElem?_map] at e
    obtain ⟨i, e1, e2⟩ := Option.map_eq_some_iff.mp e
    obtain ⟨q1, q2⟩ := List.getElem?_eq_some_iff.mp e1
    rw [List.getElem_range] at q2
    subst q2
    exact e2.symm
  have sq : SqL K (FZ [] ((List.range m).map fun j => fa (tOff + j)) ((List.range m).map Cell.tab) H) a (ns.map V.int) := by
    by_cases z : H a = none
    · rcases hS with (q | ⟨_, q⟩) | q
      · rw [z] at q; cases q
      · rw [z] at q; cases q
      · exact .inr q
    · have e : FZ [] ((List.range m).map fun j => fa (tOff + j)) ((List.range m).map Cell.tab) H a = H a := by
        unfold FZ
        rw [if_neg]
        rintro (⟨n, c, h1, _⟩ | h1)
        · obtain ⟨q1, q2⟩ := w_at n a h1
          exact na n q1 z q2.symm
        · cases h1
      unfold SqL Rd at hS ⊢
      rw [e]
      exact hS
  refine ⟨[], (List.range m).map fun j => fa (tOff + j), (List.range m).map Cell.tab, [.scr ns], ⟨by simp, ?_, fun b hb => ?_, fun a h => by simp at h, fun n b c h1 h2 => ?_⟩, .cons (.scr sq) .nil, rfl, ?_⟩
  · have go : ∀ l : List Nat, l.Nodup → (∀ i ∈ l, i < m) → (l.map fun j => fa (tOff + j)).Nodup := by
      intro l
      induction l with
      | nil => intro _ _; exact .nil
      | cons i l ih =>
        intro nd lt
        rw [List.nodup_cons] at nd
        rw [List.map_cons, List.nodup_cons]
        refine ⟨fun z => ?_, ih nd.2 fun k hk => lt k (List.mem_cons_of_mem _ hk)⟩
        obtain ⟨k, hk, e⟩ := List.mem_map.mp z
        exact nd.1 (inj k i (lt k (List.mem_cons_of_mem _ hk)) (lt i List.mem_cons_self) e ▸ hk)
    exact go _ List.nodup_range fun i hi => List.mem_range.mp hi
  · obtain ⟨j, hj, rfl⟩ := List.mem_map.mp hb
    exact ⟨_, hT j (List.mem_range.mp hj)⟩
  · obtain ⟨q1, q2⟩ := w_at n b h1
    rw [s_at n c h2, q2]
    exact ⟨rfl, #[], hT n q1, by first | trivial | exact GxR.triples_nil | simp [TriplesOk]⟩
  · rw [h]
    intro v w' H' _ _ r
    exact bl_rv r
end Ev
set_option maxHeartbeats 4000000
namespace Ev
open PySem PySem.Spec PyProof.Rows L2
theorem xa2 {a b : Bool} (h : (a && b) = true) : a = true ∧ b = true := Bool.and_eq_true_iff.mp h
theorem xd {p : Prop} [Decidable p] (h : decide p = true) : p := of_decide_eq_true h
/-- the context of such an __init__ -/
def cxX (CX : CXT) (P : Program) (w : World) (K : PySem.W.Frag) (mg : Str → Option Value) (base : Heap) (N : List Str) (qual : Str) (scope : Scope) (f : Addr) (cd : Value) (cc : Addr) (A : Around) (outer : List Env) (s : Shared) (H : Hp) (E : XK) : Cx where
  prog := P
  w := w
  K := K
  mg := mg
  base := base
  A := A.deeper (PySem.W.ksEnv qual scope s.heap.objs.size f cd cc)
  N := N
  s_0 := s
  H_0 := H
  env := PySem.W.ksEnv qual scope s.heap.objs.size f cd cc
  outer := outer
  stack := PySem.W.ksEnv qual scope s.heap.objs.size f cd cc :: outer
  ex := []
  calm := true
  fn := fun _ => false
  pn := []
  xe := fun e s' => wpAny (model P w) (A.deeper (PySem.W.ksEnv qual scope s.heap.objs.size f cd cc)) (leaving (PySem.W.ksEnv qual scope s.heap.objs.size f cd cc) e) (fun _ s'' => CX outer H s E e s'') (fun e' s'' => CX outer H s E e' s'') s'
/-- a part of the f-string: a text, the argument -/
def ptE (x : Str) : Expr → Bool
  | .Constant (.str t) _ _ => decide (t.length ≤ 2000)
  | .FormattedValue (.Name y _) k none _ => decide (y = x) && decide (k = -1)
  | _ => false
/-- what the written part says of such a class -/
structure ErrI (K : PySem.W.Frag) (file : Str) (C fI : Addr) (fld : Str) (fd : FuncData) (sf x : Str) : Prop where
  ox : OexC K C
  ini : PySem.W.findIn K (.ref C) "__init__" = some (some (.ref fI))
  tI : PySem.W.typeIn K (.ref fI) = some (.type "function")
  nof : PySem.W.findIn K (.ref C) fld = some none
  sup : PySem.W.ks_superIn K C C "__init__" = some (some (.builtin "ValueError.__init__"))
  subV : PySem.W.subIn K (.ref C) (.type "ValueError") = some true
  mroC : PySem.W.mroIn K C (.ref C) = some true
  opq : PySem.W.nsIn K cStatics "thirdparty.any" = some none
  text : ∃ (oc : Value) (od : Option Addr) (osl : Array (Option Value)) (name qual : Str) (params : Arguments) (scope : Scope) (dV kV doc pm ct : Value) (an : Option Addr) (cc cda : Addr) (ar : Arg)
      (p0 p1 p2 p3 p4 p5 p6 p7 p8 p9 : Pos) (v1 v2 : Expr) (rest : List Expr) (ccl cl : Value) (cdd cld : Option Addr) (ccs csl : Array (Option Value)) (vs : Array Value) (tf : Tok) (cdD : ClassData),
    K.lookup fI = some ⟨oc, od, .func fd, osl⟩ ∧
    fd = PySem.W.ksFn name qual params [.Expr (.Call (.Attribute (.Call (.Name "super" p0) [] [] p1) "__init__" p2) [.JoinedStr (v1 :: v2 :: rest) p3] [] p4) p5, .Assign [.Attribute (.Name sf p6) fld p7] (.Name x p8) p9] scope dV kV doc pm an (.ref cda) ct cc ∧
    PySem.W.codeIn K (.ref cda) qual = true ∧ (params.posonlyargs ++ params.args).head? = some ar ∧ ar.arg = sf ∧
    ((∀ v ∈ v1 :: v2 :: rest, ptE x v = true) ∧ rest.length ≤ 4 ∧ (p2.endLine == p4.line) = true) ∧
    scope.names.lookup ("super" : Str) = some .globalImplicit ∧ scope.names.lookup ("__class__" : Str) = some .free ∧ scope.names.lookup sf = some .local ∧ scope.names.lookup x = some .local ∧
    (∀ y ∈ scope.names, y.2 ≠ .cell) ∧ (∀ y ∈ scope.names, y.2 = .free → y.1 = "__class__") ∧ scope.kind = .function ∧ scope.isCoroutine = false ∧ scope.isGenerator = false ∧
    K.lookup cda = some ⟨ccl, cdd, .fields vs, ccs⟩ ∧ vs[2]? = some (.str file tf) ∧ K.lookup cc = some ⟨cl, cld, .cell (some (.ref C)), csl⟩ ∧ PySem.W.clsIn K C = some cdD ∧ sf ≠ x ∧ (sf == ("__debug__" : Str)) = false ∧ (x == ("__debug__" : Str)) = false ∧ (sf == ("__classdict__" : Str)) = false ∧ (x == ("__classdict__" : Str)) = false
/-- its promise -/
def spErr (C : Addr) (fld : Str) : Sp := fun vs H Q _ => ∃ (a : Addr) (i : Int), vs = [.ref a, .int i] ∧ i.natAbs.log2 < 1920 ∧ H a = some (exo a C none) ∧
  ∀ dx, H dx = none → dx ≠ a → Q .non (upd (upd H dx (exd dx [(fld, .int i)])) a (exo a C (some dx)))
theorem kxs_pins {X : Cx} {pins : List (Addr × Obj)} {σ : L2.St} {H : Hp} {s : Shared} (I : Inv X pins σ H s) {h' : Heap} {t' : Nat} {o : Obj} (k : ∀ b u, s.heap.get? b = some u → h'.get? b = some u) (e : h'.get? s.heap.objs.size = some o) (nc : ∀ v, o.data ≠ .cell v) :
    Inv X (pins ++ [(s.heap.objs.size, o)]) σ H { s with heap := h', toks := t' } := by
  have J : Inv X pins σ H { s with heap := h', toks := t' } := I.kept k
  refine J.pins_of fun p hp => ?_
  rcases List.mem_append.mp hp with z | z
  · exact J.pin p (List.mem_append_right _ z)
  · rw [List.mem_singleton.mp z]
    exact ⟨e, I.hok.fresh (Nat.le_refl _), fun q => absurd I.lt (by rw [← q]; exact Nat.lt_irrefl _), I.nofs (Nat.le_refl _), nc⟩
theorem parts_pj {X : Cx} {x : Str} {i : Nat} (hN : X.N[i]? = some x) (hv : Vis X.env.scope x) (hd : (x == ("__debug__" : Str)) = false) (hcd : (x == ("__classdict__" : Str)) = false) : ∀ (vs : List Expr), (∀ v ∈ vs, ptE x v = true) → ∃ ts, PJ X vs ts ∧
    ∀ (n : Int) (σ : L2.St) (H : Hp), σ[i]? = some (some (.int n)) → n.natAbs.log2 < 1920 → ∀ (acc : Str) (Q : Str → Hp → Prop), acc.length + 2000 * vs.length ≤ sizeLine → (∀ out, Q out H) → tJs ts acc σ H Q := by
  intro vs
  induction vs with
  | nil => exact fun _ => ⟨[], .nil, fun n σ H _ _ acc Q _ q => q acc⟩
  | cons v vs ih =>
    intro h
    obtain ⟨ts, hp, hr⟩ := ih fun z hz => h z (List.mem_cons_of_mem _ hz)
    have h0 := h v List.mem_cons_self
    unfold ptE at h0
    split at h0
    · rename_i t j p
      have ht : t.length ≤ 2000 := of_decide_eq_true h0
      refine ⟨_, .cons pe_str hp, fun n σ H hs hl acc Q ha q => ⟨t, rfl, ?_, hr n σ H hs hl _ Q ?_ q⟩⟩
      · rw [Str.length_append]; rw [List.length_cons] at ha; omega
      · rw [Str.length_append]; rw [List.length_cons] at ha; omega
    · rename_i y p k p'
      obtain ⟨h1, h2⟩ := xa2 h0
      obtain rfl : y = x := xd h1
      obtain rfl : k = -1 := xd h2
      refine ⟨_, .cons (pe_fmt (pe_var hN hv hd hcd)) hp, fun n σ H hs hl acc Q ha q => ⟨.int n, hs, .inr ⟨n, rfl, hl, _, rfl, ?_, hr n σ H hs hl _ Q ?_ q⟩⟩⟩
      all_goals
        have z := int_text_len_1921 (i := n) hl
        rw [Str.length_append]; rw [List.length_cons] at ha; omega
    · cases h0
theorem meth_eval {o : Expr} {name : Str} {apos pos : Pos} {e : Expr} {env : Env} (hl : (apos.endLine == pos.line) = true) (hs : starEach [e] env = [(false, eval e env)]) : eval (.Call (.Attribute o name apos) [e] [] pos) env = (do
      let ov ← attributeBase o name env (eval o env)
      standAt apos.atName
      let (f, first) ← holding [ov] (getMethod ov name (do return (← importBound o env).getD true))
      callWith pos f first (backTo pos (starEach [e] env)) []) := by
  have hform : methodCallForm ([e].length + ([] : List Keyword).length) (backTo pos (starEach [e] env)) (backToKw pos (keywordEach [] env)) = true := by rw [hs]; rfl
  have hpos : methodCallPos true o env apos pos = pure pos := by
    unfold methodCallPos
    rw [hl]
    rfl
  rw [arm_eval_Call]
  unfold methodCall
  rw [hform, hpos]
  simp only [calleeOf, if_true, pure_bind]
  rfl
theorem super_call {X : Cx} {pins : List (Addr × Obj)} {σ : L2.St} {H : Hp} {s : Shared} {so a C : Addr} {e : Expr} {es : List Expr} {ta : TA} {pl : Sem Bool} {pos : Pos} {Q : Value → Shared → Prop} {cdD : ClassData}
    (I : Inv X pins σ H s) (hso : s.heap.get? so = some (PySem.W.ks_superObj C a C)) (T : OexC X.K C) (sup : PySem.W.ks_superIn X.K C C "__init__" = some (some (.builtin "ValueError.__init__"))) (subV : PySem.W.subIn X.K (.ref C) (.type "ValueError") = some true)
    (opq : PySem.W.nsIn X.K cStatics "thirdparty.any" = some none) (hcls : PySem.W.clsIn X.K C = some cdD) (ha : H a = some (exo a C none)) (hp : PA X (e :: es) ta) (hta : ta σ H fun vs H1 => H1 = H ∧ vs.length ≤ 1000) (h : ∀ s', Inv X pins σ H s' → Q .none s')
    (he : starEach (e :: es) X.env = (false, eval e X.env) :: starEach es X.env := by rfl) (hpl : (backTo pos (starEach es X.env)).any (·.1) = false := by rfl) :
    wpAny (model X.prog X.w) X.A (getMethod (.ref so) "__init__" pl) (fun fx s₂ => wpAny (model X.prog X.w) X.A (callWith pos fx.1 fx.2 (backTo pos (starEach (e :: es) X.env)) []) Q X.xe s₂) X.xe s := by
  have KX := I.kIn
  obtain ⟨t0, hoa⟩ := exo_at I.hok ha
  have IA : PySem.W.InstAt s.heap a _ C none := ⟨hoa, rfl, rfl, trivial⟩
  have hI : PySem.W.Looks (model X.prog X.w) s.heap (isInstance (.ref a) (.type "ValueError")) true := IA.type.andThen (PySem.W.looks_subIn KX subV)
  have hm : PySem.W.alongIn X.K "__init__" ((cdD.mro.dropWhile (· != .ref C)).drop 1) = some (some (.builtin "ValueError.__init__")) := by
    unfold PySem.W.ks_superIn at sup
    rw [hcls] at sup
    exact sup
  obtain ⟨hp0, g, d, t, os⟩ := s
  refine PySem.W.kxs_getMethod PySem.W.kxs_ValueError hso (PySem.W.looks_opaque KX opq) (l₀ := cdD.mro) (fun A Q E s k q => wpAny_bind ((PySem.W.looks_clsIn KX hcls) A _ E s k (wpAny_pure q))) rfl KX hm hI (PySem.W.ks_ne KX IA hcls) (by decide) ?_
  have I1 : Inv X (pins ++ [(hp0.objs.size, PySem.W.kxs_mw "ValueError.__init__" a)]) σ H ⟨hp0.push (PySem.W.kxs_mw "ValueError.__init__" a), g, d, t + 1, os⟩ :=
    kxs_pins (t' := t + 1) I (fun b u e => Heap.get?_push_of_some _ e) (Heap.get?_push_at rfl rfl) fun v z => by cases z
  show wpAny _ _ (callWith pos (.ref hp0.objs.size) [] (backTo pos (starEach (e :: es) X.env)) []) _ _ _
  rw [he]
  refine PySem.W.kxs_callWith (i := "ValueError.__init__") (x := a) (by show (false || (backTo pos (starEach es X.env)).any (·.1)) = false; rw [hpl]; rfl) ?_
  refine PySem.Calls.evalArgs_plain ?_
  have q1 := hp.run pos _ _ σ H _ I1 hta
  rw [he] at q1
  refine thn q1 fun us s1 hh => ?_
  obtain ⟨vs, H1, I2, r1, eH, hl⟩ := hh
  rw [eH] at I2
  have hu := (I2.pin (hp0.objs.size, PySem.W.kxs_mw "ValueError.__init__" a) (by simp)).1
  refine ⟨hu, ?_⟩
  have hz : us.length ≤ sizeLine := by
    rw [← Paired.length r1, sizeLine_eq]; omega
  obtain ⟨nm, q, N, bs, bm, sn, sub, ab, col, dd, k0, k1, k2, k3, k5, hC, hbm⟩ := T.cls
  obtain ⟨t1, hoe⟩ := exo_at I2.hok ha
  have hCs := I2.kIn _ _ hC
  show wpAny _ _ (call (.ref hp0.objs.size) us) _ _ _
  obtain ⟨hp1, g1, d1, tk1, os1⟩ := s1
  refine wpAny_call (codeAny_of_tree ?_)
  show wpAny _ X.A.in1 (callAny (.ref hp0.objs.size) ⟨us, []⟩) _ _ _
  simp only [callAny]
  refine wpAny_bind (wpAny_load hu ?_)
  simp only [PySem.W.kxs_mw, show (Value.type "method-wrapper" == Value.type "method" || Value.type "method-wrapper" == Value.type "builtin_function_or_method" || Value.type "method-wrapper" == Value.type "method-wrapper") = true by decide, if_true]
  refine PySem.W.KFB.if_so (by decide) ?_
  refine wpAny_bind (PySem.W.check_bound_init PySem.F.excBase_ValueError.toExcCallFacts hCs hoe rfl ?_)
  refine wpAny_bind (wpAny_pure (wpAny_pure ?_))
  refine ⟨PySem.plainId_quiet PySem.F.excBase_ValueError.init.plain _, codeAny_builtin PySem.F.excBase_ValueError.initEntry ?_⟩
  refine PySem.W.exc_init_tree (cls := .ref C) (t0 := t1) (dv := none) (c2 := .none) (c3 := .none) (b4 := .bool false) hoe hz fun h' k hx ht => ?_
  have J := I2.write (t' := tk1) (x := a) (e := a) (o := exo a C none) (by rw [ha]; exact True.intro) (.inl rfl) k ⟨_, hx⟩ (exo_ok hx)
  have eu : upd H a (exo a C none) = H := by
    funext b
    by_cases hb : b = a
    · rw [hb, upd_same, ha]
    · rw [upd_ne hb]
  rw [eu] at J
  exact h _ (J.unpinned)
section
variable {P : Program} {w : World} {K : PySem.W.Frag} {mg : Str → Option Value} {base : Heap} {k : Nat} {file : Str} {C fI : Addr} {fld sf x : Str} {fd : FuncData} {CX : CXT}
theorem fn_err (hsu : mg "super" = none) (hfile : ((P.main.file : Str) == file) = true) (htop : (P.main.scope.names.lookup ("super" : Str)).isSome = false) (T : ErrI K file C fI fld fd sf x) :
    FnOk P w K mg base CX (k + 1) fI fd [sf, x] (spErr C fld) := by
  obtain ⟨oc, od, osl, name, qual, params, scope, dV, kV, doc, pm, ct, an, cc, cda, ar, p0, p1, p2, p3, p4, p5, p6, p7, p8, p9, v1, v2, rest, ccl, cl, cdd, cld, ccs, csl, vs, tf, cdD, lk, rfl, hcd, har, hself, hparts, hks, hkc, hls, hlx, hcell, hfree, hkind, hco, hgen, hcode, hvs, hcc, hcls, hne, hd1, hd2, hc1, hc2⟩ := T.text
  refine ⟨fun vs H Q E h => ?_, fun A outer s H args us vv Q E hr e0 hb r hsp => ?_⟩
  · obtain ⟨_, _, rfl, _⟩ := h; rfl
  obtain ⟨a, i, rfl, hi, ha, hq⟩ := hsp
  have KX : K.In s.heap := e0.mod.kin.keeps fun b o e => (e0.bs b o e).1
  have lim : s.heap.NoLimit := e0.mod.nolimit.keeps fun b o e => (e0.bs b o e).1
  cases r with
  | @cons _ ua _ ur ra rr =>
  cases rr with
  | @cons _ ui _ un ri rn =>
  cases rn
  obtain rfl : ua = Value.ref a := ra
  obtain ⟨ti, rfl⟩ := ri
  refine PySem.ks_codeAny_call_defAt hr.depth (KX _ _ lk) rfl lim (PySem.W.codeRec_of KX hcd) rfl hb hcell (fun y hy => ?_) (fun h₀ hns hk => ?_) hco hgen hkind
  · rcases List.mem_cons.mp hy with rfl | hy
    · exact hls
    · rcases List.mem_cons.mp hy with rfl | hy
      · exact hlx
      · cases hy
  have look0 : ([sf, x].zip [Value.ref a, Value.int i ti]).reverse.lookup sf = some (Value.ref a) := by
    show ([(x, Value.int i ti), (sf, Value.ref a)] : List (Str × Value)).lookup sf = _
    have e1 : (sf == x) = false := by simpa using hne
    simp [List.lookup, e1]
  have look1 : ([sf, x].zip [Value.ref a, Value.int i ti]).reverse.lookup x = some (Value.int i ti) := by
    show ([(x, Value.int i ti), (sf, Value.ref a)] : List (Str × Value)).lookup x = _
    simp [List.lookup]
  have noA : ∀ b : Addr, b ∉ (cxX CX P w K mg base [sf, x] qual scope fI (.ref cda) cc A outer s H E).ex := fun b z => absurd (show b ∈ ([] : List Addr) from z) (by simp)
  have clk : ∀ (y : Str) (c : Addr), ([("__class__", cc)] : List (Str × Addr)).lookup y = some c → y = "__class__" ∧ c = cc := fun y c z => by
    by_cases h : y = "__class__"
    · subst h
      have z2 : some cc = some c := z
      exact ⟨rfl, (Option.some.inj z2).symm⟩
    · have e : (y == ("__class__" : Str)) = false := by simpa using h
      simp only [List.lookup, e] at z
      cases z
  have ccB : base.get? cc = some ⟨cl, cld, .cell (some (.ref C)), csl⟩ := e0.mod.kin _ _ hcc
  have I : Inv (cxX CX P w K mg base [sf, x] qual scope fI (.ref cda) cc A outer s H E) [] [some (.ref a), some (.int i)] H { s with heap := h₀, toks := s.toks + ([sf, x].zip [Value.ref a, Value.int i ti]).length } := by
    refine ⟨⟨e0.mod, hkind, rfl, rfl, Nat.le_refl _, fun y z c h1 h2 => ((clk _ _ h1).1).trans ((clk _ _ h2).1).symm, fun y hy => ?_, fun y c z _ => (by cases (show false = true from z)), fun _ => hr.hd, Around.frames_deeper e0.frames, .inr ⟨rfl, rfl⟩, fun b z => absurd z (noA b), e0.bs, e0.bsz, fun b _ _ => noA b, fun b z => absurd z (noA b), e0.funs, e0.frf⟩,
      rfl, e0.bare, Un.kept hk, ⟨_, hns, fun j y v h1 h2 h3 => ?_⟩, fun y c h => ?_, e0.hok.fresh (Nat.le_refl _), fun y c h => ?_, fun p hp => absurd (show p ∈ ([] : List (Addr × Obj)) from hp) (by simp), e0.hok.kept hk, rfl⟩
    · have hy : scope.names.lookup y = some .cell ∨ scope.names.lookup y = some .free := hy
      rcases hy with hy | hy
      · exact absurd rfl (hcell _ (PySem.mem_of_lookup hy))
      · have e := hfree _ (PySem.mem_of_lookup hy) rfl
        have e' : y = "__class__" := e
        subst e'
        exact ⟨cc, rfl⟩
    · match j, h1, h2 with
      | 0, h1, h2 =>
        cases h1; cases h2
        exact ⟨.ref a, rfl, .inl ⟨hls, look0⟩⟩
      | 1, h1, h2 =>
        cases h1; cases h2
        exact ⟨.int i ti, ⟨ti, rfl⟩, .inl ⟨hlx, look1⟩⟩
      | j + 2, h1, h2 => cases h1
    · obtain ⟨_, rfl⟩ := clk y c h
      exact ⟨_, _, hk _ _ (e0.bs _ _ ccB).1, rfl⟩
    · obtain ⟨_, rfl⟩ := clk y c h
      exact (e0.bs _ _ ccB).2
  have ks : (cxX CX P w K mg base [sf, x] qual scope fI (.ref cda) cc A outer s H E).env.scope.kind = .function := hkind
  have vis0 : Vis (cxX CX P w K mg base [sf, x] qual scope fI (.ref cda) cc A outer s H E).env.scope sf := .inl hls
  have vis1 : Vis (cxX CX P w K mg base [sf, x] qual scope fI (.ref cda) cc A outer s H E).env.scope x := .inl hlx
  obtain ⟨ts, pj, hts⟩ := parts_pj (X := cxX CX P w K mg base [sf, x] qual scope fI (.ref cda) cc A outer s H E) (i := 1) rfl vis1 hd2 hc2 (v1 :: v2 :: rest) hparts.1
  have pA : PA (cxX CX P w K mg base [sf, x] qual scope fI (.ref cda) cc A outer s H E) [.JoinedStr (v1 :: v2 :: rest) p3] _ := pa_cons (pe_joined pj) pa_nil
  have pT := pss_cons (ps_ost (X := cxX CX P w K mg base [sf, x] qual scope fI (.ref cda) cc A outer s H E) (f := fld) (p' := p7) (pos := p9) (pe_var (i := 0) (x := sf) (pos := p6) rfl vis0 hd1 hc1) (pe_var (i := 1) (x := x) (pos := p8) rfl vis1 hd2 hc2) rfl) pss_nil
  refine ks_wpAt_execs_cons ?_
  refine ks_wpAt_Expr_any ?_ (by simp [interactive, callEnv, newEnv, hkind]) rfl
  refine ks_wpAt_MethodCall (pl := _) ?_ (meth_eval hparts.2.2 rfl)
  have hL := hk _ _ (KX _ _ lk)
  have hCo := hk _ _ (KX _ _ hcode)
  have hCC := hk _ _ (KX _ _ hcc)
  have KX0 : K.In h₀ := KX.keeps hk
  refine ks_wpAt_super_base hks hkc rfl rfl hL rfl har rfl hCo rfl hvs hfile htop ?_
  obtain ⟨mb, b1, b2⟩ := I.mod.blt
  refine PySem.W.ks_loadName_global hkind hks (Calls.loadGlobal_builtin (I.mod.glob.keeps I.bk) hsu (b1.keeps I.bk) ((b2 "super" (by decide)).trans (show bootBuiltins "super" = some (.type "super") by kernel_rfl)) ⟨rfl, ?_⟩)
  refine wpAny_loadName_free hkind hkc rfl ⟨_, hCC, rfl⟩ ?_
  refine wpAny_loadName_local hkind (by rw [hself]; exact hls) hns (by rw [hself]; exact look0) ?_
  obtain ⟨oD, hD1, hD2⟩ : ∃ oD, h₀.get? C = some oD ∧ oD.data = .cls cdD := by
    unfold PySem.W.clsIn at hcls
    split at hcls
    · rename_i c d cd' sl ho
      cases hcls
      exact ⟨_, KX0 _ _ ho, rfl⟩
    · cases hcls
  obtain ⟨t0, hoa⟩ := exo_at I.hok ha
  refine ks_wpAny_isType_cls hD1 hD2 ⟨rfl, ?_⟩
  refine ks_wpAny_call_super hD1 hD2 hoa rfl (fun c z => by cases z) (PySem.W.looks_mroIn KX0 T.mroC) fun h' e k => ?_
  have I1 := I.kept (h' := h') (t' := s.toks + ([sf, x].zip [Value.ref a, Value.int i ti]).length) k
  refine thn (super_call (pl := _) I1 e T.ox T.sup T.subV T.opq hcls ha pA ?_ fun s2 I2 => ?_) fun _ _ z => z
  · refine hts i _ H rfl hi Str.empty _ ?_ fun out => ⟨rfl, by simp⟩
    have z := hparts.2.1
    show 0 + 2000 * (rest.length + 1 + 1) ≤ sizeLine
    rw [sizeLine_eq]
    omega
  · show PySem.wpAt _ _ _ (execs [.Assign [.Attribute (.Name sf p6) fld p7] (.Name x p8) p9] _) _ _ s2
    refine PySem.wpAt_of_wpAny (wpAny_mono (pT.run [] s2 [some (.ref a), some (.int i)] H { nx := fun _ H' => Q .non H', rt := Q } I2 ⟨.int i, rfl, .ref a, rfl, a, C, rfl, T.ox, T.nof, .inl ⟨ha, fun dx n ne => hq dx n ne⟩⟩) (fun fl s' hs => ?_) fun e s' hs => hs)
    have fin : ∀ {σ' : L2.St} {H' : Hp} {v : V} {u : Value}, Inv (cxX CX P w K mg base [sf, x] qual scope fI (.ref cda) cc A outer s H E) [] σ' H' s' → RelV v u → Q v H' → CE outer P w H s Q u s' :=
      fun {σ' H' v u} J rv q => ⟨v, H', J.os, J.bare, J.base, J.hok, rv, q⟩
    cases fl with
    | ret u =>
      obtain ⟨v, σ', H', J, rv, q⟩ := hs
      exact fin J rv q
    | next =>
      obtain ⟨σ', H', J, q⟩ := hs
      exact fin (v := V.non) (u := Value.none) J rfl q
    | brk =>
      obtain ⟨_, _, _, q⟩ := hs
      exact False.elim q
    | cont =>
      obtain ⟨_, _, _, q⟩ := hs
      exact False.elim q
end
end Ev
set_option maxHeartbeats 4000000
namespace Ev
open PySem PySem.Spec PyProof.Rows L2
section
variable {X : Cx} {fa ca : Nat → Addr} {W : WX} {Δ : Dn} {fu : Nat} {pos pos' p : Pos}
theorem ds_rse {n k : Nat} {f x sf y file : Str} {fI : Addr} {fd : FuncData} {e : Expr} {ce : E} (hc : X.calm = true) (tk : Takes X W) (hsu : X.mg "super" = none) (hfile : ((X.prog.main.file : Str) == file) = true) (htop : (X.prog.main.scope.names.lookup ("super" : Str)).isSome = false)
    (T : ErrI X.K file (ca n) fI f fd sf y) (hb : Binds X.K fd [sf, y] []) (hr : Room 2 X.A) (kC : PySem.W.keepIn X.K (.ref (ca n)) = true) (hg : Gl X x) (hm : X.mg x = some (.ref (ca n))) (hdb : (x == ("__debug__" : Str)) = false) (he : DE X fa ca W Δ e ce)
    (hs : starEach [e] X.env = (false, eval e X.env) :: starEach [] X.env) : DS X fa ca W Δ fu (.Raise (some (.Call (.Name x p) [e] [] pos)) none pos') (.rse n f ce) := by
  refine PS.imp (ps_raise hc tk (pmk_oex (CX := L2.CX X.prog X.w) (dvs := []) T.ox T.ini T.tI (fn_err (k := 0) hsu hfile htop T) hr hb .nil (fun pins σ H s e s' I h => ?_) hg hm (da_cons he da_nil hs) hdb hs rfl)) fun D σ H ⟨hid, w, st, ρ, g, s, q⟩ => ?_
  · obtain ⟨_, _, _, _, _, _, _, _, _, _, _, _, z⟩ := h
    exact z.elim
  · simp only [ex] at q
    have q1 : PostS X.K fa ca W hid w st H ((evs Δ (.cons ce .nil) ρ st).to ρ fun ds st => match ds with
      | [.py (.int i)] => if smallL i = true then .go (.xc ⟨n, some (f, .int i)⟩) ρ st else .bad
      | _ => .bad) D := by
      simp only [evs]
      revert q
      generalize ev Δ ce ρ st = r2
      intro q
      cases r2 with
      | ok d s =>
        simp only [Rs.to_ok, Rs.bind_ok] at q ⊢
        split at q
        · exact q
        · exact q.elim
      | ex e s => exact q
      | bad => exact q
    refine ⟨hid, w, st, ρ, g, s, (PostS.to (rel := relA X.K fa) s q1).mono fun vs H1 ⟨ds, w1, st1, e1, g1, r1, e9, p1⟩ => ?_⟩
    clear e9
    split at p1
    · rename_i i
      split at p1
      · rename_i hi
        cases r1 with
        | cons rx rr =>
        cases rr
        cases int_rv rx
        refine ⟨by simp, fun a ha => ⟨a, i, rfl, xd hi, upd_same, fun dx hd ne => ⟨rfl, dx, [(f, .int i)], upd_same, by rw [upd_ne ne, upd_same], by rw [upd_ne ne] at hd; exact hd, ?_⟩⟩⟩
        rw [upd_ne ne] at hd
        have eh : upd (del (upd (upd (upd H1 a (exo a (ca n) none)) dx (exd dx [(f, .int i)])) a (exo a (ca n) (some dx))) a) dx (.xd [(f, .int i)]) = upd H1 dx (.xd [(f, .int i)]) := by
          funext b
          by_cases hb : b = dx
          · rw [hb, upd_same, upd_same]
          · rw [upd_ne hb, upd_ne hb]
            by_cases hba : b = a
            · rw [hba, del_same, ha]
            · rw [del_ne hba, upd_ne hba, upd_ne hb, upd_ne hba]
        rw [eh]
        exact p1 σ w1 _ (Ext.new g1 hd) (g1.new hd) ((Ext.new g1 hd).slots (e1.slots s)) _ _ (show RX ca (.ref (ca n)) (some dx) (upd H1 dx (.xd [(f, .int i)])) ⟨n, some (f, .int i)⟩ from ⟨rfl, (fun z => by cases z), fun f' p' z => by cases z; exact ⟨dx, _, rfl, upd_same, .int i⟩⟩)
      · exact p1.elim
    · exact p1.elim
/-- raise C(), C without own __init__ -/
theorem ds_rse0 {n : Nat} {x : Str} {bmB : List Value} {newId initId : String} (hc : X.calm = true) (tk : Takes X W) (F : ExcBaseFacts B newId initId bmB) (q : PySem.W.excIn X.K (ca n) bmB newId = true) (kC : PySem.W.keepIn X.K (.ref (ca n)) = true) (r : Raises X (.ref (ca n)))
    (hg : Gl X x) (hm : X.mg x = some (.ref (ca n))) (hdb : (x == ("__debug__" : Str)) = false) : DS X fa ca W Δ fu (.Raise (some (.Call (.Name x p) [] [] pos)) none pos') (.rse0 n) := by
  have mk : PMk X (.Call (.Name x p) [] [] pos) (fun _ H Q => Q (.ref (ca n)) none H) := by
    intro pins s σ H Q I h
    refine wpAny_Call_Name_kw (ld_glob I hg hm ?_ hdb)
    refine PySem.W.callWith_K0 I.kIn kC ?_
    show wpAny _ _ (call (.ref (ca n)) []) _ _ _
    obtain ⟨bm, N, nm, qn, bs, hdct, sn, sub, ab, col, dd, k0, k1, k2, k3, k5, mN, hC, hN, hni, T⟩ := exc_obj I.kIn q
    refine wpAny_call_exc_subT F T hC hN hni (fun h' e hm => ?_) (Nat.zero_le _)
    exact mk_of I hm r h (I.hok.gone hm.new)
  refine PS.imp (ps_raise hc tk mk) fun D σ H ⟨hid, w, st, ρ, g, s, p⟩ => ?_
  simp only [ex] at p
  exact p σ w H Ext.refl g s _ _ (show RX ca (.ref (ca n)) none H ⟨n, none⟩ from ⟨rfl, (fun _ => rfl), fun f p z => by cases z⟩)
theorem de_callV {i : Nat} {x : Str} {fs : List Nat} {e : Expr} {es : List Expr} {ee : Es} (hN : X.N[i]? = some x) (hv : Vis X.env.scope x) (hd : (x == ("__debug__" : Str)) = false) (hcd : (x == ("__classdict__" : Str)) = false)
    (FS : ∀ f ∈ fs, ∃ k fd ps, FnG X.prog X.w X.K X.mg X.base k (fa f) fd ps (spF X.K fa ca Δ f ee.len) ∧ RoomG k X.A ∧ PySem.W.keepIn X.K (.ref (fa f)) = true ∧ Binds X.K fd ps []) (tk : Takes X W) (ha : DA X fa ca W Δ (e :: es) ee)
    (he : starEach (e :: es) X.env = (false, eval e X.env) :: starEach es X.env) (hpl : (backTo pos (starEach es X.env)).any (·.1) = false) : DE X fa ca W Δ (.Call (.Name x p) (e :: es) [] pos) (.callV i fs ee) := by
  refine ⟨fun pins s σ H Q I h => ?_⟩
  obtain ⟨hid, w, st, ρ, g0, s0, q⟩ := h
  simp only [ev] at q
  split at q
  · rename_i f ef
    split at q
    · rename_i hc
      obtain ⟨v, e1, r1⟩ := s0.2 _ _ ef
      cases r1
      obtain ⟨k, fd, ps, F, hr, hk, hb⟩ := FS f (List.contains_iff_mem.mp hc)
      refine wpAny_Call_Name_kw (thn ((pe_var (X := X) (pos := p) hN hv hd hcd).run pins s σ H (fun v' H' => v' = .ref (fa f) ∧ H' = H) I ⟨_, e1, rfl, rfl⟩) fun fv s1 ⟨v', H', I1, rv, ev', eH⟩ => ?_)
      subst ev'
      rw [eH] at I1
      obtain rfl : fv = Value.ref (fa f) := rv
      refine PySem.W.callWith_K (h₀ := X.base) I.ok.mod.kin hk (thn (ha.run pos pins s1 σ H (fun vs H1 => spF X.K fa ca Δ f ee.len (vs ++ []) H1 Q (WE W σ)) I1 ⟨hid, w, st, ρ, g0, s0, (PostG.bind (rel := relA X.K fa) q).mono fun xs H1 ⟨ds, w1, st1, e1, g1, r1, e2, p1⟩ => ?_⟩) fun us s2 ⟨vs, H1, I2, r, q⟩ => ⟨I2.kIn, run_fnG F hr hb .nil (passAt tk σ) I2 r q⟩) he hpl
      exact ⟨hid, w1, st1, ds, g1, by rw [List.append_nil]; exact r1, evs_len ee e2, p1⟩
    · exact q.elim
  · exact q.elim
end
end Ev
set_option maxHeartbeats 4000000
namespace Ev
open PySem PySem.Spec PyProof.Rows L2
/-- isinstance of a caught error, with a dict or without -/
def rIsD (K : PySem.W.Frag) (D a : Addr) (d : Option Addr) : List V → Hp → VK → Prop := fun xs H Q => ∃ (c : V) (cv : Value) (b : Bool), xs = [.ref a, c] ∧ (∀ u, RelV c u → u = cv) ∧ PySem.W.kitOne K (.ref D) cv = some b ∧ (d = none ∨ ∃ dd fs, d = some dd ∧ H dd = some (.xd fs)) ∧ Q (.bl b) H
theorem call_isD {X : Cx} {a D : Addr} {oe : Obj} {d : Option Addr} {pn : List (Addr × Obj)} (C : ExcC X.K D) (hz : Zc (.ref D) d oe) (hf : ∃ vs, oe.data = .fields vs) : CallR (X.suite a ((a, oe) :: pn)) (.builtin "isinstance") (rIsD X.K D a d) := by
  intro pins s σ H xs us Q I r h
  obtain ⟨c, cv, b, rfl, hcv, e, hdd, q⟩ := h
  obtain ⟨u1, u2, rfl, rx, rt⟩ := r.two
  obtain rfl : u1 = Value.ref a := rx
  have ec := hcv _ rt
  subst ec
  have hget := (I.pin (a, oe) (List.mem_append.mpr (.inl List.mem_cons_self))).1
  obtain ⟨vs, hv⟩ := hf
  have hcl : (PySem.W.clsIn X.K D).isSome = true := by
    have z := C.hd
    unfold PySem.W.hasDictIn at z
    cases y : PySem.W.clsIn X.K D with
    | none => rw [y] at z; cases z
    | some _ => rfl
  obtain ⟨od, J⟩ : ∃ od, PySem.W.InstAt s.heap a oe D od := by
    obtain ⟨oc, odd, oda, osl⟩ := oe
    obtain ⟨h1, h2⟩ := hz
    dsimp only at h1 h2 hv
    subst h1 h2 hv
    rcases hdd with rfl | ⟨dd, fs, rfl, hH⟩
    · exact ⟨none, hget, rfl, rfl, trivial⟩
    · obtain ⟨mA, ⟨o, es, ep, ho, hr⟩, _⟩ : ObjOk X.prog X.w H s.heap dd (.xd fs) := I.hok dd _ hH
      exact ⟨some o, hget, rfl, rfl, ho⟩
  exact PySem.W.kia_one (PySem.W.kitx_exc hcl C.hg C.hk C.hs C.ha C.hn C.ht C.hm) I.kIn J e (fun z => nomatch z) fun tk => ⟨.bl b, H, I.kept (t' := tk) fun _ _ z => z, rfl, q⟩
/-- an atom's reading -/
def SlI (σ : L2.St) (j : Option Nat) (a : Addr) : Prop := match j with
  | some j => σ[j]? = some (some (.ref a))
  | none => True
def tX (ca : Nat → Addr) (a : Addr) (cls : Value) (d : Option Addr) (j : Option Nat) (f : Exc → Option PD) : TE := fun σ H Q => ∃ e p, SlI σ j a ∧ RX ca cls d H e ∧ f e = some p ∧ ∀ v, Dq (fun _ => none) v p → Q v H
def tXb (ca : Nat → Addr) (a : Addr) (cls : Value) (d : Option Addr) (j : Option Nat) (f : Exc → Option PD) : TT := fun σ H Q => ∃ e b, SlI σ j a ∧ RX ca cls d H e ∧ f e = some (.bool b) ∧ Q b H
def tXs (ca : Nat → Addr) (a : Addr) (cls : Value) (d : Option Addr) (j : Option Nat) (f : Exc → Option (List PD)) : TA := fun σ H Q => ∃ e ps, SlI σ j a ∧ RX ca cls d H e ∧ f e = some ps ∧ ∀ vs, DqAll (fun _ => none) vs ps → Q vs H
/-- a value's reading: a new tuple may be laid -/
def tXv (K : PySem.W.Frag) (fa ca : Nat → Addr) (a : Addr) (cls : Value) (d : Option Addr) (j : Option Nat) (f : Exc → Option PD) : TE := fun σ H Q => ∃ hid w st e p, Good K fa ca hid w st H ∧ SlI σ j a ∧ RX ca cls d H e ∧ f e = some p ∧
  ∀ v H', Ext hid w st H w st H' → Good K fa ca hid w st H' → Dq (FZ hid w st H') v p → Q v H'
def tXh (K : PySem.W.Frag) (fa ca : Nat → Addr) (a : Addr) (cls : Value) (d : Option Addr) (j : Option Nat) (f : Exc → Option PD) : TS := fun D σ H => tXv K fa ca a cls d j f σ H D.rt
theorem RX.field {ca : Nat → Addr} {cls : Value} {d : Option Addr} {H : Hp} {e : Exc} {f : Str} {i : Int} (r : RX ca cls d H e) (h : e.fld = some (f, .int i)) : ∃ dd, d = some dd ∧ H dd = some (.xd [(f, .int i)]) := by
  obtain ⟨dd, v, h1, h2, h3⟩ := r.2.2 _ _ h
  cases h3
  exact ⟨dd, h1, h2⟩
section
variable {X : Cx} {fa ca : Nat → Addr} {a : Addr} {oe : Obj} {cls : Value} {d : Option Addr} {pn : List (Addr × Obj)} {j : Option Nat} {i : Nat} {n : Str} {pos p1 p2 p3 : Pos}
theorem hx_con {e : Expr} {v : V} {p : PD} (h : PE (X.suite a ((a, oe) :: pn)) e (tC v)) (r : Dq (fun _ => none) v p) : PE (X.suite a ((a, oe) :: pn)) e (tX ca a cls d j fun _ => some p) :=
  PE.imp h fun σ H Q ⟨_, _, _, _, e1, q⟩ => by
    cases e1
    exact q v r
theorem hx_fld {cs : List Nat} {f : Str} (hT : ∀ c ∈ cs, XfC X.K (ca c) ∧ PySem.W.findIn X.K (.ref (ca c)) f = some none) (hz : Zc cls d oe) (hf : ∃ vs, oe.data = .fields vs) (he : PE (X.suite a ((a, oe) :: pn)) (.Name n p1) (tVar i)) :
    PE (X.suite a ((a, oe) :: pn)) (.Attribute (.Name n p1) f pos) (tX ca a cls d (some i) (evX (.fld cs f))) := by
  refine ⟨fun pins s σ H Q I h => ?_⟩
  obtain ⟨e, p, hj, rx, hv, q⟩ := h
  simp only [evX] at hv
  split at hv
  · rename_i g iv hg
    split at hv
    · rename_i hc
      cases hv
      obtain ⟨rfl, hc⟩ := hc
      obtain ⟨dd, e1, e2⟩ := rx.field hg
      obtain ⟨T, hno⟩ := hT _ (List.contains_iff_mem.mp hc)
      exact (pe_xf (pos := pos) T hno hz hf he).run pins s σ H Q I ⟨.ref a, hj, rfl, rx.1, dd, _, .int iv, e1, e2, by simp [List.lookup], q _ (.int iv)⟩
    · cases hv
  · cases hv
theorem hx_isi {ys ns : List Nat} {z : Str} {C : Addr} (hy : ∀ c ∈ ys, ExcC X.K (ca c) ∧ PySem.W.kitOne X.K (.ref (ca c)) (.ref C) = some true) (hn : ∀ c ∈ ns, ExcC X.K (ca c) ∧ PySem.W.kitOne X.K (.ref (ca c)) (.ref C) = some false)
    (hz : Zc cls d oe) (hf : ∃ vs, oe.data = .fields vs) (he : PE (X.suite a ((a, oe) :: pn)) (.Name n p1) (tVar i)) (hgi : Gl X "isinstance") (hmi : X.mg "isinstance" = none) (hg : Gl X z) (hm : X.mg z = some (.ref C)) (hdb : (z == ("__debug__" : Str)) = false) :
    PE (X.suite a ((a, oe) :: pn)) (.Call (.Name "isinstance" p2) [.Name n p1, .Name z p3] [] pos) (tX ca a cls d (some i) (evX (.isi ys ns))) := by
  have key : ∀ (c : Nat) (b : Bool), cls = .ref (ca c) → ExcC X.K (ca c) → PySem.W.kitOne X.K (.ref (ca c)) (.ref C) = some b → PE (X.suite a ((a, oe) :: pn)) (.Call (.Name "isinstance" p2) [.Name n p1, .Name z p3] [] pos)
      (fun σ H Q => σ[i]? = some (some (.ref a)) ∧ (d = none ∨ ∃ dd fs, d = some dd ∧ H dd = some (.xd fs)) ∧ Q (.bl b) H) := fun c b ec hE hk => by
    subst ec
    refine PE.imp (pe_callB (X := X.suite a ((a, oe) :: pn)) (p := p2) (pos := pos) (call_isD (X := X) hE hz hf) hgi hmi (by decide +kernel) (pa_cons he (pa_cons (pe_glob (X := X.suite a ((a, oe) :: pn)) (v := .ref C) (pos := p3) hg hm rfl hdb) pa_nil rfl) rfl) (by decide) (by decide) rfl rfl) fun σ H Q ⟨h1, h2, h3⟩ => ?_
    exact ⟨.ref a, h1, .ref C, .ref C, b, rfl, fun u hu => hu, hk, h2, h3⟩
  refine ⟨fun pins s σ H Q I h => ?_⟩
  obtain ⟨e, p, hj, rx, hv, q⟩ := h
  have hd : d = none ∨ ∃ dd fs, d = some dd ∧ H dd = some (.xd fs) := by
    cases ef : e.fld with
    | none => exact .inl (rx.2.1 ef)
    | some fp =>
      obtain ⟨dd, v, h1, h2, _⟩ := rx.2.2 _ _ ef
      exact .inr ⟨dd, _, h1, h2⟩
  simp only [evX] at hv
  split at hv
  · rename_i hc
    cases hv
    obtain ⟨k1, k2⟩ := hy _ (List.contains_iff_mem.mp hc)
    exact (key _ true rx.1 k1 k2).run pins s σ H Q I ⟨hj, hd, q _ (.bl true)⟩
  · split at hv
    · rename_i hc
      cases hv
      obtain ⟨k1, k2⟩ := hn _ (List.contains_iff_mem.mp hc)
      exact (key _ false rx.1 k1 k2).run pins s σ H Q I ⟨hj, hd, q _ (.bl false)⟩
    · cases hv
theorem hx_isb {cs : List Nat} {f : Str} {o : Expr} (ho : PE (X.suite a ((a, oe) :: pn)) o (tX ca a cls d j (evX (.fld cs f)))) (hgi : Gl X "isinstance") (hmi : X.mg "isinstance" = none) (hg : Gl X "bool") (hm : X.mg "bool" = none) (hs : starEach [o, .Name "bool" p3] X.env = (false, eval o X.env) :: starEach [.Name "bool" p3] X.env) :
    PE (X.suite a ((a, oe) :: pn)) (.Call (.Name "isinstance" p2) [o, .Name "bool" p3] [] pos) (tX ca a cls d j (evX (.isb cs f))) := by
  refine PE.imp (pe_callB (X := X.suite a ((a, oe) :: pn)) (p := p2) (pos := pos) call_isi hgi hmi (by decide +kernel) (pa_cons ho (pa_cons (pe_bltn (X := X.suite a ((a, oe) :: pn)) (v := .ty "bool") (u := .type "bool") (pos := p3) hg hm (by decide +kernel) rfl (by decide) (by decide)) pa_nil rfl) hs) (by decide) (by decide) hs rfl) fun σ H Q ⟨e, p, hj, rx, hv, q⟩ => ?_
  simp only [evX] at hv
  split at hv
  · rename_i g i hgf
    split at hv
    · rename_i hc
      cases hv
      refine ⟨e, .int i, hj, rx, by simp only [evX, hgf]; rw [if_pos hc], fun v hv => ?_⟩
      cases hv
      exact ⟨.int i, .ty "bool", .type "int", .type "bool", false, rfl, .ty _, .base (.int i), kit_ty (by decide +kernel), q _ (.bl false)⟩
    · cases hv
  · cases hv
theorem hx_nt {x : HX} {e : Expr} (h : PE (X.suite a ((a, oe) :: pn)) e (tX ca a cls d j (evX x))) : PE (X.suite a ((a, oe) :: pn)) (.UnaryOp .Not e pos) (tX ca a cls d j (evX (.nt x))) := by
  refine PE.imp (pe_not h) fun σ H Q ⟨ex, p, hj, rx, hv, q⟩ => ?_
  simp only [evX] at hv
  split at hv
  · rename_i b hb
    cases hv
    refine ⟨ex, .bool b, hj, rx, hb, fun v hv => ?_⟩
    cases hv
    exact ⟨b, rfl, q _ (.bl _)⟩
  · cases hv
theorem ht_v {x : Exc → Option PD} {e : Expr} (h : PE (X.suite a ((a, oe) :: pn)) e (tX ca a cls d j x)) (he : ∀ whole, isTrue e X.env whole = (do let v ← whole; standAt e.pos; holding [v] (truthy v))) : PT (X.suite a ((a, oe) :: pn)) e (tXb ca a cls d j x) := by
  refine PT.imp (pt_val h he) fun σ H Q ⟨ex, b, hj, rx, hv, q⟩ => ⟨ex, .bool b, hj, rx, hv, fun v hv => ?_⟩
  cases hv
  exact ⟨b, rfl, q⟩
theorem ht_nt {x : HX} {e : Expr} (h : PT (X.suite a ((a, oe) :: pn)) e (tXb ca a cls d j (evX x))) : PT (X.suite a ((a, oe) :: pn)) (.UnaryOp .Not e pos) (tXb ca a cls d j (evX (.nt x))) := by
  refine PT.imp (pt_not h) fun σ H Q ⟨ex, p, hj, rx, hv, q⟩ => ?_
  simp only [evX] at hv
  split at hv
  · rename_i b hb
    cases hv
    exact ⟨ex, b, hj, rx, hb, q⟩
  · cases hv
theorem ht_and {x y : HX} {e e' : Expr} (h : PT (X.suite a ((a, oe) :: pn)) e (tXb ca a cls d j (evX x))) (h' : PT (X.suite a ((a, oe) :: pn)) e' (tXb ca a cls d j (evX y))) : PT (X.suite a ((a, oe) :: pn)) (.BoolOp .And [e, e'] pos) (tXb ca a cls d j (evX (.and x y))) := by
  refine PT.imp (pw_and h (pw_and1 h')).pt fun σ H Q ⟨ex, p, hj, rx, hv, q⟩ => ?_
  simp only [evX] at hv
  split at hv
  · rename_i hb
    split at hv
    · rename_i c hc
      cases hv
      exact ⟨ex, true, hj, rx, hb, ex, p, hj, rx, hc, q⟩
    · cases hv
  · rename_i hb
    cases hv
    exact ⟨ex, false, hj, rx, hb, q⟩
  · cases hv
theorem hxs_nil : PA (X.suite a ((a, oe) :: pn)) [] (tXs ca a cls d j (evXs [])) := PA.imp pa_nil fun σ H Q ⟨_, _, _, _, e1, q⟩ => by
  cases e1
  exact q _ .nil
theorem hxs_cons {x : HX} {xs : List HX} {e : Expr} {es : List Expr} (h : PE (X.suite a ((a, oe) :: pn)) e (tX ca a cls d j (evX x))) (r : PA (X.suite a ((a, oe) :: pn)) es (tXs ca a cls d j (evXs xs))) (hs : starEach (e :: es) X.env = (false, eval e X.env) :: starEach es X.env) :
    PA (X.suite a ((a, oe) :: pn)) (e :: es) (tXs ca a cls d j (evXs (x :: xs))) := by
  refine PA.imp (pa_cons h r hs) fun σ H Q ⟨ex, ps, hj, rx, hv, q⟩ => ?_
  simp only [evXs] at hv
  obtain ⟨p, h1, h2⟩ := Option.bind_eq_some_iff.mp hv
  obtain ⟨qs, h3, h4⟩ := Option.map_eq_some_iff.mp h2
  subst h4
  exact ⟨ex, p, hj, rx, h1, fun v hv => ⟨ex, qs, hj, rx, h3, fun vs hvs => q _ (.cons hv hvs)⟩⟩
theorem no_le {F : Hp} : Le (fun _ => none) F := fun _ _ h => by cases h
theorem hv_at {x : HX} {e : Expr} (h : PE (X.suite a ((a, oe) :: pn)) e (tX ca a cls d j (evX x))) : PE (X.suite a ((a, oe) :: pn)) e (tXv X.K fa ca a cls d j (evV (.at x))) :=
  PE.imp h fun σ H Q ⟨hid, w, st, ex, p, g, hj, rx, hv, q⟩ => ⟨ex, p, hj, rx, hv, fun v hd => q v H Ext.refl g (Dq.mono no_le hd)⟩
theorem hv_tup {xs : List HX} {es : List Expr} {k : Nat} (hl : xs.length ≤ 1000) (h : PA (X.suite a ((a, oe) :: pn)) es (tXs ca a cls d j (evXs xs))) : PE (X.suite a ((a, oe) :: pn)) (.Tuple es k pos) (tXv X.K fa ca a cls d j (evV (.tup xs))) := by
  refine PE.imp (pe_tup h) fun σ H Q ⟨hid, w, st, ex, p, g, hj, rx, hv, q⟩ => ?_
  simp only [evV] at hv
  obtain ⟨ps, h1, h2⟩ := Option.map_eq_some_iff.mp hv
  subst h2
  have lens : ∀ {xs : List HX} {ps : List PD}, evXs xs ex = some ps → ps.length = xs.length := by
    intro xs
    induction xs with
    | nil => intro ps h; cases h; rfl
    | cons x xs ih =>
      intro ps h
      simp only [evXs] at h
      obtain ⟨p, h1, h2⟩ := Option.bind_eq_some_iff.mp h
      obtain ⟨qs, h3, h4⟩ := Option.map_eq_some_iff.mp h2
      rw [← h4, List.length_cons, List.length_cons, ih h3]
  refine ⟨ex, ps, hj, rx, h1, fun vs hvs => ⟨by rw [hvs.length, lens h1, sizeLine_eq]; omega, fun b hb => ?_⟩⟩
  exact q _ _ (Ext.new g hb) (g.new hb) (Dq.newT g hb (DqAll.mono no_le hvs))
theorem hs_ret {v : HV} {e : Expr} (h : PE (X.suite a ((a, oe) :: pn)) e (tXv X.K fa ca a cls d j (evV v))) : PSs (X.suite a ((a, oe) :: pn)) [.Return (some e) pos] (tXh X.K fa ca a cls d j (evH (.ret v))) :=
  PSs.imp (pss_cons (ps_ret h) pss_nil) fun D σ H h => h
theorem hs_ife {c : HX} {v : HV} {r : HS} {t e : Expr} {rest : List Stmt} (ht : PT (X.suite a ((a, oe) :: pn)) t (tXb ca a cls d j (evX c))) (h : PE (X.suite a ((a, oe) :: pn)) e (tXv X.K fa ca a cls d j (evV v))) (hr : PSs (X.suite a ((a, oe) :: pn)) rest (tXh X.K fa ca a cls d j (evH r))) :
    PSs (X.suite a ((a, oe) :: pn)) (.If t [.Return (some e) p1] [] pos :: rest) (tXh X.K fa ca a cls d j (evH (.ife c v r))) := by
  refine PSs.imp (pss_cons (ps_if ht (pss_cons (ps_ret h) pss_nil) pss_nil) hr) fun D σ H ⟨hid, w, st, ex, p, g, hj, rx, hv, q⟩ => ?_
  simp only [evH] at hv
  split at hv
  · rename_i hb
    exact ⟨ex, true, hj, rx, hb, hid, w, st, ex, p, g, hj, rx, hv, q⟩
  · rename_i hb
    exact ⟨ex, false, hj, rx, hb, hid, w, st, ex, p, g, hj, rx, hv, q⟩
  · cases hv
end
end Ev
set_option maxHeartbeats 4000000
namespace Ev
open PySem PySem.Spec PyProof.Rows L2
theorem Slots.gone {K : PySem.W.Frag} {fa : Nat → Addr} {w : List Addr} {F : Hp} {ρ : EnvD} {σ : L2.St} (s : Slots K fa w F ρ σ) (i : Nat) : Slots K fa w F (ρ.set i none) σ := by
  refine ⟨by rw [List.length_set]; exact s.1, fun j d e => ?_⟩
  by_cases h : i = j
  · subst h
    by_cases hl : i < ρ.length
    · rw [List.getElem?_set_self hl] at e; cases e
    · rw [List.getElem?_eq_none (by rw [List.length_set]; omega)] at e; cases e
  · rw [List.getElem?_set_ne h] at e
    exact s.2 _ _ e
section
variable {X : Cx} {fa ca : Nat → Addr} {W : WX} {Δ : Dn} {fu i : Nat} {x n : Str} {C : Addr} {b : Ss} {ys ns : List Nat} {h : HS} {body suite : List Stmt} {b₀ : Stmt} {np pos pos' : Pos}
theorem ds_try_as (hs : X.stack = X.env :: X.outer) (hf : X.env.frame = some X.env.locals) (hN : X.N.Nodup) (hi : X.N[i]? = some n) (hln : X.env.kindOf n = some .local) (hc : Names X x (.ref C)) (tk : Takes X W)
    (hb : ∀ (W' : WX) (pn : List (Addr × Obj)) (xe : Value → Shared → Prop), Takes (X.tr pn xe) W' → PassesOwn (model X.prog X.w) X.A X.env xe → DSs (X.tr pn xe) fa ca W' Δ fu body b)
    (hsu : ∀ (a : Addr) (oe : Obj) (cls : Value) (d : Option Addr) (pn : List (Addr × Obj)), Zc cls d oe → (∃ vs, oe.data = .fields vs) → PSs (X.suite a ((a, oe) :: pn)) (b₀ :: suite) (tXh X.K fa ca a cls d (some i) (evH h)))
    (hy : ∀ c ∈ ys, PySem.W.exmOne X.K (.ref (ca c)) (.ref C) = some true) (hn : ∀ c ∈ ns, PySem.W.exmOne X.K (.ref (ca c)) (.ref C) = some false) :
    DS X fa ca W Δ fu (.Try body [.ExceptHandler (some (.Name x np)) (some n) (b₀ :: suite) pos'] [] [] pos) (.tr b (some i) ys ns h) := by
  refine PS.imp (ps_try_as (tb := fun W' => tS X.K fa ca W' (exs Δ fu b)) hs hf hN hi hln hc tk hb hsu) fun D σ H ⟨hid, w, st, ρ, g, s, p⟩ => ⟨hid, w, st, ρ, g, s, ?_⟩
  simp only [ex] at p
  revert p
  generalize exs Δ fu b ρ st = r
  intro p
  cases r with
  | bad => exact p.elim
  | go f ρ' st' =>
    cases f with
    | nx => exact p
    | rt d => exact p
    | bk => exact p
    | ct => exact p
    | xc e =>
      simp only [RS.hdl_xc, hdlE] at p
      intro σ' w' H' x' g' s' cls dd rx
      split at p
      · rename_i hcy
        refine ⟨true, by rw [rx.1]; exact hy _ (List.contains_iff_mem.mp hcy), fun _ a ha => ?_, fun z => by cases z⟩
        split at p
        · rename_i v hv
          split at p
          · rename_i hl
            refine ⟨hid, w', st', e, v, g', ?_, rx, hv, fun u H2 e2 g2 dq => ?_⟩
            · show (σ'.set i (some (.ref a)))[i]? = some (some (.ref a))
              rw [List.getElem?_set_self (by rw [← s'.1]; exact hl)]
            · exact p σ' w' H2 (x'.trans e2) g2 ((e2.slots s').gone i) u (RV.py dq)
          · exact p.elim
        · exact p.elim
      · split at p
        · rename_i hcn
          exact ⟨false, by rw [rx.1]; exact hn _ (List.contains_iff_mem.mp hcn), (fun z => by cases z), fun _ => p σ' w' H' x' g' s' cls dd rx⟩
        · exact p.elim
theorem ds_try_only (hs : X.stack = X.env :: X.outer) (hf : X.env.frame = some X.env.locals) (hc : Names X x (.ref C)) (tk : Takes X W)
    (hb : ∀ (W' : WX) (pn : List (Addr × Obj)) (xe : Value → Shared → Prop), Takes (X.tr pn xe) W' → PassesOwn (model X.prog X.w) X.A X.env xe → DSs (X.tr pn xe) fa ca W' Δ fu body b)
    (hsu : ∀ (a : Addr) (oe : Obj) (cls : Value) (d : Option Addr) (pn : List (Addr × Obj)), Zc cls d oe → (∃ vs, oe.data = .fields vs) → PSs (X.suite a ((a, oe) :: pn)) (b₀ :: suite) (tXh X.K fa ca a cls d none (evH h)))
    (hy : ∀ c ∈ ys, PySem.W.exmOne X.K (.ref (ca c)) (.ref C) = some true) (hn : ∀ c ∈ ns, PySem.W.exmOne X.K (.ref (ca c)) (.ref C) = some false) :
    DS X fa ca W Δ fu (.Try body [.ExceptHandler (some (.Name x np)) none (b₀ :: suite) pos'] [] [] pos) (.tr b none ys ns h) := by
  refine PS.imp (ps_try_only (tb := fun W' => tS X.K fa ca W' (exs Δ fu b)) hs hf hc tk hb hsu) fun D σ H ⟨hid, w, st, ρ, g, s, p⟩ => ⟨hid, w, st, ρ, g, s, ?_⟩
  simp only [ex] at p
  revert p
  generalize exs Δ fu b ρ st = r
  intro p
  cases r with
  | bad => exact p.elim
  | go f ρ' st' =>
    cases f with
    | nx => exact p
    | rt d => exact p
    | bk => exact p
    | ct => exact p
    | xc e =>
      simp only [RS.hdl_xc, hdlE] at p
      intro σ' w' H' x' g' s' cls dd rx
      split at p
      · rename_i hcy
        refine ⟨true, by rw [rx.1]; exact hy _ (List.contains_iff_mem.mp hcy), fun _ a ha => ?_, fun z => by cases z⟩
        split at p
        · rename_i v hv
          refine ⟨hid, w', st', e, v, g', True.intro, rx, hv, fun u H2 e2 g2 dq => ?_⟩
          exact p σ' w' H2 (x'.trans e2) g2 (e2.slots s') u (RV.py dq)
        · exact p.elim
      · split at p
        · rename_i hcn
          exact ⟨false, by rw [rx.1]; exact hn _ (List.contains_iff_mem.mp hcn), (fun z => by cases z), fun _ => p σ' w' H' x' g' s' cls dd rx⟩
        · exact p.elim
end
theorem RX.new {ca : Nat → Addr} {cls : Value} {d : Option Addr} {H : Hp} {e : Exc} {p : Addr} {o : HO} (r : RX ca cls d H e) (hp : H p = none) : RX ca cls d (upd H p o) e :=
  ⟨r.1, r.2.1, fun f q h => by
    obtain ⟨dd, v, h1, h2, h3⟩ := r.2.2 f q h
    exact ⟨dd, v, h1, by rw [upd_ne (ne_of_none h2 hp)]; exact h2, h3⟩⟩
theorem hv_pick {X : Cx} {fa ca : Nat → Addr} {a : Addr} {oe : Obj} {cls : Value} {d : Option Addr} {pn : List (Addr × Obj)} {j : Option Nat} {x : HX} {e : Expr} {s t : Str} {k1 k2 : Nat} {q1 q2 q3 p2 p3 pos : Pos} (hu : X.A.units + 1 < cLine) (hg : Gl X "int") (hm : X.mg "int" = none)
    (h : PE (X.suite a ((a, oe) :: pn)) e (tX ca a cls d j (evX x))) (hs : starEach [e] X.env = (false, eval e X.env) :: starEach [] X.env) :
    PE (X.suite a ((a, oe) :: pn)) (.Subscript (.List [.Constant (.str s) k1 q1, .Constant (.str t) k2 q2] q3) (.Call (.Name "int" p2) [e] [] p3) pos) (tXv X.K fa ca a cls d j (evV (.pick (.str s) (.str t) x))) := by
  have hb : PE (X.suite a ((a, oe) :: pn)) (.Call (.Name "int" p2) [e] [] p3) _ := pe_callTy (X := X.suite a ((a, oe) :: pn)) (p := p2) (pos := p3) call_int1 hg hm (by decide +kernel) (pa_cons h pa_nil hs) (by decide) (by decide) hs rfl
  have hl : PE (X.suite a ((a, oe) :: pn)) (.List [.Constant (.str s) k1 q1, .Constant (.str t) k2 q2] q3) _ := pe_lst (pa_cons pe_str (pa_cons pe_str pa_nil rfl) rfl)
  refine PE.imp (pe_ix (X := X.suite a ((a, oe) :: pn)) (pos := pos) (ix_X hu) hl hb (fun _ _ => rfl)) fun σ H Q ⟨hid, w, st, ex, p, g, hj, rx, hv, q⟩ => ?_
  simp only [evV] at hv
  split at hv
  · rename_i b hb
    cases hv
    refine ⟨by show 2 ≤ sizeLine; rw [sizeLine_eq]; omega, fun l hl => ⟨ex, .bool b, hj, rx.new hl, hb, fun v hv => ?_⟩⟩
    cases hv
    refine .inr ⟨b, rfl, ?_⟩
    have g2 := g.new (o := .lst [V.str s, V.str t]) hl
    have dq : Dq (FZ hid w st (upd H l (.lst [V.str s, V.str t]))) (.ref l) (.list [.str s, .str t]) := Dq.new g hl (.cons (.str s) (.cons (.str t) .nil))
    refine getix_ok (E := fun _ _ _ => False) (ca := ca) (z := .py (if b = true then .str t else .str s)) g2 (RV.py dq) (RV.py (.int (if b = true then 1 else 0))) (by cases b <;> rfl) (fun v w' H' x' g' r' => ?_)
    have ew : w' = w := by
      obtain ⟨t', ht⟩ := x'.pre
      have e1 := g'.len
      rw [← ht, List.length_append, ← g.len] at e1
      have : t' = [] := List.length_eq_zero_iff.mp (by omega)
      rw [← ht, this, List.append_nil]
    subst ew
    cases r' with
    | py dv => exact q v H' ((Ext.new g hl).trans x') g' dv
  · cases hv
end Ev
set_option maxHeartbeats 4000000
namespace Ev
open PySem PySem.Spec PyProof.Rows L2
/-- super().__init__(f'..'); self.fld = x -/
def bodyOf (fld : Str) : List Stmt → Option (Str × Str)
  | [.Expr (.Call (.Attribute (.Call (.Name s p0) [] [] p1) m p2) [.JoinedStr (v1 :: v2 :: rest) p3] [] p4) p5, .Assign [.Attribute (.Name sf p6) f p7] (.Name x p8) p9] =>
    if (decide (s = "super") && (decide (m = "__init__") && (decide (f = fld) && ((v1 :: v2 :: rest).all (ptE x) && (decide (rest.length ≤ 4) && ((p2.endLine == p4.line) && (decide (sf ≠ x) && (!(sf == ("__debug__" : Str)) && (!(x == ("__debug__" : Str)) && (!(sf == ("__classdict__" : Str)) && !(x == ("__classdict__" : Str)))))))))))) = true then some (sf, x) else none
  | _ => none
theorem bodyOf_ok {fld sf x : Str} {b : List Stmt} (h : bodyOf fld b = some (sf, x)) : ∃ (p0 p1 p2 p3 p4 p5 p6 p7 p8 p9 : Pos) (v1 v2 : Expr) (rest : List Expr),
    b = [.Expr (.Call (.Attribute (.Call (.Name "super" p0) [] [] p1) "__init__" p2) [.JoinedStr (v1 :: v2 :: rest) p3] [] p4) p5, .Assign [.Attribute (.Name sf p6) fld p7] (.Name x p8) p9] ∧
      ((∀ v ∈ v1 :: v2 :: rest, ptE x v = true) ∧ rest.length ≤ 4 ∧ (p2.endLine == p4.line) = true) ∧ sf ≠ x ∧ (sf == ("__debug__" : Str)) = false ∧ (x == ("__debug__" : Str)) = false ∧ (sf == ("__classdict__" : Str)) = false ∧ (x == ("__classdict__" : Str)) = false := by
  unfold bodyOf at h
  split at h
  · split at h
    · rename_i hc
      obtain ⟨h1, hc⟩ := xa2 hc
      obtain ⟨h2, hc⟩ := xa2 hc
      obtain ⟨h3, hc⟩ := xa2 hc
      obtain ⟨h4, hc⟩ := xa2 hc
      obtain ⟨h5, hc⟩ := xa2 hc
      obtain ⟨h6, hc⟩ := xa2 hc
      obtain ⟨h7, hc⟩ := xa2 hc
      obtain ⟨h8, hc⟩ := xa2 hc
      obtain ⟨h9, hc⟩ := xa2 hc
      obtain ⟨h10, h11⟩ := xa2 hc
      cases h
      cases xd h1
      cases xd h2
      cases xd h3
      refine ⟨_, _, _, _, _, _, _, _, _, _, _, _, _, rfl, ⟨List.all_eq_true.mp h4, xd h5, h6⟩, xd h7, ?_, ?_, ?_, ?_⟩
      · simpa using h8
      · simpa using h9
      · simpa using h10
      · simpa using h11
    · cases h
  · cases h
def parB (p : Arguments) (sf x : Str) : Bool := match p with
  | ⟨[], [a, b], none, [], [], none, []⟩ => decide (a.arg = sf) && decide (b.arg = x)
  | _ => false
theorem parB_ok {p : Arguments} {sf x : Str} (h : parB p sf x = true) : ∃ a b, p = ⟨[], [a, b], none, [], [], none, []⟩ ∧ a.arg = sf ∧ b.arg = x := by
  unfold parB at h
  split at h
  · obtain ⟨h1, h2⟩ := xa2 h
    exact ⟨_, _, rfl, xd h1, xd h2⟩
  · cases h
def scB (sc : Scope) (sf x : Str) : Bool := decide (sc.names.lookup ("super" : Str) = some .globalImplicit) && (decide (sc.names.lookup ("__class__" : Str) = some .free) && (decide (sc.names.lookup sf = some .local) && (decide (sc.names.lookup x = some .local) &&
  ((sc.names.all fun y => match y.2 with | .cell => false | .free => decide (y.1 = "__class__") | _ => true) && ((match sc.kind with | .function => true | _ => false) && (!sc.isCoroutine && !sc.isGenerator))))))
theorem scB_ok {sc : Scope} {sf x : Str} (h : scB sc sf x = true) : sc.names.lookup ("super" : Str) = some .globalImplicit ∧ sc.names.lookup ("__class__" : Str) = some .free ∧ sc.names.lookup sf = some .local ∧ sc.names.lookup x = some .local ∧
    (∀ y ∈ sc.names, y.2 ≠ .cell) ∧ (∀ y ∈ sc.names, y.2 = .free → y.1 = "__class__") ∧ sc.kind = .function ∧ sc.isCoroutine = false ∧ sc.isGenerator = false := by
  obtain ⟨h1, h⟩ := xa2 h
  obtain ⟨h2, h⟩ := xa2 h
  obtain ⟨h3, h⟩ := xa2 h
  obtain ⟨h4, h⟩ := xa2 h
  obtain ⟨h5, h⟩ := xa2 h
  obtain ⟨h6, h⟩ := xa2 h
  obtain ⟨h7, h8⟩ := xa2 h
  have a := List.all_eq_true.mp h5
  refine ⟨xd h1, xd h2, xd h3, xd h4, fun y hy z => ?_, fun y hy z => ?_, ?_, by simpa using h7, by simpa using h8⟩
  · have q := a y hy
    rw [z] at q; cases q
  · have q := a y hy
    rw [z] at q; exact xd q
  · split at h6
    · assumption
    · cases h6
def fileB (K : PySem.W.Frag) (cda : Addr) (file : Str) : Bool := match K.lookup cda with
  | some ⟨_, _, .fields vs, _⟩ => (match (vs[2]? : Option Value) with
    | some (.str z _) => decide (z = file)
    | _ => false)
  | _ => false
theorem fileB_ok {K : PySem.W.Frag} {cda : Addr} {file : Str} (h : fileB K cda file = true) : ∃ ccl cdd ccs vs tf, K.lookup cda = some ⟨ccl, cdd, .fields vs, ccs⟩ ∧ vs[2]? = some (.str file tf) := by
  unfold fileB at h
  split at h
  · rename_i ccl cdd vs ccs e
    split at h
    · rename_i z tf e2
      cases xd h
      exact ⟨_, _, _, vs, _, e, e2⟩
    · cases h
  · cases h
def cellB (K : PySem.W.Frag) (cc C : Addr) : Bool := match K.lookup cc with
  | some ⟨_, _, .cell (some (.ref D)), _⟩ => decide (D = C)
  | _ => false
theorem cellB_ok {K : PySem.W.Frag} {cc C : Addr} (h : cellB K cc C = true) : ∃ cl cld csl, K.lookup cc = some ⟨cl, cld, .cell (some (.ref C)), csl⟩ := by
  unfold cellB at h
  split at h
  · rename_i e
    cases xd h
    exact ⟨_, _, _, e⟩
  · cases h
/-- the class object, its bases' row -/
def oxB (K : PySem.W.Frag) (C : Addr) : Bool := match K.lookup C with
  | some ⟨.type t, _, .cls ⟨_, _, .ref C' :: bm, _, _, true, _, _, _, _, false⟩, sl⟩ => decide (t = "type") && (decide (C' = C) && (HandSPX.refsVE bm && (match sl.toList with
    | [_, _, _, _, some (.builtin n), _] => n == "ValueError.__new__"
    | _ => false)))
  | _ => false
theorem oxB_ok {K : PySem.W.Frag} {C : Addr} (h : oxB K C = true) (sa : PySem.W.findIn K (.ref C) "__setattr__" = some (some (.builtin "object.__setattr__"))) (exC : PySem.W.subIn K (.ref C) (.type "BaseException") = some true) (tyC : PySem.W.typeIn K (.ref C) = some (.type "type"))
    (kC : PySem.W.keepIn K (.ref C) = true) : OexC K C ∧ ∃ cd, PySem.W.clsIn K C = some cd := by
  unfold oxB at h
  split at h
  · rename_i t dd nm bs C' bm ns qn sn sb ab col sl e
    obtain ⟨h1, h⟩ := xa2 h
    obtain ⟨h2, h⟩ := xa2 h
    obtain ⟨h3, h4⟩ := xa2 h
    cases xd h1
    cases xd h2
    split at h4
    · rename_i k0 k1 k2 k3 n k5 hs
      have en : n = "ValueError.__new__" := by simpa using h4
      subst en
      have hsl : sl = #[k0, k1, k2, k3, some (.builtin "ValueError.__new__"), k5] := by
        obtain ⟨l⟩ := sl
        simp only at hs
        rw [hs]
      subst hsl
      refine ⟨⟨⟨_, _, _, _, _, _, _, _, _, _, _, _, _, _, _, e, h3⟩, sa, exC, tyC, kC⟩, ⟨nm, bs, .ref C :: bm, ns, qn, true, sn, sb, ab, col, false⟩, ?_⟩
      · unfold PySem.W.clsIn
        rw [e]
    · cases h4
  · cases h
/-- a class of errors -/
def ecB (K : PySem.W.Frag) (C : Addr) : Bool := decide (PySem.W.findIn K (.ref C) "__getattribute__" = some (some (.builtin "BaseException.__getattribute__"))) && (decide (PySem.W.findIn K (.ref C) "__getattr__" = some none) && (decide (PySem.W.subIn K (.ref C) (.type "BaseException") = some true) && (PySem.W.hasDictIn K C &&
  (decide (PySem.W.findIn K (.ref C) "__class__" = some (some (.builtin "object.__class__"))) && (decide (PySem.W.specialIn K (.builtin "object.__class__") "__get__" = some (some (.builtin "getset_descriptor.__get__"))) && (decide (PySem.W.takesIn K (.builtin "object.__class__") = some true) && (decide (PySem.W.mroIn K C (.type "object") = some true) &&
    (decide (PySem.W.typeIn K (.ref C) = some (.type "type")) && PySem.W.keepIn K (.ref C)))))))))
theorem ecB_ok {K : PySem.W.Frag} {C : Addr} (h : ecB K C = true) : ExcC K C ∧ XfC K C ∧ PySem.W.subIn K (.ref C) (.type "BaseException") = some true ∧ PySem.W.typeIn K (.ref C) = some (.type "type") ∧ PySem.W.keepIn K (.ref C) = true := by
  obtain ⟨h1, h⟩ := xa2 h
  obtain ⟨h2, h⟩ := xa2 h
  obtain ⟨h3, h⟩ := xa2 h
  obtain ⟨h4, h⟩ := xa2 h
  obtain ⟨h5, h⟩ := xa2 h
  obtain ⟨h6, h⟩ := xa2 h
  obtain ⟨h7, h⟩ := xa2 h
  obtain ⟨h8, h⟩ := xa2 h
  obtain ⟨h9, h10⟩ := xa2 h
  exact ⟨⟨xd h1, xd h2, xd h3, h4, xd h5, xd h6, xd h7, xd h8⟩, ⟨xd h1, xd h2, xd h3, h4⟩, xd h3, xd h9, h10⟩
theorem bind_two {name qual : Str} {a1 a2 : Arg} {body : List Stmt} {scope : Scope} {kV doc pm cd ct : Value} {an : Option Addr} {cc : Addr} {u1 u2 : Value} (h : a1.arg ≠ a2.arg) :
    bindArgs (PySem.W.ksFn name qual ⟨[], [a1, a2], none, [], [], none, []⟩ body scope .none kV doc pm an cd ct cc) ⟨[u1, u2], []⟩ = pure ([a1.arg, a2.arg].zip [u1, u2]) := by
  have e1 : (a1.arg == a1.arg) = true := by simp
  have e2 : (a2.arg == a2.arg) = true := by simp
  have e3 : (a2.arg == a1.arg) = false := by simpa using Ne.symm h
  unfold bindArgs
  have e4 : notAStandIn Value.none = pure () := by first | rfl | kernel_rfl
  simp [seqItems?, List.lookup, e1, e2, e3, e4]
/-- its own __init__ -/
def errB (K : PySem.W.Frag) (file : Str) (C : Addr) (fld : Str) : Bool := oxB K C && (decide (PySem.W.findIn K (.ref C) "__setattr__" = some (some (.builtin "object.__setattr__"))) && (decide (PySem.W.findIn K (.ref C) fld = some none) && (decide (PySem.W.ks_superIn K C C "__init__" = some (some (.builtin "ValueError.__init__"))) &&
  (decide (PySem.W.subIn K (.ref C) (.type "ValueError") = some true) && (decide (PySem.W.mroIn K C (.ref C) = some true) && (decide (PySem.W.nsIn K cStatics "thirdparty.any" = some none) && (match PySem.W.findIn K (.ref C) "__init__" with
    | some (some (.ref fI)) => decide (PySem.W.typeIn K (.ref fI) = some (.type "function")) && (match K.lookup fI with
      | some ⟨_, _, .func ⟨_, qual, params, .stmts body, scope, g, [(cn, cc)], .none, _, _, _, _, .ref cda, _, bt⟩, _⟩ => (match bodyOf fld body with
        | some (sf, x) => parB params sf x && (decide (g = mainGlobals) && (decide (bt = builtinsNs) && (decide (cn = "__class__") && (PySem.W.codeIn K (.ref cda) qual && (scB scope sf x && (fileB K cda file && cellB K cc C))))))
        | none => false)
      | _ => false)
    | _ => false)))))))
theorem errB_ok {K : PySem.W.Frag} {file : Str} {C : Addr} {fld : Str} (e : ecB K C = true) (h : errB K file C fld = true) : ∃ fI fd sf x, ErrI K file C fI fld fd sf x ∧ Binds K fd [sf, x] [] := by
  obtain ⟨-, -, e3, e4, e5⟩ := ecB_ok e
  obtain ⟨h1, h⟩ := xa2 h
  obtain ⟨h2, h⟩ := xa2 h
  obtain ⟨h3, h⟩ := xa2 h
  obtain ⟨h4, h⟩ := xa2 h
  obtain ⟨h5, h⟩ := xa2 h
  obtain ⟨h6, h⟩ := xa2 h
  obtain ⟨h7, h⟩ := xa2 h
  obtain ⟨ox, cd, hcd⟩ := oxB_ok h1 (xd h2) e3 e4 e5
  split at h
  · rename_i fI hini
    obtain ⟨h8, h⟩ := xa2 h
    split at h
    · rename_i oc od name qual params body scope g cn cc kV doc pm an cda ct bt osl lk
      split at h
      · rename_i sf x hbody
        obtain ⟨k1, h⟩ := xa2 h
        obtain ⟨k2, h⟩ := xa2 h
        obtain ⟨k3, h⟩ := xa2 h
        obtain ⟨k4, h⟩ := xa2 h
        obtain ⟨k5, h⟩ := xa2 h
        obtain ⟨k6, h⟩ := xa2 h
        obtain ⟨k7, k8⟩ := xa2 h
        obtain ⟨a1, a2, rfl, ea1, ea2⟩ := parB_ok k1
        cases xd k2
        cases xd k3
        cases xd k4
        obtain ⟨p0, p1, p2, p3, p4, p5, p6, p7, p8, p9, v1, v2, rest, rfl, b1, b2, b3, b4, b5, b6⟩ := bodyOf_ok hbody
        obtain ⟨s1, s2, s3, s4, s5, s6, s7, s8, s9⟩ := scB_ok k6
        obtain ⟨ccl, cdd, ccs, vs, tf, f1, f2⟩ := fileB_ok k7
        obtain ⟨cl, cld, csl, c1⟩ := cellB_ok k8
        refine ⟨fI, PySem.W.ksFn name qual ⟨[], [a1, a2], none, [], [], none, []⟩ [.Expr (.Call (.Attribute (.Call (.Name "super" p0) [] [] p1) "__init__" p2) [.JoinedStr (v1 :: v2 :: rest) p3] [] p4) p5, .Assign [.Attribute (.Name sf p6) fld p7] (.Name x p8) p9] scope .none kV doc pm an (.ref cda) ct cc, sf, x, ?T, ?B⟩
        case T => exact ⟨ox, hini, xd h8, xd h3, xd h4, xd h5, xd h6, xd h7, oc, od, osl, name, qual, ⟨[], [a1, a2], none, [], [], none, []⟩, scope, .none, kV, doc, pm, ct, an, cc, cda, a1, p0, p1, p2, p3, p4, p5, p6, p7, p8, p9, v1, v2, rest, ccl, cl, cdd, cld, ccs, csl, vs, tf, cd, lk, rfl, k5, rfl, ea1, b1, s1, s2, s3, s4, s5, s6, s7, s8, s9, f1, f2, c1, hcd, b2, b3, b4, b5, b6⟩
        case B =>
          refine Binds.all fun us hl => ?_
          obtain ⟨u1, u2, rfl⟩ : ∃ u1 u2, us = [u1, u2] := by
            match us, hl with
            | [u1, u2], _ => exact ⟨u1, u2, rfl⟩
          subst ea1 ea2
          exact bind_two b2
      · cases h
    · cases h
  · cases h
end Ev
set_option maxHeartbeats 2000000
namespace Ev
open PySem PySem.Spec PyProof.Rows L2
abbrev frSt (g : Addr → Option Obj) (n : Nat) : PySem.W.Frag := He.frT g (He.asD g n ++ [cStatics])
def obSt (n : Nat) (fa : List He.Fa) (fn : List He.DefD) (tf : List He.Defn) (ex : PySem.W.Frag → Bool) (g : Addr → Option Obj) : He.AlX :=
  (He.obsT fa fn [] (frSt g n), ex (frSt g n) && He.tabsB g tf (frSt g n))
theorem says_St {n : Nat} {fa : List He.Fa} {fn : List He.DefD} {tf : List He.Defn} {ex : PySem.W.Frag → Bool} {w : World} {h : Heap} (e : obSt n fa fn tf ex h.get? = He.valX fn [] w) : He.SaysX fa fn [] tf ex w h (frSt h.get? n) := by
  obtain ⟨e1, e2⟩ := Prod.mk.inj (show (_, _) = (He.valT fn [] w, true) from e)
  obtain ⟨b1, b2⟩ := xa2 e2
  have look : ∀ d ∈ tf, PySem.W.codeHdIn (frSt h.get? n) (He.cT (frSt h.get? n) d).1 (He.cT (frSt h.get? n) d).2 = true ∧ ∃ ob, h.get? (He.cT (frSt h.get? n) d).2 = some ob ∧ He.emptyTab ob = true := fun d hd => by
    obtain ⟨c1, c2⟩ := xa2 (List.all_eq_true.mp b2 d hd)
    refine ⟨c1, ?_⟩
    split at c2
    · rename_i ob eo
      exact ⟨ob, eo, c2⟩
    · cases c2
  refine ⟨e1, b1, fun d hd => (look d hd).1, fun d hd => ?_, fun d hd => ?_⟩
  · obtain ⟨_, ob, k1, k2⟩ := look d hd
    exact He.frT_none k1 k2
  · obtain ⟨_, ob, k1, k2⟩ := look d hd
    rw [k1, He.emptyTab_eq k2]
def hookSt (n : Nat) (fa : List He.Fa) (fn : List He.DefD) (tf : List He.Defn) (ex : PySem.W.Frag → Bool) : PySem.W.Hook where
  α := He.AlX
  obs := fun s => obSt n fa fn tf ex s.heap.get?
  val := fun w => He.valX fn [] w
  says := fun w h => ∃ K : PySem.W.Frag, K.In h ∧ He.SaysX fa fn [] tf ex w h K
  of := fun _ _ e => ⟨_, He.frT_in, says_St e⟩
  keeps := fun _ _ _ ⟨K, kIn, c⟩ k => ⟨K, PySem.W.Frag.In.keeps kIn k, ⟨c.t, c.more, c.hd, c.out, fun d hd => k _ _ (c.empty d hd)⟩⟩
theorem obSt_eq {n : Nat} {fa : List He.Fa} {fn : List He.DefD} {tf : List He.Defn} {ex : PySem.W.Frag → Bool} {g : Addr → Option Obj} {s : Shared} (h : ∀ a, g a = s.heap.get? a) : obSt n fa fn tf ex g = (hookSt n fa fn tf ex).obs s := by
  have e : g = s.heap.get? := funext h
  subst e
  rfl
end Ev
set_option maxHeartbeats 1000000
namespace Ev
open PySem PySem.Spec PyProof.Rows L2
def notStar : Expr → Bool
  | .Starred _ _ => false
  | _ => true
def notComp : Expr → Bool
  | .ListComp _ _ _ _ => false
  | .SetComp _ _ _ _ => false
  | .DictComp _ _ _ _ _ => false
  | _ => true
def notSet : Expr → Bool
  | .Set _ _ _ => false
  | _ => true
def notCall : Expr → Bool
  | .Call _ _ _ _ => false
  | _ => true
def notTup : Expr → Bool
  | .Tuple _ _ _ => false
  | _ => true
def notSlice : Expr → Bool
  | .Slice _ _ _ _ => false
  | _ => true
def plainTest : Expr → Bool
  | .UnaryOp _ _ _ => false
  | .BoolOp _ _ _ => false
  | .IfExp _ _ _ _ => false
  | .Compare _ _ _ _ => false
  | _ => true
theorem star_ok {e : Expr} (h : notStar e = true) (es : List Expr) (env : Env) : starEach (e :: es) env = (false, eval e env) :: starEach es env := by
  cases e <;> first | rfl | cases h
theorem stars_ok : ∀ {es : List Expr} {env : Env} {pos : Pos}, es.all notStar = true → (backTo pos (starEach es env)).any (·.1) = false
  | [], _, _, _ => rfl
  | e :: es, env, pos, h => by
    rw [List.all_cons, Bool.and_eq_true] at h
    rw [star_ok h.1]
    exact stars_ok (es := es) h.2
theorem asgEach_ok {e : Expr} (h : notStar e = true) (es : List Expr) (env : Env) : assignEach (e :: es) env = (false, assign e env) :: assignEach es env := by
  cases e <;> first | rfl | cases h
theorem swaps_ok {e : Expr} (h : notComp e = true) (t : Option Expr) (l : Nat) (env : Env) : swapsWith e t l env = pure false := by
  cases e <;> first | rfl | cases h
theorem fold_ok {e : Expr} (h : notSet e = true) (env : Env) (x : Value) : foldedSetIterable e env x = pure x := by
  cases e <;> first | rfl | cases h
theorem marks_ok {e : Expr} (h : notSet e = true) (op : CmpOp) : behindInMarks op e = false := by
  cases e <;> first | rfl | cases h
theorem base_ok {o : Expr} (h : notCall o = true) (a : Str) (env : Env) (wh : Sem Value) : attributeBase o a env wh = wh := by
  cases o <;> first | rfl | cases h
theorem ix_ok {e : Expr} (h : notSlice e = true) : PlainIx e := by
  intro o i
  cases e <;> first | rfl | cases h
theorem test_ok {e : Expr} (h : plainTest e = true) (env : Env) (whole : Sem Value) : isTrue e env whole = (do let v ← whole; standAt e.pos; holding [v] (truthy v)) := by
  cases e <;> first | rfl | cases h
theorem swapped_ok {tg e : Expr} (h : notTup e = true) (env : Env) : swappedStores [tg] e env = pure none := by
  cases tg <;> first | rfl | (cases e <;> first | rfl | cases h)
theorem swappedN_ok {x : Str} {p : Pos} {e : Expr} (env : Env) : swappedStores [.Name x p] e env = pure none := rfl
theorem swappedS_ok {o i : Expr} {p : Pos} {e : Expr} (env : Env) : swappedStores [.Subscript o i p] e env = pure none := rfl
/-- a class of errors: its name, its number, the field that its __init__ keeps, the numbers of its subclasses -/
structure ER where
  name : Str
  num : Nat
  fld : Option Str
  subs : List Nat
structure MC where
  N : List Str
  names : List (Str × NameKind)
  blk : Option (List (Str × NameKind))
  fns : List (Str × Nat × Nat)
  cls : List (Str × Nat × Nat × Nat)
  flds : List (Nat × List Str)
  cons : List (Str × PD)
  tab : Option Nat
  ers : List ER
def visB (c : MC) (x : Str) : Bool := match c.names.lookup x with
  | some .local => true
  | some .cell => true
  | some .free => true
  | _ => false
def glB (c : MC) (x : Str) : Bool := match c.names.lookup x with
  | some .globalImplicit => true
  | _ => false
def locB (c : MC) (x : Str) : Bool := match c.names.lookup x with
  | some .local => true
  | _ => false
def fnB (c : MC) (x : Str) : Bool := match c.blk with
  | none => true
  | some l => l.lookup x == some .cell
/-- a name that may be stored -/
def stB (c : MC) (x : Str) : Bool := match c.names.lookup x with
  | some .local => true
  | some .cell => fnB c x
  | _ => false
def relN (names outer : List (Str × NameKind)) : List (Str × NameKind) := names.map fun (n, k) => if (k == .free && outer.lookup n == some .cell) then (n, .cell) else (n, k)
def MC.into (c : MC) (scope : Scope) : MC := ⟨c.N, relN scope.names c.names, some scope.names, c.fns, c.cls, c.flds, c.cons, none, c.ers⟩
def blts : List Str := ["len", "sum", "max", "min", "abs", "int", "tuple", "list", "range", "repr", "enumerate", "zip", "sorted", "all", "isinstance", "bool", "str", "set"]
/-- what a name of the module stands for -/
def ConOk (mg : Str → Option Value) (p : Str × PD) : Prop := match p.2 with
  | .int i => ∃ t, mg p.1 = some (.int i t)
  | .str y => ∃ t, mg p.1 = some (.str y t)
  | _ => False
structure Fits (c : MC) (X : Cx) (fa ca : Nat → Addr) (W : WX) (Δ : Dn) : Prop where
  N : X.N = c.N
  nd : X.N.Nodup
  sc : X.env.scope.names = c.names
  kd : X.env.scope.kind = .function
  calm : X.calm = true
  fn : X.fn = fnB c
  un : X.A.units + 100 < cLine
  gd : X.A.guards = some []
  tk : Takes X W
  bt : ∀ b ∈ blts, X.mg b = none
  fs : ∀ p ∈ c.fns, ∃ k fd ps, FnG X.prog X.w X.K X.mg X.base k (fa p.2.1) fd ps (spF X.K fa ca Δ p.2.1 p.2.2) ∧ RoomG k X.A ∧ X.mg p.1 = some (.ref (fa p.2.1)) ∧ PySem.W.keepIn X.K (.ref (fa p.2.1)) = true ∧ Binds X.K fd ps []
  cl : ∀ p ∈ c.cls, ∃ k fd ps, Mk X.K (fa (cOff + p.2.1)) (fa p.2.2.1) ∧ FnG X.prog X.w X.K X.mg X.base k (fa p.2.2.1) fd ps (spF X.K fa ca Δ p.2.2.1 p.2.2.2) ∧ RoomG (k + 1) X.A ∧ X.mg p.1 = some (.ref (fa (cOff + p.2.1))) ∧ Binds X.K fd ps []
  fl : ∀ p ∈ c.flds, Cls X.K (fa (cOff + p.1)) ∧ ∀ f ∈ p.2, NoAttr X.K (fa (cOff + p.1)) f
  gc : ∀ p ∈ c.cons, ConOk X.mg p
  tb : ∀ j, c.tab = some j → Room 0 X.A ∧ ∃ a, X.env.code = .ref a ∧ GxR.TabB X.base X.mg a (fa (tOff + j))
/-- the built-in types that are asked for -/
def tyNm (T : String) (z : Str) : Bool := (decide (T = "list") && decide (z = ("list" : Str))) || ((decide (T = "bool") && decide (z = ("bool" : Str))) || ((decide (T = "int") && decide (z = ("int" : Str))) || ((decide (T = "tuple") && decide (z = ("tuple" : Str))) || (decide (T = "str") && decide (z = ("str" : Str))))))
/-- the scope of a generator expression that leans on nothing around it -/
def gsB (sc : Scope) (x : Str) : Bool := (match sc.kind with | .function => true | _ => false) && (!sc.isCoroutine && (decide (sc.names.lookup (".0" : Str) = some .local) && (decide (sc.names.lookup x = some .local) && (!(x == ("__debug__" : Str)) && sc.names.all fun y => match y.2 with | .cell => false | .free => false | _ => true))))
section
variable {c : MC} {X : Cx} {fa ca : Nat → Addr} {W : WX} {Δ : Dn}
theorem Fits.vis (f : Fits c X fa ca W Δ) {x : Str} (h : visB c x = true) : Vis X.env.scope x := by
  unfold visB at h
  unfold Vis
  rw [f.sc]
  split at h <;> simp_all
theorem Fits.gl (f : Fits c X fa ca W Δ) {x : Str} (h : glB c x = true) : Gl X x := by
  unfold glB at h
  unfold Gl Env.kindOf
  rw [f.sc]
  split at h <;> simp_all
theorem Fits.loc (f : Fits c X fa ca W Δ) {x : Str} (h : locB c x = true) : X.env.scope.names.lookup x = some .local := by
  unfold locB at h
  rw [f.sc]
  split at h <;> simp_all
theorem Fits.st (f : Fits c X fa ca W Δ) {x : Str} (h : stB c x = true) : L2.Loc X.env.scope x ∧ (X.fn x = true ∨ X.env.scope.names.lookup x = some .local) := by
  unfold stB at h
  unfold L2.Loc
  rw [f.sc, f.fn]
  split at h <;> simp_all
theorem Fits.at (f : Fits c X fa ca W Δ) {i : Nat} {x : Str} (h : c.N[i]? = some x) : X.N[i]? = some x := by rw [f.N]; exact h
theorem Fits.into (f : Fits c X fa ca W Δ) {scope : Scope} (hk : scope.kind = .function) (s : Shared) (H : Hp) (C : Addr) (cl : List (Str × Addr)) (fp : List Addr) : Fits (c.into scope) (X.blk s H scope (compEnvC scope cl C X.env) fp) fa ca noW Δ := by
  refine ⟨f.N, f.nd, ?_, hk, f.calm, rfl, f.un, f.gd, ?_, f.bt, f.fs, f.cl, f.fl, f.gc, fun j h => by cases h⟩
  · show (scope.names.map fun (n, k) => if (k == NameKind.free && X.env.scope.kind == .function && X.env.kindOf n == some .cell) then (n, NameKind.cell) else (n, k)) = relN scope.names c.names
    unfold relN Env.kindOf
    rw [f.kd, f.sc]
    refine List.map_congr_left fun p _ => ?_
    obtain ⟨n, k⟩ := p
    simp
  · rintro u s' ⟨_, _, _, _, _, _, _, _, _, _, _, _, _, _, _, _, w⟩
    exact w
end
def biOk (b : Bi) (x : Str) : Bool := b.ok && decide (x = b.nm)
def ownOf (N : List Str) : List Nat → Option (List (Str × Nat))
  | [] => some []
  | j :: r => match N[j]?, ownOf N r with
    | some x, some l => some ((x, j) :: l)
    | _, _ => none
theorem ownOf_snd {N : List Str} : ∀ {js : List Nat} {l : List (Str × Nat)}, ownOf N js = some l → l.map (·.2) = js
  | [], l, h => by cases h; rfl
  | j :: r, l, h => by
    unfold ownOf at h
    split at h
    · rename_i x l' e1 e2
      cases h
      rw [List.map_cons, ownOf_snd e2]
    · cases h
def mTg (c : MC) : Tg → Expr → Bool
  | .nm i, e => match e with
    | .Name x _ => decide (c.N[i]? = some x) && stB c x
    | _ => false
  | .two a b, e => match e with
    | .Tuple [x, y] _ _ => notStar x && (notStar y && (mTg c a x && mTg c b y))
    | _ => false
  | .thr a b d, e => match e with
    | .Tuple [x, y, z] _ _ => notStar x && (notStar y && (notStar z && (mTg c a x && (mTg c b y && mTg c d z))))
    | _ => false
def fldB (c : MC) (g : Str) (cs : List Nat) : Bool := cs.all fun k => c.flds.any fun p => decide (p.1 = k) && p.2.contains g
theorem Fits.fld {c : MC} {X : Cx} {fa ca : Nat → Addr} {W : WX} {Δ : Dn} (f : Fits c X fa ca W Δ) {g : Str} {cs : List Nat} (h : fldB c g cs = true) : ∀ k ∈ cs, Cls X.K (fa (cOff + k)) ∧ NoAttr X.K (fa (cOff + k)) g := fun k hk => by
  unfold fldB at h
  rw [List.all_eq_true] at h
  obtain ⟨p, hp, h2⟩ := List.any_eq_true.mp (h k hk)
  rw [Bool.and_eq_true, decide_eq_true_eq] at h2
  obtain ⟨e1, e2⟩ := h2
  obtain ⟨q1, q2⟩ := f.fl p hp
  rw [e1] at q1 q2
  exact ⟨q1, q2 g (List.contains_iff_mem.mp e2)⟩
def conB (c : MC) (x : Str) (d : PD) : Bool := c.cons.any fun p => decide (p.1 = x) && (match p.2, d with
  | .int i, .int j => decide (i = j)
  | .str y, .str z => decide (y = z)
  | _, _ => false)
theorem Fits.con {c : MC} {X : Cx} {fa ca : Nat → Addr} {W : WX} {Δ : Dn} (f : Fits c X fa ca W Δ) {x : Str} {d : PD} (h : conB c x d = true) : ConOk X.mg (x, d) := by
  unfold conB at h
  obtain ⟨p, hp, h2⟩ := List.any_eq_true.mp h
  obtain ⟨y, e⟩ := p
  rw [Bool.and_eq_true, decide_eq_true_eq] at h2
  obtain ⟨e1, e2⟩ := h2
  have q := f.gc _ hp
  simp only at e1 e2
  subst e1
  split at e2
  · rw [decide_eq_true_eq] at e2; subst e2; exact q
  · rw [decide_eq_true_eq] at e2; subst e2; exact q
  · cases e2
/-- a walk that hands out pairs wants a target of two -/
def itTup : It → Expr → Bool
  | .enm _, .Tuple _ _ _ => true
  | .zip _ _, .Tuple _ _ _ => true
  | .ezip _ _, .Tuple _ _ _ => true
  | .enm _, _ => false
  | .zip _ _, _ => false
  | .ezip _ _, _ => false
  | _, _ => true
def subB (a b : List Nat) : Bool := a.all fun j => b.contains j
def isCmpE : E → Bool
  | .cmp _ _ _ => true
  | .cmp2 _ _ _ _ _ => true
  | .isc _ _ _ => true
  | _ => false
mutual
def mE (c : MC) : E → Expr → Bool
  | .var i, e => match e with
    | .Name x _ => decide (c.N[i]? = some x) && (visB c x && (!(x == ("__debug__" : Str)) && !(x == ("__classdict__" : Str))))
    | _ => false
  | .con d, e => match e, d with
    | .Constant .none _ _, .none => true
    | .Constant (.bool b) _ _, .bool b' => b == b'
    | .Constant (.int i) _ _, .int i' => decide (i = i')
    | .Constant (.str x) _ _, .str x' => decide (x = x')
    | .Name x _, .int i => glB c x && (conB c x (.int i) && !(x == ("__debug__" : Str)))
    | .Name x _, .str i => glB c x && (conB c x (.str i) && !(x == ("__debug__" : Str)))
    | _, _ => false
  | .fnv f, e => match e with
    | .Name x _ => glB c x && ((c.fns.any fun p => decide (p.1 = x) && decide (p.2.1 = f)) && !(x == ("__debug__" : Str)))
    | _ => false
  | .tup es, e => match e with
    | .Tuple l _ _ => decide (es.len ≤ 1000) && mEs c es l
    | _ => false
  | .li l, e => mL c l e
  | .cell l, e => mL c l e
  | .dnew, e => match e with
    | .Dict [] [] _ => true
    | _ => false
  | .frz a, e => mE c a e
  | .bin op a b, e => match e with
    | .BinOp x o y _ => decide (o = opB op) && (mE c a x && mE c b y)
    | _ => false
  | .neg a, e => match e with
    | .UnaryOp .USub x _ => mE c a x
    | _ => false
  | .cmp op a b, e => match e with
    | .Compare x [o] [y] _ => decide (o = opC op) && (notSet y && (mE c a x && mE c b y))
    | _ => false
  | .cmp2 op op' a b d, e => match e with
    | .Compare x [o, o'] [y, z] _ => decide (o = opC op) && (decide (o' = opC op') && (notSet z && (mE c a x && (mE c b y && mE c d z))))
    | _ => false
  | .isc d ng a, e => match e with
    | .Compare x [o] [y] _ => decide (o = opIs ng) && ((match y, d with
      | .Constant .none _ _, .none => true
      | .Constant (.bool b) _ _, .bool b' => b == b'
      | _, _ => false) && mE c a x)
    | _ => false
  | .and a b, e => match e with
    | .BoolOp .And [x, y] _ => mE c a x && mE c b y
    | .BoolOp .And (x :: y :: z :: r) p => mE c a x && mE c b (.BoolOp .And (y :: z :: r) p)
    | _ => false
  | .or a b, e => match e with
    | .BoolOp .Or [x, y] _ => mE c a x && mE c b y
    | .BoolOp .Or (x :: y :: z :: r) p => mE c a x && mE c b (.BoolOp .Or (y :: z :: r) p)
    | _ => false
  | .nt a, e => match e with
    | .UnaryOp .Not x _ => mE c a x
    | _ => false
  | .ife t a b, e => match e with
    | .IfExp x y z _ => mT c t x && (mE c a y && mE c b z)
    | _ => false
  | .ix a i, e => match e with
    | .Subscript x y _ => notSlice y && (mE c a x && mE c i y)
    | _ => false
  | .sl a lo hi, e => match e with
    | .Subscript x (.Slice l h none _) _ => mE c a x && (mO c lo l && mO c hi h)
    | _ => false
  | .call f es, e => match e with
    | .Call (.Name x _) (y :: l) [] _ => glB c x && (c.fns.contains (x, f, es.len) && (!(x == ("__debug__" : Str)) && ((y :: l).all notStar && mEs c es (y :: l))))
    | _ => false
  | .callV i fs es, e => match e with
    | .Call (.Name x _) (y :: l) [] _ => decide (c.N[i]? = some x) && (visB c x && (!(x == ("__debug__" : Str)) && (!(x == ("__classdict__" : Str)) && ((fs.all fun f => c.fns.any fun p => decide (p.2.1 = f) && decide (p.2.2 = es.len)) && ((y :: l).all notStar && mEs c es (y :: l))))))
    | _ => false
  | .bi b es, e => match e with
    | .Call (.Name x _) (y :: l) [] _ => biOk b x && (glB c x && (blts.contains x && ((y :: l).all notStar && mEs c es (y :: l))))
    | _ => false
  | .fld a g cs, e => match e with
    | .Attribute o x _ => decide (x = g) && (notCall o && (fldB c g cs && mE c a o))
    | _ => false
  | .mk k g es, e => match e with
    | .Call (.Name x _) (y :: l) [] _ => glB c x && (c.cls.contains (x, k, g, es.len + 1) && (!(x == ("__debug__" : Str)) && ((y :: l).all notStar && mEs c es (y :: l))))
    | _ => false
  | .dlit k v, e => match e with
    | .Dict [some x] [y] _ => mE c k x && mE c v y
    | _ => false
  | .pop0 a, e => match e with
    | .Call (.Attribute o x ap) [.Constant (.int i) _ _] [] cp => decide (x = "pop") && (decide (i = 0) && ((ap.endLine == cp.line) && (notCall o && mE c a o)))
    | _ => false
  | .same a b, e => match e with
    | .Compare (.Call (.Name x _) [y] [] _) [.Eq] [.Call (.Name x' _) [y'] [] _] _ => decide (x = "repr") && (decide (x' = "repr") && (glB c "repr" && (notStar y && (notStar y' && (mE c a y && mE c b y')))))
    | _ => false
  | .trng a, e => match e with
    | .Call (.Name x _) [.Call (.Name x' _) [y] [] _] [] _ => decide (x = "tuple") && (decide (x' = "range") && (glB c "tuple" && (glB c "range" && (notStar y && mE c a y))))
    | _ => false
  | .inst T a, e => match e with
    | .Call (.Name x _) [y, .Name z _] [] _ => decide (x = "isinstance") && (glB c "isinstance" && (glB c z && (tyNm T z && (notStar y && mE c a y))))
    | _ => false
  | .sset a, e => match e with
    | .Call (.Name x _) [.Call (.Name x' _) [y] [] _] [] _ => decide (x = "sorted") && (decide (x' = "set") && (glB c "sorted" && (glB c "set" && (notStar y && mE c a y))))
    | _ => false
  | .allN j k a, e => match e with
    | .Call (.Name x _) [.GeneratorExp (.Compare (.Name y _) [.GtE] [.Constant (.int i) _ _] _) [⟨.Name z _, .Name it p, [], 0⟩] sc _] [] _ => decide (x = "all") && (decide (y = z) && (decide (i = k) && (glB c "all" && (gsB sc z && (decide (c.tab = some j) && mE c a (.Name it p))))))
    | _ => false
  | .allZ j a b, e => match e with
    | .Call (.Name x _) [.GeneratorExp (.Compare (.Name y _) [.LtE] [.Name y2 _] _) [⟨.Tuple [.Name z _, .Name z2 _] _ _, .Call (.Name u _) [e1, e2] [] _, [], 0⟩] sc _] [] _ => decide (x = "all") && (decide (u = "zip") && (decide (y = z) && (decide (y2 = z2) && (decide (z ≠ z2) && (glB c "all" && (glB c "zip" && (gsB sc z && (gsB sc z2 && (decide (c.tab = some j) && (notStar e1 && (notStar e2 && (mE c a e1 && mE c b e2))))))))))))
    | _ => false
  | .mkR _ _ _, _ => false
  | .mth _ _ _ _ _, _ => false
  | .srtR _, _ => false
termination_by structural x => x
def mO (c : MC) : O → Option Expr → Bool
  | .no, e => e.isNone
  | .so a, e => match e with
    | some x => mE c a x
    | none => false
termination_by structural x => x
def mEs (c : MC) : Es → List Expr → Bool
  | .nil, l => l.isEmpty
  | .cons a r, l => match l with
    | x :: xs => notStar x && (mE c a x && mEs c r xs)
    | [] => false
termination_by structural x => x
def mL (c : MC) : L → Expr → Bool
  | .lst es, e => match e with
    | .List l _ => mEs c es l
    | _ => false
  | .lc elt tg own it t, e => match e with
    | .ListComp x [⟨y, z, ifs, 0⟩] scope _ => (match ownOf c.N own with
      | some l => (match scope.kind with | .function => true | _ => false) && (blkC c.N ⟨.function, c.names, false, false, []⟩ scope l && (subB tg.slots own && (notSet z && ((itTup it y && mI c it z) && (mTg (c.into scope) tg y && ((match ifs with | [] => (match t with | .yes => true | _ => false) | [q] => mT (c.into scope) t q | _ => false) && mE (c.into scope) elt x))))))
      | none => false)
    | _ => false
  | .seq a, e => match e with
    | .Call (.Name x _) [y] [] _ => decide (x = "list") && (glB c "list" && (notStar y && mE c a y))
    | _ => false
  | .rep es n, e => match e with
    | .BinOp (.List l _) o y _ => decide (o = .Mult) && (decide (es.len ≤ 1000) && (mEs c es l && mE c n y))
    | _ => false
  | .lc2 elt tg own it tg1 own1 it1, e => match e with
    | .ListComp x [⟨y, z, [], 0⟩, ⟨y', z', [], 0⟩] scope _ => (match ownOf c.N own with
      | some l => (match scope.kind with | .function => true | _ => false) && (blkC c.N ⟨.function, c.names, false, false, []⟩ scope l && (subB tg.slots own && (notSet z && ((itTup it y && mI c it z) && (mTg (c.into scope) tg y && (subB tg1.slots own1 && (subB own1 own && (notSet z' && ((itTup it1 y' && mI (c.into scope) it1 z') && (mTg (c.into scope) tg1 y' && mE (c.into scope) elt x))))))))))
      | none => false)
    | _ => false
  | .lcL _ _ _ _ _, _ => false
termination_by structural x => x
def mT (c : MC) : T → Expr → Bool
  | .v a, e => (plainTest e || isCmpE a) && mE c a e
  | .and a b, e => match e with
    | .BoolOp .And [x, y] _ => mT c a x && mT c b y
    | .BoolOp .And (x :: y :: z :: r) p => mT c a x && mT c b (.BoolOp .And (y :: z :: r) p)
    | _ => false
  | .or a b, e => match e with
    | .BoolOp .Or [x, y] _ => mT c a x && mT c b y
    | .BoolOp .Or (x :: y :: z :: r) p => mT c a x && mT c b (.BoolOp .Or (y :: z :: r) p)
    | _ => false
  | .nt a, e => match e with
    | .UnaryOp .Not x _ => mT c a x
    | _ => false
  | .yes, _ => false
termination_by structural x => x
def mI (c : MC) : It → Expr → Bool
  | .e a, e => mE c a e
  | .rng a, e => match e with
    | .Call (.Name x _) [y] [] _ => decide (x = "range") && (glB c "range" && (notStar y && mE c a y))
    | _ => false
  | .rng2 a b, e => match e with
    | .Call (.Name x _) [y, z] [] _ => decide (x = "range") && (glB c "range" && (notStar y && (notStar z && (mE c a y && mE c b z))))
    | _ => false
  | .rng3 a b d, e => match e with
    | .Call (.Name x _) [y, z, u] [] _ => decide (x = "range") && (glB c "range" && (notStar y && (notStar z && (notStar u && (mE c a y && (mE c b z && mE c d u))))))
    | _ => false
  | .enm a, e => match e with
    | .Call (.Name x _) [y] [] _ => decide (x = "enumerate") && (glB c "enumerate" && (notStar y && mE c a y))
    | _ => false
  | .zip a b, e => match e with
    | .Call (.Name x _) [y, z] [] _ => decide (x = "zip") && (glB c "zip" && (notStar y && (notStar z && (mE c a y && mE c b z))))
    | _ => false
  | .ezip a b, e => match e with
    | .Call (.Name x _) [.Call (.Name u _) [y, z] [] _] [] _ => decide (x = "enumerate") && (glB c "enumerate" && (decide (u = "zip") && (glB c "zip" && (notStar y && (notStar z && (mE c a y && mE c b z))))))
    | _ => false
termination_by structural x => x
end
end Ev
set_option maxHeartbeats 4000000
namespace Ev
open PySem PySem.Spec PyProof.Rows L2
theorem ba2 {a b : Bool} (h : (a && b) = true) : a = true ∧ b = true := Bool.and_eq_true_iff.mp h
theorem bd {p : Prop} [Decidable p] (h : decide p = true) : p := of_decide_eq_true h
theorem bn {a : Bool} (h : (!a) = true) : a = false := by cases a <;> simp_all
section
variable {fa ca : Nat → Addr} {Δ : Dn}
theorem tyNm_ok {T : String} {z : Str} (h : tyNm T z = true) : bootBuiltins z = some (.type T) ∧ z ∈ blts ∧ z ≠ "__name__" ∧ (z == ("__debug__" : Str)) = false := by
  have go : ∀ {T' : String} {z' : Str}, (decide (T = T') && decide (z = z')) = true → T = T' ∧ z = z' := fun {T' z'} h => by
    obtain ⟨h1, h2⟩ := ba2 h
    exact ⟨bd h1, bd h2⟩
  unfold tyNm at h
  rcases Bool.or_eq_true_iff.mp h with h | h
  · obtain ⟨rfl, rfl⟩ := go h
    exact ⟨by decide +kernel, by decide, by decide, by decide⟩
  rcases Bool.or_eq_true_iff.mp h with h | h
  · obtain ⟨rfl, rfl⟩ := go h
    exact ⟨by decide +kernel, by decide, by decide, by decide⟩
  rcases Bool.or_eq_true_iff.mp h with h | h
  · obtain ⟨rfl, rfl⟩ := go h
    exact ⟨by decide +kernel, by decide, by decide, by decide⟩
  rcases Bool.or_eq_true_iff.mp h with h | h
  · obtain ⟨rfl, rfl⟩ := go h
    exact ⟨by decide +kernel, by decide, by decide, by decide⟩
  · obtain ⟨rfl, rfl⟩ := go h
    exact ⟨by decide +kernel, by decide, by decide, by decide⟩
theorem gs_ok {X : Cx} {sc : Scope} {x : Str} (h : gsB sc x = true) : GxR.GenS X.env sc x ∧ sc.kind = .function ∧ sc.names.lookup x = some .local ∧ (x == ("__debug__" : Str)) = false := by
  obtain ⟨h1, h⟩ := ba2 h
  obtain ⟨h2, h⟩ := ba2 h
  obtain ⟨h3, h⟩ := ba2 h
  obtain ⟨h4, h⟩ := ba2 h
  obtain ⟨h5, h6⟩ := ba2 h
  have k : sc.kind = .function := by
    split at h1
    · assumption
    · cases h1
  have a := List.all_eq_true.mp h6
  refine ⟨⟨k, bn h2, fun y hy z => ?_, bd h3, bd h4, fun y hy z => ?_⟩, k, bd h4, bn h5⟩
  · have q := a y hy
    rw [z] at q; cases q
  · have q := a y hy
    rw [z] at q; cases q
theorem dis_of {X : Cx} {W : WX} {y : Expr} {d : PD} (h : (match y, d with
      | .Constant .none _ _, .none => true
      | .Constant (.bool b) _ _, .bool b' => b == b'
      | _, _ => false) = true) : ∃ v, ((d = .none ∧ v = V.non) ∨ ∃ b, d = .bool b ∧ v = .bl b) ∧ PE X y (tC v) := by
  split at h
  · exact ⟨.non, .inl ⟨rfl, rfl⟩, pe_non⟩
  · rename_i b _ _ b'
    obtain rfl := beq_iff_eq.mp h
    exact ⟨.bl b, .inr ⟨b, rfl, rfl⟩, pe_bl⟩
  · cases h
theorem mTg_ok : ∀ (t : Tg) {c : MC} {X : Cx} {W : WX} {e : Expr}, Fits c X fa ca W Δ → mTg c t e = true → DG X fa ca e t
  | .nm i, c, X, W, e, f, h => by
    unfold mTg at h
    split at h
    · obtain ⟨h1, h2⟩ := ba2 h
      obtain ⟨h3, h4⟩ := f.st h2
      exact dg_nm f.nd (f.at (bd h1)) h3 h4
    · cases h
  | .two a b, c, X, W, e, f, h => by
    unfold mTg at h
    split at h
    · obtain ⟨h1, h⟩ := ba2 h
      obtain ⟨h2, h⟩ := ba2 h
      obtain ⟨h3, h4⟩ := ba2 h
      exact dg_two f.calm (mTg_ok a f h3) (mTg_ok b f h4) (by rw [asgEach_ok h1, asgEach_ok h2]; rfl) (by rw [asgEach_ok h2]; rfl)
    · cases h
  | .thr a b d, c, X, W, e, f, h => by
    unfold mTg at h
    split at h
    · obtain ⟨h1, h⟩ := ba2 h
      obtain ⟨h2, h⟩ := ba2 h
      obtain ⟨h3, h⟩ := ba2 h
      obtain ⟨h4, h⟩ := ba2 h
      obtain ⟨h5, h6⟩ := ba2 h
      exact dg_thr f.calm (mTg_ok a f h4) (mTg_ok b f h5) (mTg_ok d f h6) (by rw [asgEach_ok h1, asgEach_ok h2, asgEach_ok h3]; rfl) (by rw [asgEach_ok h2, asgEach_ok h3]; rfl) (by rw [asgEach_ok h3]; rfl)
    · cases h
theorem subB_ok {a b : List Nat} (h : subB a b = true) : ∀ j ∈ a, j ∈ b := fun j hj => by
  unfold subB at h
  rw [List.all_eq_true] at h
  exact List.contains_iff_mem.mp (h j hj)
theorem blk_of {c : MC} {X : Cx} {W : WX} {scope : Scope} {l : List (Str × Nat)} (f : Fits c X fa ca W Δ) (h : blkC c.N ⟨.function, c.names, false, false, []⟩ scope l = true) : BlkOk X.N X.env.scope scope l := by
  have ok := blkOk_by h
  refine ⟨ok.kind, ok.uniq, by rw [f.N]; exact ok.ix, by rw [f.sc]; exact ok.free, by rw [f.N]; exact ok.own⟩
theorem dt_is {c : MC} {X : Cx} {W : WX} {a : E} {e : Expr} (f : Fits c X fa ca W Δ) (hc : isCmpE a = true) (h : mE c a e = true) (ok : ∀ {a : E} {c : MC} {X : Cx} {W : WX} {e : Expr}, Fits c X fa ca W Δ → mE c a e = true → DE X fa ca W Δ e a) : DT X fa ca W Δ e (.v a) := by
  cases a with
  | cmp op p q =>
    unfold mE at h
    split at h
    · obtain ⟨h1, h⟩ := ba2 h
      obtain ⟨h2, h⟩ := ba2 h
      obtain ⟨h3, h4⟩ := ba2 h
      cases bd h1
      exact dt_cmp (by have := f.un; omega) op (ok f h3) (ok f h4) (marks_ok h2 _)
    · cases h
  | cmp2 op op' p q r =>
    unfold mE at h
    split at h
    · obtain ⟨h1, h⟩ := ba2 h
      obtain ⟨h1', h⟩ := ba2 h
      obtain ⟨h2, h⟩ := ba2 h
      obtain ⟨h3, h⟩ := ba2 h
      obtain ⟨h4, h5⟩ := ba2 h
      cases bd h1
      cases bd h1'
      exact dt_cmp2 (by have := f.un; omega) op op' (ok f h3) (ok f h4) (ok f h5) (marks_ok h2 _)
    · cases h
  | isc d ng p =>
    unfold mE at h
    split at h
    · obtain ⟨h1, h⟩ := ba2 h
      obtain ⟨h2, h3⟩ := ba2 h
      cases bd h1
      obtain ⟨v, hv, pv⟩ := dis_of (X := X) (W := W) h2
      exact dt_isc hv pv (ok f h3)
    · cases h
  | _ => cases hc
theorem biOk_ok {b : Bi} {x : Str} (h : biOk b x = true) : b.ok = true ∧ x = b.nm := let ⟨h1, h2⟩ := ba2 h; ⟨h1, bd h2⟩
/-- the one text of a test -/
theorem pw_of {X : Cx} {e : Expr} {t : TT} (h : PW X e t) : PT X e t := h.pt
def isBoolE : Expr → Bool
  | .BoolOp _ _ _ => true
  | _ => false
mutual
theorem mE_ok : ∀ (a : E) {c : MC} {X : Cx} {W : WX} {e : Expr}, Fits c X fa ca W Δ → mE c a e = true → DE X fa ca W Δ e a
  | .var i, c, X, W, e, f, h => by
    unfold mE at h
    split at h
    · obtain ⟨h1, h⟩ := ba2 h
      obtain ⟨h2, h⟩ := ba2 h
      obtain ⟨h3, h4⟩ := ba2 h
      exact de_var (f.at (bd h1)) (f.vis h2) (bn h3) (bn h4)
    · cases h
  | .con d, c, X, W, e, f, h => by
    unfold mE at h
    split at h
    · exact de_con pe_non fun _ => .non
    · rename_i b _ _ b'
      obtain rfl := beq_iff_eq.mp h
      exact de_con pe_bl fun _ => .bl b
    · rename_i i _ _ i'
      obtain rfl := bd h
      exact de_con pe_int fun _ => .int i
    · rename_i i _ _ i'
      obtain rfl := bd h
      exact de_con pe_str fun _ => .str i
    · obtain ⟨h1, h⟩ := ba2 h
      obtain ⟨h2, h3⟩ := ba2 h
      exact de_gint (f.gl h1) (f.con h2) (bn h3)
    · obtain ⟨h1, h⟩ := ba2 h
      obtain ⟨h2, h3⟩ := ba2 h
      exact de_gstr (f.gl h1) (f.con h2) (bn h3)
    · cases h
  | .fnv k, c, X, W, e, f, h => by
    unfold mE at h
    split at h
    · obtain ⟨h1, h⟩ := ba2 h
      obtain ⟨h2, h3⟩ := ba2 h
      obtain ⟨⟨x, k', ar⟩, hm, hp⟩ := List.any_eq_true.mp h2
      obtain ⟨h4, h5⟩ := ba2 hp
      cases bd h4
      cases bd h5
      obtain ⟨_, _, _, _, _, hmg, _, _⟩ := f.fs _ hm
      exact de_fnv (pe_glob (f.gl h1) hmg rfl (bn h3))
    · cases h
  | .tup es, c, X, W, e, f, h => by
    unfold mE at h
    split at h
    · obtain ⟨h1, h2⟩ := ba2 h
      exact de_tup (bd h1) (mEs_ok es f h2)
    · cases h
  | .li l, c, X, W, e, f, h => by
    unfold mE at h
    exact de_li (mL_ok l f h)
  | .cell l, c, X, W, e, f, h => by
    unfold mE at h
    exact de_cell (mL_ok l f h)
  | .dnew, c, X, W, e, f, h => by
    unfold mE at h
    split at h
    · exact de_dnew
    · cases h
  | .frz a, c, X, W, e, f, h => by
    unfold mE at h
    exact de_frz (mE_ok a f h)
  | .bin op a b, c, X, W, e, f, h => by
    unfold mE at h
    split at h
    · obtain ⟨h1, h⟩ := ba2 h
      obtain ⟨h2, h3⟩ := ba2 h
      cases bd h1
      exact de_bin op (mE_ok a f h2) (mE_ok b f h3)
    · cases h
  | .neg a, c, X, W, e, f, h => by
    unfold mE at h
    split at h
    · exact de_neg (mE_ok a f h)
    · cases h
  | .cmp op a b, c, X, W, e, f, h => by
    unfold mE at h
    split at h
    · obtain ⟨h1, h⟩ := ba2 h
      obtain ⟨h2, h⟩ := ba2 h
      obtain ⟨h3, h4⟩ := ba2 h
      cases bd h1
      exact de_cmp (by have := f.un; omega) op (mE_ok a f h3) (mE_ok b f h4) (marks_ok h2 _)
    · cases h
  | .cmp2 op op' a b d, c, X, W, e, f, h => by
    unfold mE at h
    split at h
    · obtain ⟨h1, h⟩ := ba2 h
      obtain ⟨h1', h⟩ := ba2 h
      obtain ⟨h2, h⟩ := ba2 h
      obtain ⟨h3, h⟩ := ba2 h
      obtain ⟨h4, h5⟩ := ba2 h
      cases bd h1
      cases bd h1'
      exact de_cmp2 (by have := f.un; omega) op op' (mE_ok a f h3) (mE_ok b f h4) (mE_ok d f h5) (marks_ok h2 _)
    · cases h
  | .isc d ng a, c, X, W, e, f, h => by
    unfold mE at h
    split at h
    · obtain ⟨h1, h⟩ := ba2 h
      obtain ⟨h2, h3⟩ := ba2 h
      cases bd h1
      obtain ⟨v, hv, pv⟩ := dis_of (X := X) (W := W) h2
      exact de_isc hv pv (mE_ok a f h3)
    · cases h
  | .and a b, c, X, W, e, f, h => by
    unfold mE at h
    split at h
    · obtain ⟨h1, h2⟩ := ba2 h
      exact de_and (mE_ok a f h1) (de_one (mE_ok b f h2))
    · obtain ⟨h1, h2⟩ := ba2 h
      exact de_and (mE_ok a f h1) (mE_ok b f h2)
    · cases h
  | .or a b, c, X, W, e, f, h => by
    unfold mE at h
    split at h
    · obtain ⟨h1, h2⟩ := ba2 h
      exact de_or (mE_ok a f h1) (de_one (mE_ok b f h2))
    · obtain ⟨h1, h2⟩ := ba2 h
      exact de_or (mE_ok a f h1) (mE_ok b f h2)
    · cases h
  | .nt a, c, X, W, e, f, h => by
    unfold mE at h
    split at h
    · exact de_nt (mE_ok a f h)
    · cases h
  | .ife t a b, c, X, W, e, f, h => by
    unfold mE at h
    split at h
    · obtain ⟨h1, h⟩ := ba2 h
      obtain ⟨h2, h3⟩ := ba2 h
      exact de_ife (mT_ok t f h1) (mE_ok a f h2) (mE_ok b f h3)
    · cases h
  | .ix a i, c, X, W, e, f, h => by
    unfold mE at h
    split at h
    · obtain ⟨h1, h⟩ := ba2 h
      obtain ⟨h2, h3⟩ := ba2 h
      exact de_ix (by have := f.un; omega) (mE_ok a f h2) (mE_ok i f h3) (ix_ok h1)
    · cases h
  | .sl a lo hi, c, X, W, e, f, h => by
    unfold mE at h
    split at h
    · obtain ⟨h1, h⟩ := ba2 h
      obtain ⟨h2, h3⟩ := ba2 h
      exact de_sl (mE_ok a f h1) (mO_ok lo f h2) (mO_ok hi f h3)
    · cases h
  | .call k es, c, X, W, e, f, h => by
    unfold mE at h
    split at h
    · obtain ⟨h1, h⟩ := ba2 h
      obtain ⟨h2, h⟩ := ba2 h
      obtain ⟨h3, h⟩ := ba2 h
      obtain ⟨h4, h5⟩ := ba2 h
      rw [List.all_cons] at h4
      obtain ⟨h6, h7⟩ := ba2 h4
      obtain ⟨n, fd, ps, F, hr, hmg, hk, hb⟩ := f.fs _ (List.contains_iff_mem.mp h2)
      exact de_callG F hr (f.gl h1) hmg hk hb f.tk rfl (bn h3) (mEs_ok es f h5) (star_ok h6 _ _) (stars_ok h7)
    · cases h
  | .callV i fs es, c, X, W, e, f, h => by
    unfold mE at h
    split at h
    · obtain ⟨h1, h⟩ := ba2 h
      obtain ⟨h2, h⟩ := ba2 h
      obtain ⟨h3, h⟩ := ba2 h
      obtain ⟨h4, h⟩ := ba2 h
      obtain ⟨h5, h⟩ := ba2 h
      obtain ⟨h6, h7⟩ := ba2 h
      rw [List.all_cons] at h6
      obtain ⟨h8, h9⟩ := ba2 h6
      refine de_callV (f.at (bd h1)) (f.vis h2) (bn h3) (bn h4) (fun k hk => ?_) f.tk (mEs_ok es f h7) (star_ok h8 _ _) (stars_ok h9)
      obtain ⟨p, hp, hq⟩ := List.any_eq_true.mp (List.all_eq_true.mp h5 k hk)
      obtain ⟨q1, q2⟩ := ba2 hq
      obtain ⟨n, fd, ps, F, hr, hmg, hk, hb⟩ := f.fs p hp
      rw [bd q1] at F hk
      rw [bd q2] at F
      exact ⟨n, fd, ps, F, hr, hk, hb⟩
    · cases h
  | .bi b es, c, X, W, e, f, h => by
    unfold mE at h
    split at h
    · obtain ⟨h1, h⟩ := ba2 h
      obtain ⟨h2, h⟩ := ba2 h
      obtain ⟨h3, h⟩ := ba2 h
      obtain ⟨h4, h5⟩ := ba2 h
      rw [List.all_cons] at h4
      obtain ⟨h6, h7⟩ := ba2 h4
      obtain ⟨h8, h9⟩ := biOk_ok h1
      subst h9
      exact de_bi h8 f.calm (by have := f.un; omega) (f.gl h2) (f.bt _ (List.contains_iff_mem.mp h3)) (mEs_ok es f h5) (star_ok h6 _ _) (stars_ok h7)
    · cases h
  | .fld a g cs, c, X, W, e, f, h => by
    unfold mE at h
    split at h
    · obtain ⟨h1, h⟩ := ba2 h
      obtain ⟨h2, h⟩ := ba2 h
      obtain ⟨h3, h4⟩ := ba2 h
      cases bd h1
      exact de_fld (f.fld h3) (mE_ok a f h4) (base_ok h2 _ _ _)
    · cases h
  | .mk k g es, c, X, W, e, f, h => by
    unfold mE at h
    split at h
    · obtain ⟨h1, h⟩ := ba2 h
      obtain ⟨h2, h⟩ := ba2 h
      obtain ⟨h3, h⟩ := ba2 h
      obtain ⟨h4, h5⟩ := ba2 h
      rw [List.all_cons] at h4
      obtain ⟨h6, h7⟩ := ba2 h4
      obtain ⟨n, fd, ps, M, F, hr, hmg, hb⟩ := f.cl _ (List.contains_iff_mem.mp h2)
      exact de_mk M F hr (f.gl h1) hmg hb f.tk rfl (bn h3) (mEs_ok es f h5) (star_ok h6 _ _) (stars_ok h7)
    · cases h
  | .dlit k v, c, X, W, e, f, h => by
    unfold mE at h
    split at h
    · obtain ⟨h1, h2⟩ := ba2 h
      exact de_dlit (by have := f.un; omega) (mE_ok k f h1) (mE_ok v f h2)
    · cases h
  | .pop0 a, c, X, W, e, f, h => by
    unfold mE at h
    split at h
    · obtain ⟨h1, h⟩ := ba2 h
      obtain ⟨h2, h⟩ := ba2 h
      obtain ⟨h3, h⟩ := ba2 h
      obtain ⟨h4, h5⟩ := ba2 h
      cases bd h1
      cases bd h2
      exact de_pop0 (mE_ok a f h5) (base_ok h4 _ _ _) h3
    · cases h
  | .same a b, c, X, W, e, f, h => by
    unfold mE at h
    split at h
    · obtain ⟨h1, h⟩ := ba2 h
      obtain ⟨h2, h⟩ := ba2 h
      obtain ⟨h3, h⟩ := ba2 h
      obtain ⟨h4, h⟩ := ba2 h
      obtain ⟨h5, h⟩ := ba2 h
      obtain ⟨h6, h7⟩ := ba2 h
      cases bd h1
      cases bd h2
      exact de_same f.gd (by have := f.un; omega) (f.gl h3) (f.bt _ (by decide)) (mE_ok a f h6) (mE_ok b f h7) (star_ok h4 _ _) (star_ok h5 _ _)
    · cases h
  | .trng a, c, X, W, e, f, h => by
    unfold mE at h
    split at h
    · obtain ⟨h1, h⟩ := ba2 h
      obtain ⟨h2, h⟩ := ba2 h
      obtain ⟨h3, h⟩ := ba2 h
      obtain ⟨h4, h⟩ := ba2 h
      obtain ⟨h5, h6⟩ := ba2 h
      cases bd h1
      cases bd h2
      exact de_trng f.calm (f.gl h3) (f.bt _ (by decide)) (f.gl h4) (f.bt _ (by decide)) (mE_ok a f h6) (star_ok h5 _ _)
    · cases h
  | .inst T a, c, X, W, e, f, h => by
    unfold mE at h
    split at h
    · obtain ⟨h1, h⟩ := ba2 h
      obtain ⟨h2, h⟩ := ba2 h
      obtain ⟨h3, h⟩ := ba2 h
      obtain ⟨h4, h⟩ := ba2 h
      obtain ⟨h5, h6⟩ := ba2 h
      cases bd h1
      obtain ⟨k1, k2, k3, k4⟩ := tyNm_ok h4
      exact de_inst (f.gl h2) (f.bt _ (by decide)) (f.gl h3) (f.bt _ k2) k1 k3 k4 (mE_ok a f h6) (star_ok h5 _ _)
    · cases h
  | .sset a, c, X, W, e, f, h => by
    unfold mE at h
    split at h
    · obtain ⟨h1, h⟩ := ba2 h
      obtain ⟨h2, h⟩ := ba2 h
      obtain ⟨h3, h⟩ := ba2 h
      obtain ⟨h4, h⟩ := ba2 h
      obtain ⟨h5, h6⟩ := ba2 h
      cases bd h1
      cases bd h2
      exact de_sset f.calm (f.gl h3) (f.bt _ (by decide)) (f.gl h4) (f.bt _ (by decide)) (mE_ok a f h6) (star_ok h5 _ _)
    · cases h
  | .allN j k a, c, X, W, e, f, h => by
    unfold mE at h
    split at h
    · obtain ⟨h1, h⟩ := ba2 h
      obtain ⟨h2, h⟩ := ba2 h
      obtain ⟨h3, h⟩ := ba2 h
      obtain ⟨h4, h⟩ := ba2 h
      obtain ⟨h5, h⟩ := ba2 h
      obtain ⟨h6, h7⟩ := ba2 h
      cases bd h1
      cases bd h2
      cases bd h3
      obtain ⟨t0, a0, t1, t2⟩ := f.tb j (bd h6)
      obtain ⟨S, k1, k2, k3⟩ := gs_ok (X := X) h5
      exact de_allN t0 (f.gl h4) (f.bt _ (by decide)) t2 t1 S (mE_ok a f h7) (numT_ge k1 k2 k3) (fun v => rfl) rfl
    · cases h
  | .allZ j a b, c, X, W, e, f, h => by
    unfold mE at h
    split at h
    · obtain ⟨h1, h⟩ := ba2 h
      obtain ⟨h2, h⟩ := ba2 h
      obtain ⟨h3, h⟩ := ba2 h
      obtain ⟨h4, h⟩ := ba2 h
      obtain ⟨h5, h⟩ := ba2 h
      obtain ⟨h6, h⟩ := ba2 h
      obtain ⟨h7, h⟩ := ba2 h
      obtain ⟨h8, h⟩ := ba2 h
      obtain ⟨h9, h⟩ := ba2 h
      obtain ⟨h10, h⟩ := ba2 h
      obtain ⟨h11, h⟩ := ba2 h
      obtain ⟨h12, h⟩ := ba2 h
      obtain ⟨h13, h14⟩ := ba2 h
      cases bd h1
      cases bd h2
      cases bd h3
      cases bd h4
      obtain ⟨t0, a0, t1, t2⟩ := f.tb j (bd h10)
      obtain ⟨S, k1, k2, k3⟩ := gs_ok (X := X) h8
      obtain ⟨S', k1', k2', k3'⟩ := gs_ok (X := X) h9
      exact de_allZ t0 (f.gl h6) (f.bt _ (by decide)) t2 t1 S k2' (bd h5) (f.gl h7) (f.bt _ (by decide)) (mE_ok a f h13) (mE_ok b f h14) (star_ok h11 _ _) (star_ok h12 _ _) (numT2_le k1 k2 k2' k3 k3') rfl
    · cases h
  | .mkR _ _ _, c, X, W, e, f, h => by unfold mE at h; cases h
  | .mth _ _ _ _ _, c, X, W, e, f, h => by unfold mE at h; cases h
  | .srtR _, c, X, W, e, f, h => by unfold mE at h; cases h
theorem mO_ok : ∀ (a : O) {c : MC} {X : Cx} {W : WX} {e : Option Expr}, Fits c X fa ca W Δ → mO c a e = true → DO X fa ca W Δ e a
  | .no, c, X, W, e, f, h => by
    unfold mO at h
    cases e with
    | none => exact do_no
    | some _ => cases h
  | .so a, c, X, W, e, f, h => by
    unfold mO at h
    split at h
    · exact do_so (mE_ok a f h)
    · cases h
theorem mEs_ok : ∀ (a : Es) {c : MC} {X : Cx} {W : WX} {e : List Expr}, Fits c X fa ca W Δ → mEs c a e = true → DA X fa ca W Δ e a
  | .nil, c, X, W, e, f, h => by
    unfold mEs at h
    cases e with
    | nil => exact da_nil
    | cons _ _ => cases h
  | .cons a r, c, X, W, e, f, h => by
    unfold mEs at h
    split at h
    · obtain ⟨h1, h⟩ := ba2 h
      obtain ⟨h2, h3⟩ := ba2 h
      exact da_cons (mE_ok a f h2) (mEs_ok r f h3) (star_ok h1 _ _)
    · cases h
theorem mL_ok : ∀ (a : L) {c : MC} {X : Cx} {W : WX} {e : Expr}, Fits c X fa ca W Δ → mL c a e = true → DL X fa ca W Δ e a
  | .lst es, c, X, W, e, f, h => by
    unfold mL at h
    split at h
    · exact dl_lst (mEs_ok es f h)
    · cases h
  | .lc elt tg own it t, c, X, W, e, f, h => by
    unfold mL at h
    split at h
    · rename_i x y z ifs scope pos
      split at h
      · rename_i l hl
        obtain ⟨h1, h⟩ := ba2 h
        obtain ⟨h2, h⟩ := ba2 h
        obtain ⟨h3, h⟩ := ba2 h
        obtain ⟨h4, h⟩ := ba2 h
        obtain ⟨h5, h⟩ := ba2 h
        obtain ⟨h6, h⟩ := ba2 h
        obtain ⟨h7, h8⟩ := ba2 h
        have hk : scope.kind = .function := by
          split at h1
          · assumption
          · cases h1
        have hs := ownOf_snd hl
        have fi := fun s H C cl fp => f.into (X := X) hk s H C cl fp
        have ht : ∀ (s : Shared) (H : Hp) (C : Addr) (cl : List (Str × Addr)) (fp : List Addr), DTs (X.blk s H scope (compEnvC scope cl C X.env) fp) fa ca noW Δ ifs t := fun s H C cl fp => by
          clear h h5 h6 h8 h4 h3 h2 h1 hl
          cases ifs with
          | nil =>
            simp only at h7
            split at h7
            · exact dts_nil
            · cases h7
          | cons q r =>
            cases r with
            | nil => exact dts_one (mT_ok t (fi s H C cl fp) h7)
            | cons _ _ => cases h7
        have r := dl_lc (own := l) (eltc := elt) (tgc := tg) (tc := t) (pos := pos) (by rw [hs]; exact subB_ok h3) f.calm f.nd (mI_ok it (ba2 h5).1 f (ba2 h5).2) (blk_of f h2) (fun s H C cl fp => mTg_ok tg (fi s H C cl fp) h6)
          ht (fun s H C cl fp => mE_ok elt (fi s H C cl fp) h8) (fold_ok h4 X.env)
        rw [hs] at r
        exact r
      · cases h
    · cases h
  | .seq a, c, X, W, e, f, h => by
    unfold mL at h
    split at h
    · obtain ⟨h1, h⟩ := ba2 h
      obtain ⟨h2, h⟩ := ba2 h
      obtain ⟨h3, h4⟩ := ba2 h
      cases bd h1
      exact dl_seq (f.gl h2) (f.bt _ (by decide)) (mE_ok a f h4) (star_ok h3 _ _)
    · cases h
  | .rep es n, c, X, W, e, f, h => by
    unfold mL at h
    split at h
    · obtain ⟨h1, h⟩ := ba2 h
      obtain ⟨h2, h⟩ := ba2 h
      obtain ⟨h3, h4⟩ := ba2 h
      cases bd h1
      exact dl_rep (bd h2) (mEs_ok es f h3) (mE_ok n f h4)
    · cases h
  | .lc2 elt tg own it tg1 own1 it1, c, X, W, e, f, h => by
    unfold mL at h
    split at h
    · rename_i x y z y' z' scope pos
      split at h
      · rename_i l hl
        obtain ⟨h1, h⟩ := ba2 h
        obtain ⟨h2, h⟩ := ba2 h
        obtain ⟨h3, h⟩ := ba2 h
        obtain ⟨h4, h⟩ := ba2 h
        obtain ⟨h5, h⟩ := ba2 h
        obtain ⟨h6, h⟩ := ba2 h
        obtain ⟨h7, h⟩ := ba2 h
        obtain ⟨h8, h⟩ := ba2 h
        obtain ⟨h9, h⟩ := ba2 h
        obtain ⟨h10, h⟩ := ba2 h
        obtain ⟨h11, h12⟩ := ba2 h
        have hk : scope.kind = .function := by
          split at h1
          · assumption
          · cases h1
        have hs := ownOf_snd hl
        have fi := fun s H C cl fp => f.into (X := X) hk s H C cl fp
        have r := dl_lc2 (own := l) (own1 := own1) (eltc := elt) (tgc := tg) (tg1 := tg1) (pos := pos) (by rw [hs]; exact subB_ok h3) (subB_ok h7) (by rw [hs]; exact subB_ok h8) f.calm f.nd (mI_ok it (ba2 h5).1 f (ba2 h5).2) (blk_of f h2) (fun s H C cl fp => mTg_ok tg (fi s H C cl fp) h6)
          (fun s H C cl fp => mI_ok it1 (ba2 h10).1 (fi s H C cl fp) (ba2 h10).2) (fun s H C cl fp => mTg_ok tg1 (fi s H C cl fp) h11) (fun s H C cl fp => mE_ok elt (fi s H C cl fp) h12) (fold_ok h4 X.env) (fun env => fold_ok h9 env)
        rw [hs] at r
        exact r
      · cases h
    · cases h
  | .lcL _ _ _ _ _, c, X, W, e, f, h => by unfold mL at h; cases h
theorem mT_ok : ∀ (a : T) {c : MC} {X : Cx} {W : WX} {e : Expr}, Fits c X fa ca W Δ → mT c a e = true → DT X fa ca W Δ e a
  | .v a, c, X, W, e, f, h => by
    unfold mT at h
    obtain ⟨h1, h2⟩ := ba2 h
    rcases Bool.or_eq_true_iff.mp h1 with h3 | h3
    · exact dt_v (mE_ok a f h2) (test_ok h3 X.env)
    · cases a with
      | cmp op p q =>
        unfold mE at h2
        split at h2
        · obtain ⟨k1, k⟩ := ba2 h2
          obtain ⟨k2, k⟩ := ba2 k
          obtain ⟨k3, k4⟩ := ba2 k
          cases bd k1
          exact dt_cmp (by have := f.un; omega) op (mE_ok p f k3) (mE_ok q f k4) (marks_ok k2 _)
        · cases h2
      | cmp2 op op' p q r =>
        unfold mE at h2
        split at h2
        · obtain ⟨k1, k⟩ := ba2 h2
          obtain ⟨k1', k⟩ := ba2 k
          obtain ⟨k2, k⟩ := ba2 k
          obtain ⟨k3, k⟩ := ba2 k
          obtain ⟨k4, k5⟩ := ba2 k
          cases bd k1
          cases bd k1'
          exact dt_cmp2 (by have := f.un; omega) op op' (mE_ok p f k3) (mE_ok q f k4) (mE_ok r f k5) (marks_ok k2 _)
        · cases h2
      | isc d ng p =>
        unfold mE at h2
        split at h2
        · obtain ⟨k1, k⟩ := ba2 h2
          obtain ⟨k2, k3⟩ := ba2 k
          cases bd k1
          obtain ⟨v, hv, pv⟩ := dis_of (X := X) (W := W) k2
          exact dt_isc hv pv (mE_ok p f k3)
        · cases h2
      | _ => cases h3
  | .and a b, c, X, W, e, f, h => by
    unfold mT at h
    split at h
    · obtain ⟨h1, h2⟩ := ba2 h
      exact (dw_and (mT_ok a f h1) (dw_and1 (mT_ok b f h2))).pt
    · obtain ⟨h1, h2⟩ := ba2 h
      exact (dw_and (mT_ok a f h1) (mW_ok b f h2 rfl)).pt
    · cases h
  | .or a b, c, X, W, e, f, h => by
    unfold mT at h
    split at h
    · obtain ⟨h1, h2⟩ := ba2 h
      exact (dw_or (mT_ok a f h1) (dw_or1 (mT_ok b f h2))).pt
    · obtain ⟨h1, h2⟩ := ba2 h
      exact (dw_or (mT_ok a f h1) (mW_ok b f h2 rfl)).pt
    · cases h
  | .nt a, c, X, W, e, f, h => by
    unfold mT at h
    split at h
    · exact dt_nt (mT_ok a f h)
    · cases h
  | .yes, c, X, W, e, f, h => by unfold mT at h; cases h
theorem mW_ok : ∀ (a : T) {c : MC} {X : Cx} {W : WX} {e : Expr}, Fits c X fa ca W Δ → mT c a e = true → isBoolE e = true → PW X e (tG X.K fa ca W relB (evT Δ a))
  | .v a, c, X, W, e, f, h, hb => by
    unfold mT at h
    obtain ⟨h1, h2⟩ := ba2 h
    cases e with
    | BoolOp o l p =>
      rcases Bool.or_eq_true_iff.mp h1 with h3 | h3
      · cases h3
      · cases a with
        | cmp op p q => unfold mE at h2; cases h2
        | cmp2 op op' p q r => unfold mE at h2; cases h2
        | isc d ng p => unfold mE at h2; cases h2
        | _ => cases h3
    | _ => cases hb
  | .and a b, c, X, W, e, f, h, hb => by
    unfold mT at h
    split at h
    · obtain ⟨h1, h2⟩ := ba2 h
      exact dw_and (mT_ok a f h1) (dw_and1 (mT_ok b f h2))
    · obtain ⟨h1, h2⟩ := ba2 h
      exact dw_and (mT_ok a f h1) (mW_ok b f h2 rfl)
    · cases h
  | .or a b, c, X, W, e, f, h, hb => by
    unfold mT at h
    split at h
    · obtain ⟨h1, h2⟩ := ba2 h
      exact dw_or (mT_ok a f h1) (dw_or1 (mT_ok b f h2))
    · obtain ⟨h1, h2⟩ := ba2 h
      exact dw_or (mT_ok a f h1) (mW_ok b f h2 rfl)
    · cases h
  | .nt a, c, X, W, e, f, h, hb => by
    unfold mT at h
    cases e with
    | BoolOp o l p => cases h
    | _ => cases hb
  | .yes, c, X, W, e, f, h, hb => by unfold mT at h; cases h
theorem mI_ok : ∀ (a : It) {c : MC} {X : Cx} {W : WX} {tg e : Expr}, itTup a tg = true → Fits c X fa ca W Δ → mI c a e = true → DI X fa ca W Δ tg e a
  | .e a, c, X, W, tg, e, ht, f, h => by
    unfold mI at h
    exact di_e (mE_ok a f h)
  | .rng a, c, X, W, tg, e, ht, f, h => by
    unfold mI at h
    split at h
    · obtain ⟨h1, h⟩ := ba2 h
      obtain ⟨h2, h⟩ := ba2 h
      obtain ⟨h3, h4⟩ := ba2 h
      cases bd h1
      exact di_rng (f.gl h2) (f.bt _ (by decide)) (mE_ok a f h4) (star_ok h3 _ _)
    · cases h
  | .rng2 a b, c, X, W, tg, e, ht, f, h => by
    unfold mI at h
    split at h
    · obtain ⟨h1, h⟩ := ba2 h
      obtain ⟨h2, h⟩ := ba2 h
      obtain ⟨h3, h⟩ := ba2 h
      obtain ⟨h3', h⟩ := ba2 h
      obtain ⟨h4, h5⟩ := ba2 h
      cases bd h1
      exact di_rng2 (f.gl h2) (f.bt _ (by decide)) (mE_ok a f h4) (mE_ok b f h5) (by rw [star_ok h3, star_ok h3']; rfl) (star_ok h3' _ _)
    · cases h
  | .rng3 a b d, c, X, W, tg, e, ht, f, h => by
    unfold mI at h
    split at h
    · obtain ⟨h1, h⟩ := ba2 h
      obtain ⟨h2, h⟩ := ba2 h
      obtain ⟨h3, h⟩ := ba2 h
      obtain ⟨h4, h⟩ := ba2 h
      obtain ⟨h5, h⟩ := ba2 h
      obtain ⟨k1, h⟩ := ba2 h
      obtain ⟨k2, k3⟩ := ba2 h
      cases bd h1
      exact di_rng3 (f.gl h2) (f.bt _ (by decide)) (mE_ok a f k1) (mE_ok b f k2) (mE_ok d f k3) (by rw [star_ok h3, star_ok h4, star_ok h5]; rfl) (by rw [star_ok h4, star_ok h5]; rfl) (star_ok h5 _ _)
    · cases h
  | .enm a, c, X, W, tg, e, ht, f, h => by
    unfold mI at h
    split at h
    · obtain ⟨h1, h⟩ := ba2 h
      obtain ⟨h2, h⟩ := ba2 h
      obtain ⟨h3, h4⟩ := ba2 h
      cases bd h1
      cases tg with
      | Tuple _ _ _ => exact di_enm (f.gl h2) (f.bt _ (by decide)) (mE_ok a f h4) (star_ok h3 _ _)
      | _ => cases ht
    · cases h
  | .zip a b, c, X, W, tg, e, ht, f, h => by
    unfold mI at h
    split at h
    · obtain ⟨h1, h⟩ := ba2 h
      obtain ⟨h2, h⟩ := ba2 h
      obtain ⟨h3, h⟩ := ba2 h
      obtain ⟨h3', h⟩ := ba2 h
      obtain ⟨h4, h5⟩ := ba2 h
      cases bd h1
      cases tg with
      | Tuple _ _ _ => exact di_zip (f.gl h2) (f.bt _ (by decide)) (mE_ok a f h4) (mE_ok b f h5) (star_ok h3 _ _) (star_ok h3' _ _)
      | _ => cases ht
    · cases h
  | .ezip a b, c, X, W, tg, e, ht, f, h => by
    unfold mI at h
    split at h
    · obtain ⟨h1, h⟩ := ba2 h
      obtain ⟨h2, h⟩ := ba2 h
      obtain ⟨k1, h⟩ := ba2 h
      obtain ⟨k2, h⟩ := ba2 h
      obtain ⟨h3, h⟩ := ba2 h
      obtain ⟨h3', h⟩ := ba2 h
      obtain ⟨h4, h5⟩ := ba2 h
      cases bd h1
      cases bd k1
      cases tg with
      | Tuple _ _ _ => exact di_ez (f.gl h2) (f.bt _ (by decide)) (f.gl k2) (f.bt _ (by decide)) (mE_ok a f h4) (mE_ok b f h5) (star_ok h3 _ _) (star_ok h3' _ _)
      | _ => cases ht
    · cases h
end
end
end Ev
set_option maxHeartbeats 4000000
namespace Ev
open PySem PySem.Spec PyProof.Rows L2
structure ErOk (X : Cx) (file : Str) (ca : Nat → Addr) (ers : List ER) (p : ER) : Prop where
  gl : X.mg p.name = some (.ref (ca p.num))
  kp : PySem.W.keepIn X.K (.ref (ca p.num)) = true
  ec : ExcC X.K (ca p.num)
  xf : XfC X.K (ca p.num)
  sb : PySem.W.subIn X.K (.ref (ca p.num)) (.type "BaseException") = some true
  ty : PySem.W.typeIn X.K (.ref (ca p.num)) = some (.type "type")
  ki : ∀ q ∈ ers, PySem.W.kitOne X.K (.ref (ca p.num)) (.ref (ca q.num)) = some (q.subs.contains p.num)
  xm : ∀ q ∈ ers, PySem.W.exmOne X.K (.ref (ca p.num)) (.ref (ca q.num)) = some (q.subs.contains p.num)
  made : match p.fld with
    | some f => PySem.W.findIn X.K (.ref (ca p.num)) f = some none ∧ ∃ fI fd sf y, ErrI X.K file (ca p.num) fI f fd sf y ∧ Binds X.K fd [sf, y] []
    | none => PySem.W.excIn X.K (ca p.num) He.veBase "ValueError.__new__" = true
structure FitE (c : MC) (X : Cx) (ca : Nat → Addr) : Prop where
  stk : X.stack = X.env :: X.outer
  frm : X.env.frame = some X.env.locals
  room : Room 2 X.A
  su : X.mg "super" = none
  top : (X.prog.main.scope.names.lookup ("super" : Str)).isSome = false
  er : ∃ file, ((X.prog.main.file : Str) == file) = true ∧ ∀ p ∈ c.ers, ErOk X file ca c.ers p
/-- numbers of known classes -/
def knB (c : MC) (k : Nat) : Bool := c.ers.any fun p => decide (p.num = k)
/-- the class z: ys are its subclasses, ns are not -/
def subsB (c : MC) (z : Str) (ys ns : List Nat) : Bool := c.ers.any fun q => decide (q.name = z) && ((ys.all fun k => knB c k && q.subs.contains k) && ns.all fun k => knB c k && !q.subs.contains k)
def hasF (c : MC) (cs : List Nat) (f : Str) : Bool := cs.all fun k => c.ers.any fun p => decide (p.num = k) && decide (p.fld = some f)
def mX (c : MC) (nm : Option Str) : HX → Expr → Bool
  | .con d, e => match e, d with
    | .Constant .none _ _, .none => true
    | .Constant (.bool b) _ _, .bool b' => b == b'
    | .Constant (.int i) _ _, .int i' => decide (i = i')
    | .Constant (.str x) _ _, .str x' => decide (x = x')
    | _, _ => false
  | .fld cs f, e => match e with
    | .Attribute (.Name n _) g _ => decide (nm = some n) && (decide (g = f) && hasF c cs f)
    | _ => false
  | .isi ys ns, e => match e with
    | .Call (.Name x _) [.Name n _, .Name z _] [] _ => decide (x = "isinstance") && (glB c "isinstance" && (decide (nm = some n) && (glB c z && (!(z == ("__debug__" : Str)) && subsB c z ys ns))))
    | _ => false
  | .isb cs f, e => match e with
    | .Call (.Name x _) [.Attribute (.Name n _) g _, .Name z _] [] _ => decide (x = "isinstance") && (decide (z = "bool") && (glB c "isinstance" && (glB c "bool" && (decide (nm = some n) && (decide (g = f) && hasF c cs f)))))
    | _ => false
  | .nt a, e => match e with
    | .UnaryOp .Not x _ => mX c nm a x
    | _ => false
  | .and _ _, _ => false
def mXT (c : MC) (nm : Option Str) : HX → Expr → Bool
  | .and a b, e => match e with
    | .BoolOp .And [x, y] _ => mXT c nm a x && mXT c nm b y
    | _ => false
  | .nt a, e => match e with
    | .UnaryOp .Not x _ => mXT c nm a x
    | _ => false
  | .con d, e => plainTest e && mX c nm (.con d) e
  | .fld cs f, e => plainTest e && mX c nm (.fld cs f) e
  | .isi ys ns, e => plainTest e && mX c nm (.isi ys ns) e
  | .isb cs f, e => plainTest e && mX c nm (.isb cs f) e
def strB (p : PD) (x : Str) : Bool := match p with
  | .str y => decide (y = x)
  | _ => false
theorem strB_ok {p : PD} {x : Str} (h : strB p x = true) : p = .str x := by
  unfold strB at h
  split at h
  · cases bd h
    rfl
  · cases h
def mXs (c : MC) (nm : Option Str) : List HX → List Expr → Bool
  | [], l => l.isEmpty
  | a :: r, l => match l with
    | x :: xs => notStar x && (mX c nm a x && mXs c nm r xs)
    | [] => false
def mV (c : MC) (nm : Option Str) : HV → Expr → Bool
  | .at a, e => mX c nm a e
  | .tup as, e => match e with
    | .Tuple l _ _ => decide (as.length ≤ 1000) && mXs c nm as l
    | _ => false
  | .pick s t a, e => match e with
    | .Subscript (.List [.Constant (.str x) _ _, .Constant (.str y) _ _] _) (.Call (.Name i _) [u] [] _) _ => strB s x && (strB t y && (decide (i = "int") && (glB c "int" && (notStar u && mX c nm a u))))
    | _ => false
def mHs (c : MC) (nm : Option Str) : HS → List Stmt → Bool
  | .ret v, l => match l with
    | [.Return (some e) _] => mV c nm v e
    | _ => false
  | .ife t v r, l => match l with
    | .If e [.Return (some u) _] [] _ :: rest => mXT c nm t e && (mV c nm v u && mHs c nm r rest)
    | _ => false
section
variable {c : MC} {X : Cx} {fa ca : Nat → Addr} {W : WX} {Δ : Dn} {a : Addr} {oe : Obj} {cls : Value} {d : Option Addr} {pn : List (Addr × Obj)}
/-- the clause's name, its slot -/
def NmOk (X : Cx) (nm : Option Str) (j : Option Nat) : Prop := match nm, j with
  | some n, some i => X.N[i]? = some n ∧ Vis X.env.scope n ∧ (n == ("__debug__" : Str)) = false ∧ (n == ("__classdict__" : Str)) = false
  | none, none => True
  | _, _ => False
theorem kn_ok (fe : FitE c X ca) {k : Nat} (h : knB c k = true) : ∃ p ∈ c.ers, p.num = k := by
  obtain ⟨p, hp, hq⟩ := List.any_eq_true.mp h
  exact ⟨p, hp, bd hq⟩
theorem hasF_ok (fe : FitE c X ca) {cs : List Nat} {f : Str} (h : hasF c cs f = true) : ∀ k ∈ cs, XfC X.K (ca k) ∧ PySem.W.findIn X.K (.ref (ca k)) f = some none := fun k hk => by
  obtain ⟨p, hp, hq⟩ := List.any_eq_true.mp (List.all_eq_true.mp h k hk)
  obtain ⟨q1, q2⟩ := ba2 hq
  obtain ⟨file, _, her⟩ := fe.er
  have e := her p hp
  have m := e.made
  rw [bd q2] at m
  rw [← bd q1]
  exact ⟨e.xf, m.1⟩
theorem subs_ok (fe : FitE c X ca) {z : Str} {ys ns : List Nat} (h : subsB c z ys ns = true) : ∃ C, X.mg z = some (.ref C) ∧ (∀ k ∈ ys, ExcC X.K (ca k) ∧ PySem.W.kitOne X.K (.ref (ca k)) (.ref C) = some true ∧ PySem.W.exmOne X.K (.ref (ca k)) (.ref C) = some true) ∧
    ∀ k ∈ ns, ExcC X.K (ca k) ∧ PySem.W.kitOne X.K (.ref (ca k)) (.ref C) = some false ∧ PySem.W.exmOne X.K (.ref (ca k)) (.ref C) = some false := by
  obtain ⟨q, hq, hh⟩ := List.any_eq_true.mp h
  obtain ⟨h1, hh⟩ := ba2 hh
  obtain ⟨h2, h3⟩ := ba2 hh
  obtain ⟨file, _, her⟩ := fe.er
  have eq := her q hq
  refine ⟨ca q.num, by rw [← bd h1]; exact eq.gl, fun k hk => ?_, fun k hk => ?_⟩
  · obtain ⟨k1, k2⟩ := ba2 (List.all_eq_true.mp h2 k hk)
    obtain ⟨p, hp, e⟩ := kn_ok fe k1
    have ep := her p hp
    rw [← e]
    rw [← e] at k2
    exact ⟨ep.ec, (ep.ki q hq).trans (by rw [k2]), (ep.xm q hq).trans (by rw [k2])⟩
  · obtain ⟨k1, k2⟩ := ba2 (List.all_eq_true.mp h3 k hk)
    obtain ⟨p, hp, e⟩ := kn_ok fe k1
    have ep := her p hp
    rw [← e]
    rw [← e] at k2
    have k3 := bn k2
    exact ⟨ep.ec, (ep.ki q hq).trans (by rw [k3]), (ep.xm q hq).trans (by rw [k3])⟩
theorem nm_var {nm : Option Str} {j : Option Nat} {n : Str} {p : Pos} (hn : NmOk X nm j) (h : nm = some n) : ∃ i, j = some i ∧ PE (X.suite a ((a, oe) :: pn)) (.Name n p) (tVar i) := by
  subst h
  cases j with
  | none => exact hn.elim
  | some i => exact ⟨i, rfl, pe_var (X := X.suite a ((a, oe) :: pn)) hn.1 hn.2.1 hn.2.2.1 hn.2.2.2⟩
theorem mX_ok (f : Fits c X fa ca W Δ) (fe : FitE c X ca) {nm : Option Str} {j : Option Nat} (hn : NmOk X nm j) (hz : Zc cls d oe) (hf : ∃ vs, oe.data = .fields vs) : ∀ (x : HX) {e : Expr}, mX c nm x e = true → PE (X.suite a ((a, oe) :: pn)) e (tX ca a cls d j (evX x))
  | .con p, e, h => by
    unfold mX at h
    have key : ∀ {v : V}, PE (X.suite a ((a, oe) :: pn)) e (tC v) → Dq (fun _ => none) v p → PE (X.suite a ((a, oe) :: pn)) e (tX ca a cls d j (evX (.con p))) := fun h1 h2 => PE.imp (hx_con h1 h2) fun σ H Q z => by
      simpa only [evX] using z
    split at h
    · exact key pe_non .non
    · have e := beq_iff_eq.mp h
      subst e
      exact key pe_bl (.bl _)
    · cases bd h
      exact key pe_int (.int _)
    · cases bd h
      exact key pe_str (.str _)
    · cases h
  | .fld cs g, e, h => by
    unfold mX at h
    split at h
    · obtain ⟨h1, h⟩ := ba2 h
      obtain ⟨h2, h3⟩ := ba2 h
      cases bd h2
      obtain ⟨i, rfl, hv⟩ := nm_var (a := a) (oe := oe) (pn := pn) hn (bd h1)
      exact hx_fld (hasF_ok fe h3) hz hf hv
    · cases h
  | .isi ys ns, e, h => by
    unfold mX at h
    split at h
    · obtain ⟨h1, h⟩ := ba2 h
      obtain ⟨h2, h⟩ := ba2 h
      obtain ⟨h3, h⟩ := ba2 h
      obtain ⟨h4, h⟩ := ba2 h
      obtain ⟨h5, h6⟩ := ba2 h
      cases bd h1
      obtain ⟨i, rfl, hv⟩ := nm_var (a := a) (oe := oe) (pn := pn) hn (bd h3)
      obtain ⟨C, k1, k2, k3⟩ := subs_ok fe h6
      exact hx_isi (fun k hk => ⟨(k2 k hk).1, (k2 k hk).2.1⟩) (fun k hk => ⟨(k3 k hk).1, (k3 k hk).2.1⟩) hz hf hv (f.gl h2) (f.bt _ (by decide)) (f.gl h4) k1 (bn h5)
    · cases h
  | .isb cs g, e, h => by
    unfold mX at h
    split at h
    · obtain ⟨h1, h⟩ := ba2 h
      obtain ⟨h2, h⟩ := ba2 h
      obtain ⟨h3, h⟩ := ba2 h
      obtain ⟨h4, h⟩ := ba2 h
      obtain ⟨h5, h⟩ := ba2 h
      obtain ⟨h6, h7⟩ := ba2 h
      cases bd h1
      cases bd h2
      cases bd h6
      obtain ⟨i, rfl, hv⟩ := nm_var (a := a) (oe := oe) (pn := pn) hn (bd h5)
      exact hx_isb (hx_fld (hasF_ok fe h7) hz hf hv) (f.gl h3) (f.bt _ (by decide)) (f.gl h4) (f.bt _ (by decide)) rfl
    · cases h
  | .nt x, e, h => by
    unfold mX at h
    split at h
    · exact hx_nt (mX_ok f fe hn hz hf x h)
    · cases h
  | .and x y, e, h => by unfold mX at h; cases h
theorem pt_he {e : Expr} {env : Env} (h : plainTest e = true) : ∀ whole, isTrue e env whole = (do let v ← whole; standAt e.pos; holding [v] (truthy v)) := by
  cases e <;> first | (intro _; rfl) | cases h
theorem mXT_ok (f : Fits c X fa ca W Δ) (fe : FitE c X ca) {nm : Option Str} {j : Option Nat} (hn : NmOk X nm j) (hz : Zc cls d oe) (hf : ∃ vs, oe.data = .fields vs) : ∀ (x : HX) {e : Expr}, mXT c nm x e = true → PT (X.suite a ((a, oe) :: pn)) e (tXb ca a cls d j (evX x))
  | .con p, e, h => by
    unfold mXT at h
    exact ht_v (mX_ok f fe hn hz hf _ (ba2 h).2) (pt_he (ba2 h).1)
  | .fld cs g, e, h => by
    unfold mXT at h
    exact ht_v (mX_ok f fe hn hz hf _ (ba2 h).2) (pt_he (ba2 h).1)
  | .isi ys ns, e, h => by
    unfold mXT at h
    exact ht_v (mX_ok f fe hn hz hf _ (ba2 h).2) (pt_he (ba2 h).1)
  | .isb cs g, e, h => by
    unfold mXT at h
    exact ht_v (mX_ok f fe hn hz hf _ (ba2 h).2) (pt_he (ba2 h).1)
  | .nt x, e, h => by
    unfold mXT at h
    split at h
    · exact ht_nt (mXT_ok f fe hn hz hf x h)
    · cases h
  | .and x y, e, h => by
    unfold mXT at h
    split at h
    · exact ht_and (mXT_ok f fe hn hz hf x (ba2 h).1) (mXT_ok f fe hn hz hf y (ba2 h).2)
    · cases h
theorem mXs_ok (f : Fits c X fa ca W Δ) (fe : FitE c X ca) {nm : Option Str} {j : Option Nat} (hn : NmOk X nm j) (hz : Zc cls d oe) (hf : ∃ vs, oe.data = .fields vs) : ∀ (xs : List HX) {es : List Expr}, mXs c nm xs es = true → PA (X.suite a ((a, oe) :: pn)) es (tXs ca a cls d j (evXs xs))
  | [], es, h => by
    unfold mXs at h
    cases es with
    | nil => exact hxs_nil
    | cons _ _ => cases h
  | x :: xs, es, h => by
    unfold mXs at h
    split at h
    · obtain ⟨h1, h⟩ := ba2 h
      obtain ⟨h2, h3⟩ := ba2 h
      exact hxs_cons (mX_ok f fe hn hz hf x h2) (mXs_ok f fe hn hz hf xs h3) (star_ok h1 _ _)
    · cases h
theorem mV_ok (f : Fits c X fa ca W Δ) (fe : FitE c X ca) {nm : Option Str} {j : Option Nat} (hn : NmOk X nm j) (hz : Zc cls d oe) (hf : ∃ vs, oe.data = .fields vs) : ∀ (x : HV) {e : Expr}, mV c nm x e = true → PE (X.suite a ((a, oe) :: pn)) e (tXv X.K fa ca a cls d j (evV x))
  | .at x, e, h => by
    simp only [mV] at h
    exact hv_at (mX_ok f fe hn hz hf x h)
  | .tup xs, e, h => by
    simp only [mV] at h
    split at h
    · exact hv_tup (bd (ba2 h).1) (mXs_ok f fe hn hz hf xs (ba2 h).2)
    · cases h
  | .pick s t x, e, h => by
    simp only [mV] at h
    split at h
    · obtain ⟨h1, h⟩ := ba2 h
      obtain ⟨h2, h⟩ := ba2 h
      obtain ⟨h3, h⟩ := ba2 h
      obtain ⟨h4, h⟩ := ba2 h
      obtain ⟨h5, h6⟩ := ba2 h
      rw [strB_ok h1, strB_ok h2]
      cases bd h3
      exact hv_pick (by have := f.un; omega) (f.gl h4) (f.bt _ (by decide)) (mX_ok f fe hn hz hf x h6) (star_ok h5 _ _)
    · cases h
theorem mHs_ok (f : Fits c X fa ca W Δ) (fe : FitE c X ca) {nm : Option Str} {j : Option Nat} (hn : NmOk X nm j) (hz : Zc cls d oe) (hf : ∃ vs, oe.data = .fields vs) : ∀ (h : HS) {l : List Stmt}, mHs c nm h l = true → PSs (X.suite a ((a, oe) :: pn)) l (tXh X.K fa ca a cls d j (evH h))
  | .ret v, l, h => by
    unfold mHs at h
    split at h
    · exact hs_ret (mV_ok f fe hn hz hf v h)
    · cases h
  | .ife t v r, l, h => by
    unfold mHs at h
    split at h
    · obtain ⟨h1, h⟩ := ba2 h
      obtain ⟨h2, h3⟩ := ba2 h
      exact hs_ife (mXT_ok f fe hn hz hf t h1) (mV_ok f fe hn hz hf v h2) (mHs_ok f fe hn hz hf r h3)
    · cases h
/-- a try's body -/
theorem FitE.tr (fe : FitE c X ca) (pn : List (Addr × Obj)) (xe : Value → Shared → Prop) : FitE c (X.tr pn xe) ca := by
  obtain ⟨file, h1, h2⟩ := fe.er
  exact ⟨fe.stk, fe.frm, fe.room, fe.su, fe.top, file, h1, fun p hp => let e := h2 p hp; ⟨e.gl, e.kp, e.ec, e.xf, e.sb, e.ty, e.ki, e.xm, e.made⟩⟩
theorem Fits.tr (f : Fits c X fa ca W Δ) {W' : WX} (pn : List (Addr × Obj)) (xe : Value → Shared → Prop) (tk : Takes (X.tr pn xe) W') : Fits c (X.tr pn xe) fa ca W' Δ :=
  ⟨f.N, f.nd, f.sc, f.kd, f.calm, f.fn, f.un, f.gd, tk, f.bt, f.fs, f.cl, f.fl, f.gc, f.tb⟩
end
end Ev
set_option maxHeartbeats 4000000
namespace Ev
open PySem PySem.Spec PyProof.Rows L2
def noSwapB (c : MC) (x : Str) (e : Expr) : Bool := notComp e || ((match e with | .ListComp _ _ _ _ => true | _ => false) && !locB c x)
theorem sw_ok {e : Expr} {x : Str} {p : Pos} {l : Nat} {env : Env} (he : (match e with | .ListComp _ _ _ _ => true | _ => false) = true) (hx : env.scope.names.lookup x ≠ some .local) : swapsWith e (some (.Name x p)) l env = pure false := by
  cases e with
  | ListComp a b s q =>
    have k : (env.kindOf x == some .local) = false := by
      unfold Env.kindOf
      exact beq_eq_false_iff_ne.mpr hx
    unfold swapsWith
    simp only [k, Bool.and_false, Bool.false_and]
  | _ => cases he
def lcStore (c : MC) (y : Str) (py : Pos) (e : Expr) (own : List Nat) : Bool := locB c y && (match e with
  | .ListComp _ _ scope pos => (py.line == pos.line) && !(scope.names.any fun (n, k) => n == y && (k == .local || k == .cell))
  | _ => false)
def swpB (a b : Expr) (px py : Pos) : Bool := (px.line == py.line) && (notStar a && (notStar b && (!([a, b].all (foldedForSure 8)) && !([a, b].all (constantsAlone 8)))))
theorem swp_ok {x y : Str} {px py pt : Pos} {kt k2 : Nat} {pt2 : Pos} {a b : Expr} {env : Env} (hk : env.scope.kind = .function) (hx : env.scope.names.lookup x = some .local) (hy : env.scope.names.lookup y = some .local) (hxy : x ≠ y) (h : swpB a b px py = true) :
    swappedStores [.Tuple [.Name x px, .Name y py] kt pt] (.Tuple [a, b] k2 pt2) env = pure (some [x, y]) := by
  unfold swpB at h
  obtain ⟨h1, h⟩ := ba2 h
  obtain ⟨h2, h⟩ := ba2 h
  obtain ⟨h3, h⟩ := ba2 h
  obtain ⟨h4, h5⟩ := ba2 h
  have e1 : (env.kindOf x == some .local) = true := by unfold Env.kindOf; rw [hx]; rfl
  have e2 : (env.kindOf y == some .local) = true := by unfold Env.kindOf; rw [hy]; rfl
  have hb : env.blockKind = .function := by unfold Env.blockKind; rw [hk]; rfl
  have e3 : (py.line == px.line) = true := by rw [beq_iff_eq] at h1 ⊢; exact h1.symm
  have h4' := bn h4
  have h5' := bn h5
  have ed : [x, y].eraseDups = [x, y] := by
    have : (y == x) = false := beq_eq_false_iff_ne.mpr (Ne.symm hxy)
    simp [List.eraseDups_cons, this]
  unfold swappedStores
  simp only [List.length_cons, List.length_nil, hb, h4', h5', List.head?_cons, Option.map_some, Option.getD_some, List.filterMap_cons, List.filterMap_nil, Expr.pos, e1, e2, e3, beq_self_eq_true, Bool.and_true, if_true, ed]
  rw [if_neg (by decide), if_neg, if_neg (by decide), if_neg (by decide), if_neg (by decide)]
  intro hh
  obtain ⟨z, hz, hz2⟩ := List.any_eq_true.mp hh
  have nz : notStar z = true := by
    rcases List.mem_cons.mp hz with rfl | hz
    · exact h2
    · rcases List.mem_cons.mp hz with rfl | hz
      · exact h3
      · cases hz
  cases z <;> first | exact absurd (show false = true from hz2) Bool.false_ne_true | exact absurd (show false = true from nz) Bool.false_ne_true
def noSwapA (e : Expr) : Bool := notComp e || (match e with | .ListComp _ _ _ _ => true | _ => false)
theorem swA_ok {e o : Expr} {g : Str} {p : Pos} {l : Nat} {env : Env} (h : noSwapA e = true) : swapsWith e (some (.Attribute o g p)) l env = pure false := by
  cases e <;> first | rfl | cases h
def nmB (c : MC) (nm : Option Str) (i : Option Nat) : Bool := match nm, i with
  | some n, some i => decide (c.N[i]? = some n) && (locB c n && (!(n == ("__debug__" : Str)) && !(n == ("__classdict__" : Str))))
  | none, none => true
  | _, _ => false
mutual
def mS (c : MC) : S → Stmt → Bool
  | .set i a, s => match s with
    | .Assign [.Name x p] e q => decide (c.N[i]? = some x) && (stB c x && ((noSwapB c x e && mE c a e) || (match a, e with
      | .li (.lc elt tg own it t), e => lcStore c x p e own && mL c (.lc elt tg own it t) e
      | .cell (.lc elt tg own it t), e => lcStore c x p e own && mL c (.lc elt tg own it t) e
      | .li (.lc2 elt tg own it tg1 own1 it1), e => lcStore c x p e own && mL c (.lc2 elt tg own it tg1 own1 it1) e
      | _, _ => false)))
    | _ => false
  | .asg t a, s => match s with
    | .Assign [tg] e _ => notComp e && (notTup e && (notStar tg && (mTg c t tg && mE c a e)))
    | _ => false
  | .swp i j a b, s => match s with
    | .Assign [.Tuple [.Name x px, .Name y py] _ _] (.Tuple [e, e'] _ _) _ => decide (c.N[i]? = some x) && (decide (c.N[j]? = some y) && (locB c x && (locB c y && (swpB e e' px py && (decide (i ≠ j) && (mE c a e && mE c b e'))))))
    | _ => false
  | .stI a i v, s => match s with
    | .Assign [.Subscript o k _] e _ => notSlice k && (mE c a o && (mE c i k && mE c v e))
    | _ => false
  | .stF a g cs v, s => match s with
    | .Assign [.Attribute o x p] e _ => decide (x = g) && (fldB c g cs && (noSwapA e && (mE c a o && mE c v e)))
    | _ => false
  | .aug i op a, s => match s with
    | .AugAssign (.Name x _) o e _ => decide (c.N[i]? = some x) && (stB c x && (decide (o = opAug op) && mE c a e))
    | _ => false
  | .ext i a, s => match s with
    | .AugAssign (.Name x _) o e _ => decide (c.N[i]? = some x) && (stB c x && (decide (o = .Add) && mE c a e))
    | _ => false
  | .app a v, s => match s with
    | .Expr (.Call (.Attribute o x ap) [e] [] cp) _ => decide (x = "append") && ((ap.endLine == cp.line) && (notCall o && (notStar e && (mE c a o && mE c v e))))
    | _ => false
  | .ife t a b, s => match s with
    | .If e x y _ => mT c t e && (mSs c a x && mSs c b y)
    | _ => false
  | .for tg it b, s => match s with
    | .For x e l [] _ => notSet e && ((itTup it x && mI c it e) && (mTg c tg x && mSs c b l))
    | _ => false
  | .whl t b, s => match s with
    | .While e l [] _ => mT c t e && mSs c b l
    | _ => false
  | .ret a, s => match s with
    | .Return (some e) _ => mE c a e
    | _ => false
  | .expr a, s => match s with
    | .Expr e _ => notComp e && mE c a e
    | _ => false
  | .brk, s => match s with
    | .Break _ => true
    | _ => false
  | .cnt, s => match s with
    | .Continue _ => true
    | _ => false
  | .pass, s => match s with
    | .Pass _ => true
    | _ => false
  | .rse n g a, s => match s with
    | .Raise (some (.Call (.Name x _) [e] [] _)) none _ => glB c x && (!(x == ("__debug__" : Str)) && (notStar e && ((c.ers.any fun p => decide (p.name = x) && (decide (p.num = n) && decide (p.fld = some g))) && mE c a e)))
    | _ => false
  | .rse0 n, s => match s with
    | .Raise (some (.Call (.Name x _) [] [] _)) none _ => glB c x && (!(x == ("__debug__" : Str)) && (c.ers.any fun p => decide (p.name = x) && (decide (p.num = n) && decide (p.fld = none))))
    | _ => false
  | .tr b i ys ns h, s => match s with
    | .Try l [.ExceptHandler (some (.Name x _)) nm (z :: r) _] [] [] _ => glB c x && (!(x == ("__debug__" : Str)) && (subsB c x ys ns && (nmB c nm i && (mSs c b l && mHs c nm h (z :: r)))))
    | _ => false
  | .drop _, _ => false
  | .bad, _ => true
  | .augI _ _ _ _, _ => false
  | .augF _ _ _ _ _, _ => false
  | .extF _ _ _ _, _ => false
  | .forL _ _ _, _ => false
termination_by structural x => x
def mSs (c : MC) : Ss → List Stmt → Bool
  | .nil, l => l.isEmpty
  | .cons (.drop _) r, l => mSs c r l
  | .cons a r, l => match l with
    | x :: xs => mS c a x && mSs c r xs
    | [] => false
termination_by structural x => x
end
section
variable {fa ca : Nat → Addr} {Δ : Dn} {fu : Nat}
mutual
theorem mS_ok : ∀ (a : S) {c : MC} {X : Cx} {W : WX} {s : Stmt}, Fits c X fa ca W Δ → FitE c X ca → PassesOwn (model X.prog X.w) X.A X.env X.xe → mS c a s = true → DS X fa ca W Δ fu s a
  | .set i a, c, X, W, s, f, fe, po, h => by
    unfold mS at h
    split at h
    · obtain ⟨h1, h⟩ := ba2 h
      obtain ⟨h2, h⟩ := ba2 h
      obtain ⟨h3, h4⟩ := f.st h2
      rcases Bool.or_eq_true_iff.mp h with h | h
      · obtain ⟨h5, h6⟩ := ba2 h
        refine ds_set f.nd (f.at (bd h1)) h3 h4 (mE_ok a f h6) ?_
        unfold noSwapB at h5
        rcases Bool.or_eq_true_iff.mp h5 with h5 | h5
        · exact swaps_ok h5 _ _ _
        · obtain ⟨h7, h8⟩ := ba2 h5
          refine sw_ok h7 fun z => ?_
          unfold locB at h8
          rw [← f.sc, z] at h8
          cases h8
      · have go : ∀ {elt : E} {tg : Tg} {own : List Nat} {it : It} {t : T} {p q : Pos} {x : Str} {e : Expr}, locB c x = true → c.N[i]? = some x → lcStore c x p e own = true → mL c (.lc elt tg own it t) e = true →
            PS X (.Assign [.Name x p] e q) (tAsg (tL X.K fa ca W (evL Δ (.lc elt tg own it t))) (gName i)) := fun {elt tg own it t p q x e} hl hi hs hm => by
          unfold mL at hm
          split at hm
          · rename_i x' y' z' ifs scope pos
            split at hm
            · rename_i l hl2
              obtain ⟨m1, hm⟩ := ba2 hm
              obtain ⟨m2, hm⟩ := ba2 hm
              obtain ⟨m3, hm⟩ := ba2 hm
              obtain ⟨m4, hm⟩ := ba2 hm
              obtain ⟨m5, hm⟩ := ba2 hm
              obtain ⟨m6, hm⟩ := ba2 hm
              obtain ⟨m7, m8⟩ := ba2 hm
              have hk : scope.kind = .function := by
                split at m1
                · assumption
                · cases m1
              have hso := ownOf_snd hl2
              have fi := fun s H C cl fp => f.into (X := X) hk s H C cl fp
              have ht : ∀ (s : Shared) (H : Hp) (C : Addr) (cl : List (Str × Addr)) (fp : List Addr), DTs (X.blk s H scope (compEnvC scope cl C X.env) fp) fa ca noW Δ ifs t := fun s H C cl fp => by
                clear hm m5 m6 m8 m4 m3 m2 m1 hl2 hs
                cases ifs with
                | nil =>
                  simp only at m7
                  split at m7
                  · exact dts_nil
                  · cases m7
                | cons q r =>
                  cases r with
                  | nil => exact dts_one (mT_ok t (fi s H C cl fp) m7)
                  | cons _ _ => cases m7
              unfold lcStore at hs
              obtain ⟨_, hs⟩ := ba2 hs
              obtain ⟨hs1, hs2⟩ := ba2 hs
              have r := dl_setLc (W := W) (own := l) (eltc := elt) (tgc := tg) (tc := t) (py := p) (spos := q) (pos := pos) (f.at hi) (f.loc hl) (sw_true f.kd (f.loc hl) hs1 (bn hs2)) (by rw [hso]; exact subB_ok m3) f.calm f.nd (mI_ok it (ba2 m5).1 f (ba2 m5).2) (blk_of f m2) (fun s H C cl fp => mTg_ok tg (fi s H C cl fp) m6)
                ht (fun s H C cl fp => mE_ok elt (fi s H C cl fp) m8) (fold_ok m4 X.env)
              rw [hso] at r
              exact r
            · cases hm
          · cases hm
        have go2 : ∀ {elt : E} {tg : Tg} {own : List Nat} {it : It} {tg1 : Tg} {own1 : List Nat} {it1 : It} {p q : Pos} {x : Str} {e : Expr}, locB c x = true → c.N[i]? = some x → lcStore c x p e own = true → mL c (.lc2 elt tg own it tg1 own1 it1) e = true →
            PS X (.Assign [.Name x p] e q) (tAsg (tL X.K fa ca W (evL Δ (.lc2 elt tg own it tg1 own1 it1))) (gName i)) := fun {elt tg own it tg1 own1 it1 p q x e} hl hi hs hm => by
          unfold mL at hm
          split at hm
          · rename_i x' y' z' y2 z2 scope pos
            split at hm
            · rename_i l hl2
              obtain ⟨m1, hm⟩ := ba2 hm
              obtain ⟨m2, hm⟩ := ba2 hm
              obtain ⟨m3, hm⟩ := ba2 hm
              obtain ⟨m4, hm⟩ := ba2 hm
              obtain ⟨m5, hm⟩ := ba2 hm
              obtain ⟨m6, hm⟩ := ba2 hm
              obtain ⟨m7, hm⟩ := ba2 hm
              obtain ⟨m8, hm⟩ := ba2 hm
              obtain ⟨m9, hm⟩ := ba2 hm
              obtain ⟨m10, hm⟩ := ba2 hm
              obtain ⟨m11, m12⟩ := ba2 hm
              have hk : scope.kind = .function := by
                split at m1
                · assumption
                · cases m1
              have hso := ownOf_snd hl2
              have fi := fun s H C cl fp => f.into (X := X) hk s H C cl fp
              unfold lcStore at hs
              obtain ⟨_, hs⟩ := ba2 hs
              obtain ⟨hs1, hs2⟩ := ba2 hs
              have r := dl_setLc2 (W := W) (own := l) (own1 := own1) (eltc := elt) (tgc := tg) (tg1 := tg1) (py := p) (spos := q) (pos := pos) (f.at hi) (f.loc hl) (sw_true f.kd (f.loc hl) hs1 (bn hs2)) (by rw [hso]; exact subB_ok m3) (subB_ok m7) (by rw [hso]; exact subB_ok m8) f.calm f.nd (mI_ok it (ba2 m5).1 f (ba2 m5).2) (blk_of f m2) (fun s H C cl fp => mTg_ok tg (fi s H C cl fp) m6)
                (fun s H C cl fp => mI_ok it1 (ba2 m10).1 (fi s H C cl fp) (ba2 m10).2) (fun s H C cl fp => mTg_ok tg1 (fi s H C cl fp) m11) (fun s H C cl fp => mE_ok elt (fi s H C cl fp) m12) (fold_ok m4 X.env) (fun env => fold_ok m9 env)
              rw [hso] at r
              exact r
            · cases hm
          · cases hm
        split at h
        · obtain ⟨k1, k2⟩ := ba2 h
          exact ds_setL (go (ba2 k1).1 (bd h1) k1 k2) (.inl rfl)
        · obtain ⟨k1, k2⟩ := ba2 h
          exact ds_setL (go (ba2 k1).1 (bd h1) k1 k2) (.inr rfl)
        · obtain ⟨k1, k2⟩ := ba2 h
          exact ds_setL (go2 (ba2 k1).1 (bd h1) k1 k2) (.inl rfl)
        · cases h
    · cases h
  | .asg t a, c, X, W, s, f, fe, po, h => by
    unfold mS at h
    split at h
    · obtain ⟨h1, h⟩ := ba2 h
      obtain ⟨h2, h⟩ := ba2 h
      obtain ⟨h3, h⟩ := ba2 h
      obtain ⟨h4, h5⟩ := ba2 h
      exact ds_asg (mTg_ok t f h4) (mE_ok a f h5) (swaps_ok h1 _ _ _) (swapped_ok h2 _) (by rw [asgEach_ok h3]; rfl)
    · cases h
  | .swp i j a b, c, X, W, s, f, fe, po, h => by
    unfold mS at h
    split at h
    · obtain ⟨h1, h⟩ := ba2 h
      obtain ⟨h2, h⟩ := ba2 h
      obtain ⟨h3, h⟩ := ba2 h
      obtain ⟨h4, h⟩ := ba2 h
      obtain ⟨h5, h⟩ := ba2 h
      obtain ⟨h6, h⟩ := ba2 h
      obtain ⟨h7, h8⟩ := ba2 h
      have hij : i ≠ j := bd h6
      have n1 := f.at (bd h1)
      have n2 := f.at (bd h2)
      have st := h5
      unfold swpB at st
      obtain ⟨_, st⟩ := ba2 st
      obtain ⟨s1, st⟩ := ba2 st
      obtain ⟨s2, _⟩ := ba2 st
      exact ds_swp f.calm f.nd n1 n2 hij (f.loc h3) (f.loc h4) (da_cons (mE_ok a f h7) (da_cons (mE_ok b f h8) da_nil (star_ok s2 _ _)) (star_ok s1 _ _)) (swp_ok f.kd (f.loc h3) (f.loc h4) (fun z => hij (by
        subst z
        obtain ⟨q1, e1⟩ := List.getElem?_eq_some_iff.mp n1
        obtain ⟨q2, e2⟩ := List.getElem?_eq_some_iff.mp n2
        exact (List.getElem_inj f.nd).mp (e1.trans e2.symm))) h5) rfl
    · cases h
  | .stI a i v, c, X, W, s, f, fe, po, h => by
    unfold mS at h
    split at h
    · rename_i o k p e q
      obtain ⟨h0, h⟩ := ba2 h
      obtain ⟨h1, h⟩ := ba2 h
      obtain ⟨h2, h3⟩ := ba2 h
      exact ds_stI (by have := f.un; omega) (mE_ok a f h1) (mE_ok i f h2) (mE_ok v f h3) (fun _ => by cases k <;> first | rfl | cases h0) (by cases e <;> rfl) (swappedS_ok _) rfl
    · cases h
  | .stF a g cs v, c, X, W, s, f, fe, po, h => by
    unfold mS at h
    split at h
    · obtain ⟨h1, h⟩ := ba2 h
      obtain ⟨h2, h⟩ := ba2 h
      obtain ⟨h3, h⟩ := ba2 h
      obtain ⟨h4, h5⟩ := ba2 h
      cases bd h1
      exact ds_stF (f.fld h2) (mE_ok a f h4) (mE_ok v f h5) (swA_ok h3)
    · cases h
  | .drop _, c, X, W, s, f, fe, po, h => by unfold mS at h; cases h
  | .aug i op a, c, X, W, s, f, fe, po, h => by
    unfold mS at h
    split at h
    · obtain ⟨h1, h⟩ := ba2 h
      obtain ⟨h2, h⟩ := ba2 h
      obtain ⟨h3, h4⟩ := ba2 h
      obtain ⟨h5, h6⟩ := f.st h2
      cases bd h3
      exact ds_aug f.nd (f.at (bd h1)) h5 h6 (mE_ok a f h4)
    · cases h
  | .ext i a, c, X, W, s, f, fe, po, h => by
    unfold mS at h
    split at h
    · obtain ⟨h1, h⟩ := ba2 h
      obtain ⟨h2, h⟩ := ba2 h
      obtain ⟨h3, h4⟩ := ba2 h
      obtain ⟨h5, h6⟩ := f.st h2
      cases bd h3
      exact ds_ext f.nd (f.at (bd h1)) h5 h6 (mE_ok a f h4)
    · cases h
  | .app a v, c, X, W, s, f, fe, po, h => by
    unfold mS at h
    split at h
    · obtain ⟨h1, h⟩ := ba2 h
      obtain ⟨h2, h⟩ := ba2 h
      obtain ⟨h3, h⟩ := ba2 h
      obtain ⟨h4, h⟩ := ba2 h
      obtain ⟨h5, h6⟩ := ba2 h
      cases bd h1
      exact ds_app (mE_ok a f h5) (da_cons (mE_ok v f h6) da_nil (star_ok h4 _ _)) (base_ok h3 _ _ _) (by rw [star_ok h4]; rfl) h2 (star_ok h4 _ _)
    · cases h
  | .ife t a b, c, X, W, s, f, fe, po, h => by
    unfold mS at h
    split at h
    · obtain ⟨h1, h⟩ := ba2 h
      obtain ⟨h2, h3⟩ := ba2 h
      exact ds_if (mT_ok t f h1) (mSs_ok a f fe po h2) (mSs_ok b f fe po h3)
    · cases h
  | .for tg it b, c, X, W, s, f, fe, po, h => by
    unfold mS at h
    split at h
    · obtain ⟨h1, h⟩ := ba2 h
      obtain ⟨h2, h⟩ := ba2 h
      obtain ⟨h3, h4⟩ := ba2 h
      exact ds_for po f.calm (mI_ok it (ba2 h2).1 f (ba2 h2).2) (mTg_ok tg f h3) (mSs_ok b f fe po h4) (fold_ok h1 _)
    · cases h
  | .whl t b, c, X, W, s, f, fe, po, h => by
    unfold mS at h
    split at h
    · obtain ⟨h1, h2⟩ := ba2 h
      exact ds_whl po (mT_ok t f h1) (mSs_ok b f fe po h2)
    · cases h
  | .ret a, c, X, W, s, f, fe, po, h => by
    unfold mS at h
    split at h
    · exact ds_ret (mE_ok a f h)
    · cases h
  | .expr a, c, X, W, s, f, fe, po, h => by
    unfold mS at h
    split at h
    · obtain ⟨h1, h2⟩ := ba2 h
      exact ds_expr (mE_ok a f h2) (swaps_ok h1 _ _ _)
    · cases h
  | .brk, c, X, W, s, f, fe, po, h => by
    unfold mS at h
    split at h
    · exact ds_brk
    · cases h
  | .cnt, c, X, W, s, f, fe, po, h => by
    unfold mS at h
    split at h
    · exact ds_cnt
    · cases h
  | .pass, c, X, W, s, f, fe, po, h => by
    unfold mS at h
    split at h
    · exact ds_pass
    · cases h
  | .augI _ _ _ _, c, X, W, s, f, fe, po, h => by unfold mS at h; cases h
  | .augF _ _ _ _ _, c, X, W, s, f, fe, po, h => by unfold mS at h; cases h
  | .extF _ _ _ _, c, X, W, s, f, fe, po, h => by unfold mS at h; cases h
  | .forL _ _ _, c, X, W, s, f, fe, po, h => by unfold mS at h; cases h
  | .bad, c, X, W, s, f, fe, po, h => ds_bad
  | .rse n g a, c, X, W, s, f, fe, po, h => by
    unfold mS at h
    split at h
    · obtain ⟨h1, h⟩ := ba2 h
      obtain ⟨h2, h⟩ := ba2 h
      obtain ⟨h3, h⟩ := ba2 h
      obtain ⟨h4, h5⟩ := ba2 h
      obtain ⟨p, hp, hq⟩ := List.any_eq_true.mp h4
      obtain ⟨q1, hq⟩ := ba2 hq
      obtain ⟨q2, q3⟩ := ba2 hq
      obtain ⟨file, hfile, her⟩ := fe.er
      have e := her p hp
      have m := e.made
      rw [bd q3] at m
      obtain ⟨_, fI, fd, sf, y, T, hb⟩ := m
      have gl := e.gl
      rw [bd q1] at gl
      have e2 := bd q2
      subst e2
      exact ds_rse (k := 0) f.calm f.tk fe.su hfile fe.top T hb fe.room e.kp (f.gl h1) gl (bn h2) (mE_ok a f h5) (star_ok h3 _ _)
    · cases h
  | .rse0 n, c, X, W, s, f, fe, po, h => by
    unfold mS at h
    split at h
    · obtain ⟨h1, h⟩ := ba2 h
      obtain ⟨h2, h4⟩ := ba2 h
      obtain ⟨p, hp, hq⟩ := List.any_eq_true.mp h4
      obtain ⟨q1, hq⟩ := ba2 hq
      obtain ⟨q2, q3⟩ := ba2 hq
      obtain ⟨file, hfile, her⟩ := fe.er
      have e := her p hp
      have m := e.made
      rw [bd q3] at m
      have gl := e.gl
      rw [bd q1] at gl
      have e2 := bd q2
      subst e2
      exact ds_rse0 f.calm f.tk PySem.F.excBase_ValueError m e.kp (raises_own e.sb e.ty) (f.gl h1) gl (bn h2)
    · cases h
  | .tr b i ys ns hh, c, X, W, s, f, fe, po, h => by
    unfold mS at h
    split at h
    · obtain ⟨h1, h⟩ := ba2 h
      obtain ⟨h2, h⟩ := ba2 h
      obtain ⟨h3, h⟩ := ba2 h
      obtain ⟨h4, h⟩ := ba2 h
      obtain ⟨h5, h6⟩ := ba2 h
      obtain ⟨C, k1, k2, k3⟩ := subs_ok fe h3
      unfold nmB at h4
      split at h4
      · obtain ⟨n1, h4⟩ := ba2 h4
        obtain ⟨n2, h4⟩ := ba2 h4
        obtain ⟨n3, n4⟩ := ba2 h4
        exact ds_try_as fe.stk fe.frm f.nd (f.at (bd n1)) (f.loc n2) ⟨f.gl h1, bn h2, .inl k1⟩ f.tk (fun W' pn xe tk po' => mSs_ok b (f.tr pn xe tk) (fe.tr pn xe) po' h5)
          (fun a oe cls d pn hz hf => mHs_ok f fe (nm := some _) (j := some _) ⟨f.at (bd n1), .inl (f.loc n2), bn n3, bn n4⟩ hz hf hh h6) (fun k hk => (k2 k hk).2.2) (fun k hk => (k3 k hk).2.2)
      · exact ds_try_only fe.stk fe.frm ⟨f.gl h1, bn h2, .inl k1⟩ f.tk (fun W' pn xe tk po' => mSs_ok b (f.tr pn xe tk) (fe.tr pn xe) po' h5)
          (fun a oe cls d pn hz hf => mHs_ok f fe (nm := none) (j := none) (show NmOk X none none from True.intro) hz hf hh h6) (fun k hk => (k2 k hk).2.2) (fun k hk => (k3 k hk).2.2)
      · cases h4
    · cases h
theorem mSs_ok : ∀ (a : Ss) {c : MC} {X : Cx} {W : WX} {s : List Stmt}, Fits c X fa ca W Δ → FitE c X ca → PassesOwn (model X.prog X.w) X.A X.env X.xe → mSs c a s = true → DSs X fa ca W Δ fu s a
  | .nil, c, X, W, s, f, fe, po, h => by
    unfold mSs at h
    cases s with
    | nil => exact dss_nil
    | cons _ _ => cases h
  | .cons (.drop js) r, c, X, W, s, f, fe, po, h => by
    unfold mSs at h
    exact dss_drop (mSs_ok r f fe po h)
  | .cons (.set i a) r, c, X, W, s, f, fe, po, h => by
    unfold mSs at h
    split at h
    · exact dss_cons (mS_ok (.set i a) f fe po (ba2 h).1) (mSs_ok r f fe po (ba2 h).2)
    · cases h
  | .cons (.asg t a) r, c, X, W, s, f, fe, po, h => by
    unfold mSs at h
    split at h
    · exact dss_cons (mS_ok (.asg t a) f fe po (ba2 h).1) (mSs_ok r f fe po (ba2 h).2)
    · cases h
  | .cons (.swp i j a b) r, c, X, W, s, f, fe, po, h => by
    unfold mSs at h
    split at h
    · exact dss_cons (mS_ok (.swp i j a b) f fe po (ba2 h).1) (mSs_ok r f fe po (ba2 h).2)
    · cases h
  | .cons (.stI a i v) r, c, X, W, s, f, fe, po, h => by
    unfold mSs at h
    split at h
    · exact dss_cons (mS_ok (.stI a i v) f fe po (ba2 h).1) (mSs_ok r f fe po (ba2 h).2)
    · cases h
  | .cons (.stF a g cs v) r, c, X, W, s, f, fe, po, h => by
    unfold mSs at h
    split at h
    · exact dss_cons (mS_ok (.stF a g cs v) f fe po (ba2 h).1) (mSs_ok r f fe po (ba2 h).2)
    · cases h
  | .cons (.aug i op a) r, c, X, W, s, f, fe, po, h => by
    unfold mSs at h
    split at h
    · exact dss_cons (mS_ok (.aug i op a) f fe po (ba2 h).1) (mSs_ok r f fe po (ba2 h).2)
    · cases h
  | .cons (.ext i a) r, c, X, W, s, f, fe, po, h => by
    unfold mSs at h
    split at h
    · exact dss_cons (mS_ok (.ext i a) f fe po (ba2 h).1) (mSs_ok r f fe po (ba2 h).2)
    · cases h
  | .cons (.app a v) r, c, X, W, s, f, fe, po, h => by
    unfold mSs at h
    split at h
    · exact dss_cons (mS_ok (.app a v) f fe po (ba2 h).1) (mSs_ok r f fe po (ba2 h).2)
    · cases h
  | .cons (.ife t a b) r, c, X, W, s, f, fe, po, h => by
    unfold mSs at h
    split at h
    · exact dss_cons (mS_ok (.ife t a b) f fe po (ba2 h).1) (mSs_ok r f fe po (ba2 h).2)
    · cases h
  | .cons (.for tg it b) r, c, X, W, s, f, fe, po, h => by
    unfold mSs at h
    split at h
    · exact dss_cons (mS_ok (.for tg it b) f fe po (ba2 h).1) (mSs_ok r f fe po (ba2 h).2)
    · cases h
  | .cons (.whl t b) r, c, X, W, s, f, fe, po, h => by
    unfold mSs at h
    split at h
    · exact dss_cons (mS_ok (.whl t b) f fe po (ba2 h).1) (mSs_ok r f fe po (ba2 h).2)
    · cases h
  | .cons (.ret a) r, c, X, W, s, f, fe, po, h => by
    unfold mSs at h
    split at h
    · exact dss_cons (mS_ok (.ret a) f fe po (ba2 h).1) (mSs_ok r f fe po (ba2 h).2)
    · cases h
  | .cons (.expr a) r, c, X, W, s, f, fe, po, h => by
    unfold mSs at h
    split at h
    · exact dss_cons (mS_ok (.expr a) f fe po (ba2 h).1) (mSs_ok r f fe po (ba2 h).2)
    · cases h
  | .cons (.brk) r, c, X, W, s, f, fe, po, h => by
    unfold mSs at h
    split at h
    · exact dss_cons (mS_ok (.brk) f fe po (ba2 h).1) (mSs_ok r f fe po (ba2 h).2)
    · cases h
  | .cons (.cnt) r, c, X, W, s, f, fe, po, h => by
    unfold mSs at h
    split at h
    · exact dss_cons (mS_ok (.cnt) f fe po (ba2 h).1) (mSs_ok r f fe po (ba2 h).2)
    · cases h
  | .cons (.pass) r, c, X, W, s, f, fe, po, h => by
    unfold mSs at h
    split at h
    · exact dss_cons (mS_ok (.pass) f fe po (ba2 h).1) (mSs_ok r f fe po (ba2 h).2)
    · cases h
  | .cons (.bad) r, c, X, W, s, f, fe, po, h => by
    unfold mSs at h
    split at h
    · exact dss_cons (mS_ok (.bad) f fe po (ba2 h).1) (mSs_ok r f fe po (ba2 h).2)
    · cases h
  | .cons (.rse n g a) r, c, X, W, s, f, fe, po, h => by
    unfold mSs at h
    split at h
    · exact dss_cons (mS_ok (.rse n g a) f fe po (ba2 h).1) (mSs_ok r f fe po (ba2 h).2)
    · cases h
  | .cons (.rse0 n) r, c, X, W, s, f, fe, po, h => by
    unfold mSs at h
    split at h
    · exact dss_cons (mS_ok (.rse0 n) f fe po (ba2 h).1) (mSs_ok r f fe po (ba2 h).2)
    · cases h
  | .cons (.tr b i ys ns hh) r, c, X, W, s, f, fe, po, h => by
    unfold mSs at h
    split at h
    · exact dss_cons (mS_ok (.tr b i ys ns hh) f fe po (ba2 h).1) (mSs_ok r f fe po (ba2 h).2)
    · cases h
  | .cons (.augI a i op e) r, c, X, W, s, f, fe, po, h => by
    unfold mSs at h
    split at h
    · exact dss_cons (mS_ok (.augI a i op e) f fe po (ba2 h).1) (mSs_ok r f fe po (ba2 h).2)
    · cases h
  | .cons (.augF a g cs op e) r, c, X, W, s, f, fe, po, h => by
    unfold mSs at h
    split at h
    · exact dss_cons (mS_ok (.augF a g cs op e) f fe po (ba2 h).1) (mSs_ok r f fe po (ba2 h).2)
    · cases h
  | .cons (.extF a g cs e) r, c, X, W, s, f, fe, po, h => by
    unfold mSs at h
    split at h
    · exact dss_cons (mS_ok (.extF a g cs e) f fe po (ba2 h).1) (mSs_ok r f fe po (ba2 h).2)
    · cases h
  | .cons (.forL tg a b) r, c, X, W, s, f, fe, po, h => by
    unfold mSs at h
    split at h
    · exact dss_cons (mS_ok (.forL tg a b) f fe po (ba2 h).1) (mSs_ok r f fe po (ba2 h).2)
    · cases h
end
end
end Ev
set_option maxHeartbeats 4000000
namespace Ev
open PySem PySem.Spec PyProof.Rows L2
structure FE where
  ps : List Str
  N : List Str
  core : Ss
  tb : Option Nat
noncomputable def lvl (T : List FE) (fu : Nat) : Nat → Dn
  | 0 => fun _ _ _ => .bad
  | n + 1 => fun f ds st => match T[f]? with
    | some e => runFn (lvl T fu n) fu e.ps.length e.N.length e.core ds st
    | none => .bad
def scopeB (e : FE) (sc : Scope) : Bool := (match sc.kind with | .function => true | _ => false) && (!sc.isCoroutine && (!sc.isGenerator && (decide e.N.Nodup && (decide (e.N.take e.ps.length = e.ps) &&
  ((e.ps.all fun x => match sc.names.lookup x with | some .local => true | some .cell => true | _ => false) && (sc.names.all fun y => match y.2 with | .free => false | _ => true))))))
/-- what the defs of a text may lean on: defs, classes, fields, constants -/
structure SG where
  fns : List (Str × Nat × Nat)
  cls : List (Str × Nat × Nat × Nat)
  flds : List (Nat × List Str)
  cons : List (Str × PD)
  ers : List ER
def mcOf (sg : SG) (e : FE) (sc : Scope) : MC := ⟨e.N, sc.names, none, sg.fns, sg.cls, sg.flds, sg.cons, e.tb, sg.ers⟩
def okF (sg : SG) (e : FE) (st : Stmt) : Bool := scopeB e (defScope st) && mSs (mcOf sg e (defScope st)) e.core (defBody st)
theorem scope_ok {e : FE} {sc : Scope} (h : scopeB e sc = true) : FnScope e.N e.ps sc := by
  unfold scopeB at h
  obtain ⟨h1, h⟩ := ba2 h
  obtain ⟨h2, h⟩ := ba2 h
  obtain ⟨h3, h⟩ := ba2 h
  obtain ⟨h4, h⟩ := ba2 h
  obtain ⟨h5, h⟩ := ba2 h
  obtain ⟨h6, h7⟩ := ba2 h
  refine ⟨?_, bn h2, bn h3, bd h4, bd h5, fun x hx => ?_, fun y hy z => ?_⟩
  · split at h1
    · assumption
    · cases h1
  · have q := List.all_eq_true.mp h6 x hx
    split at q
    · rename_i e1; exact .inl e1
    · rename_i e1; exact .inr e1
    · cases q
  · have q := List.all_eq_true.mp h7 y hy
    rw [z] at q
    cases q
/-- one def and its text -/
structure DefOk (K : PySem.W.Frag) (sg : SG) (e : FE) (f : Addr) (fd : FuncData) : Prop where
  d : ∃ (x q : Str) (st : Stmt) (dvs : List V), FunD K x q (defArgs st) (defBody st) (defScope st) dvs [] f fd ∧ okF sg e st = true
  b : Binds K fd e.ps []
section
variable {P : Program} {w : World} {K : PySem.W.Frag} {mg : Str → Option Value} {base : Heap} {fa ca : Nat → Addr} {T : List FE} {sg : SG} {fu : Nat}
theorem fits_of {Δ : Dn} {n : Nat} {e : FE} {st : Stmt} {qual : Str} {f : Addr} {cd : Value} {A : Around} {outer : List Env} {s : Shared} {H : Hp} {E : XK} (ok : okF sg e st = true) (hr : RoomG n (A.deeper (envOfC qual (defScope st) s.heap.objs.size f cd)))
    (hB : ∀ b ∈ blts, mg b = none) (fs : ∀ p ∈ sg.fns, ∃ k fd ps, FnG P w K mg base k (fa p.2.1) fd ps (spF K fa ca Δ p.2.1 p.2.2) ∧ k ≤ n ∧ mg p.1 = some (.ref (fa p.2.1)) ∧ PySem.W.keepIn K (.ref (fa p.2.1)) = true ∧ Binds K fd ps [])
    (cl : ∀ p ∈ sg.cls, ∃ k fd ps, Mk K (fa (cOff + p.2.1)) (fa p.2.2.1) ∧ FnG P w K mg base k (fa p.2.2.1) fd ps (spF K fa ca Δ p.2.2.1 p.2.2.2) ∧ k + 1 ≤ n ∧ mg p.1 = some (.ref (fa (cOff + p.2.1))) ∧ Binds K fd ps [])
    (fl : ∀ p ∈ sg.flds, Cls K (fa (cOff + p.1)) ∧ ∀ f ∈ p.2, NoAttr K (fa (cOff + p.1)) f) (gc : ∀ p ∈ sg.cons, ConOk mg p) (hT : ∀ j, e.tb = some j → ∃ a, cd = .ref a ∧ GxR.TabB base mg a (fa (tOff + j))) :
    Fits (mcOf sg e (defScope st)) (cxOf (L2.CX P w) P w K mg base e.N qual (defScope st) f cd A outer s H E) fa ca (fun c d _ H' => E c d H') Δ := by
  have S := scope_ok (ba2 ok).1
  refine ⟨rfl, S.nd, rfl, S.kind, rfl, rfl, ?_, hr.g, takes_of rfl rfl rfl rfl, hB, fun p hp => ?_, fun p hp => ?_, fl, gc, fun j hj => ⟨hr.r.mono (Nat.zero_le _), hT j hj⟩⟩
  · have := hr.r.un
    show (A.deeper _).units + 100 < cLine
    omega
  · obtain ⟨k, fd, ps, h1, h2, h3, h4, h5⟩ := fs p hp
    exact ⟨k, fd, ps, h1, hr.mono h2, h3, h4, h5⟩
  · obtain ⟨k, fd, ps, h0, h1, h2, h3, h4⟩ := cl p hp
    exact ⟨k, fd, ps, h0, h1, hr.mono h2, h3, h4⟩
theorem all_ok {file : Str} (hfile : ((P.main.file : Str) == file) = true) (htop : (P.main.scope.names.lookup ("super" : Str)).isSome = false) (hsu : mg "super" = none) (hE : ∀ X : Cx, X.K = K → X.mg = mg → ∀ p ∈ sg.ers, ErOk X file ca sg.ers p) (hF : ∀ i e, T[i]? = some e → ∃ fd, DefOk K sg e (fa i) fd) (hS : ∀ p ∈ sg.fns, ∃ e, T[p.2.1]? = some e ∧ e.ps.length = p.2.2 ∧ mg p.1 = some (.ref (fa p.2.1))) (hB : ∀ b ∈ blts, mg b = none)
    (hC : ∀ p ∈ sg.cls, ∃ e, T[p.2.2.1]? = some e ∧ e.ps.length = p.2.2.2 ∧ Mk K (fa (cOff + p.2.1)) (fa p.2.2.1) ∧ mg p.1 = some (.ref (fa (cOff + p.2.1))))
    (fl : ∀ p ∈ sg.flds, Cls K (fa (cOff + p.1)) ∧ ∀ f ∈ p.2, NoAttr K (fa (cOff + p.1)) f) (gc : ∀ p ∈ sg.cons, ConOk mg p) (hT : ∀ i e j, T[i]? = some e → e.tb = some j → ∀ qual cdv, CodeAt K (fa i) qual cdv → ∃ a, cdv = .ref a ∧ GxR.TabB base mg a (fa (tOff + j))) :
    ∀ (n i : Nat) (e : FE), T[i]? = some e → ∀ fd, DefOk K sg e (fa i) fd → FnG P w K mg base (2 * n + 1) (fa i) fd e.ps (spF K fa ca (lvl T fu n) i e.ps.length) := by
  intro n
  induction n with
  | zero =>
    intro i e hi fd ⟨⟨x, q, st, dvs, F, ok⟩, _⟩
    refine fnG_of F (scope_ok (ba2 ok).1) (fun vs H Q E ⟨_, _, _, _, _, rs, hl, _⟩ => rs.length.trans hl) fun cdv A outer s H vs Q E hcd hr h => ?_
    obtain ⟨_, _, _, _, _, _, _, p⟩ := h
    exact p.elim
  | succ n ih =>
    intro i e hi fd ⟨⟨x, q, st, dvs, F, ok⟩, _⟩
    have S := scope_ok (ba2 ok).1
    refine FnG.mono (j := 2 * n + 2 + 1) (fnG_of F S (fun vs H Q E ⟨_, _, _, _, _, rs, hl, _⟩ => rs.length.trans hl) fun cdv A outer s H vs Q E hcd hr h => ?_) (by omega)
    refine ⟨_, mSs_ok (fa := fa) (ca := ca) (Δ := lvl T fu n) (fu := fu) e.core (fits_of ok hr hB (fun p hp => ?_) (fun p hp => ?_) fl gc fun j hj => hT _ _ _ hi hj _ _ hcd) ⟨rfl, rfl, hr.r.mono (by omega), hsu, htop, file, hfile, hE _ rfl rfl⟩ (passes_of rfl) (ba2 ok).2, spF_body ?_ (fun ds st => ?_) h⟩
    · obtain ⟨e', h1, h2, h3⟩ := hS p hp
      obtain ⟨fd', D⟩ := hF _ _ h1
      obtain ⟨_, _, _, _, F', _⟩ := D.d
      refine ⟨2 * n + 1, fd', e'.ps, ?_, by omega, h3, F'.kp, D.b⟩
      rw [← h2]
      exact ih _ _ h1 _ D
    · obtain ⟨e', h1, h2, h3, h4⟩ := hC p hp
      obtain ⟨fd', D⟩ := hF _ _ h1
      refine ⟨2 * n + 1, fd', e'.ps, h3, ?_, by omega, h4, D.b⟩
      rw [← h2]
      exact ih _ _ h1 _ D
    · have := congrArg List.length S.pre
      rw [List.length_take] at this
      omega
    · show (match T[i]? with | some e => runFn (lvl T fu n) fu e.ps.length e.N.length e.core ds st | none => .bad) = _
      rw [hi]
end
/-- a def: its name, the class that it stands in, its text, its defaults -/
structure DE1 where
  name : Str
  own : Option Str
  st : Stmt
  dfl : List He.Dv
def DE1.at_ (p : DE1) : Str × Option Str := match p.own with
  | none => (p.name, none)
  | some c => (c, some p.name)
def DE1.qual (p : DE1) : Str := match p.own with
  | none => p.name
  | some c => c ++ "." ++ p.name
abbrev DL1 := List DE1
def mkD (p : DE1) : He.DefD := ⟨p.at_, p.name, p.qual, defArgs p.st, defBody p.st, defScope p.st, p.dfl, []⟩
def fnL (ds : DL1) : List He.DefD := ds.map mkD
/-- a class: its name, its __init__ among the defs, its fields -/
structure CE1 where
  name : Str
  ini : Nat
  flds : List Str
def conFa : Str × PD → He.Fa
  | (x, .int i) => .int x i
  | (x, .str y) => .str x y
  | (x, _) => .free x
def faL (ds : DL1) (cs : List CE1) (gs : List (Str × PD)) : List He.Fa :=
  (ds.filterMap fun p => match p.own with | none => some (.glo p.name) | some _ => none) ++ (blts.map .free ++ (cs.flatMap (fun c => [.glo c.name, .cls c.name, .mkr c.name] ++ c.flds.map (.noat c.name)) ++ gs.map conFa))
/-- the addresses: of defs, of classes, of the defs' tables -/
def adL (ds : DL1) (cs : List CE1) (ts : List Nat) (K : PySem.W.Frag) (i : Nat) : Addr := match (if i < cOff then (ds[i]?).map fun p => He.fAd K p.at_ else if i < tOff then (cs[i - cOff]?).map fun c => He.ga K c.name else (ts[i - tOff]?).bind fun k => (ds[k]?).map fun p => (He.cT K p.at_).2) with
  | some a => a
  | none => 0
def tfL (ds : DL1) (ts : List Nat) : List He.Defn := ts.filterMap fun i => (ds[i]?).map DE1.at_
def tbL (ds : DL1) (ts : List Nat) (K : PySem.W.Frag) : List Addr := (tfL ds ts).map fun p => (He.cT K p).2
/-- the tables' numbers are right -/
def okTb (n : Nat) (ts : List Nat) : List FE → Nat → Bool
  | [], _ => ts.all fun i => decide (i < n)
  | e :: es, i => (match e.tb with | none => true | some j => decide (ts[j]? = some i)) && okTb n ts es (i + 1)
def sgF : DL1 → List FE → Nat → List (Str × Nat × Nat)
  | d :: ds, e :: es, i => (match d.own with | none => [(d.name, i, e.ps.length)] | some _ => []) ++ sgF ds es (i + 1)
  | _, _, _ => []
def sgC (T : List FE) : List CE1 → Nat → List (Str × Nat × Nat × Nat)
  | c :: cs, i => (c.name, i, c.ini, ((T[c.ini]?).map fun e => e.ps.length).getD 0) :: sgC T cs (i + 1)
  | [], _ => []
def sgD : List CE1 → Nat → List (Nat × List Str)
  | c :: cs, i => (i, c.flds) :: sgD cs (i + 1)
  | [], _ => []
/-- a class of errors: its name, the field that its own __init__ keeps, the numbers of its subclasses -/
structure EC1 where
  name : Str
  fld : Option Str
  subs : List Nat
def sgE : List EC1 → Nat → List ER
  | c :: cs, i => ⟨c.name, i, c.fld, c.subs⟩ :: sgE cs (i + 1)
  | [], _ => []
def caL (es : List EC1) (K : PySem.W.Frag) (i : Nat) : Addr := ((es[i]?).map fun c => He.ga K c.name).getD 0
theorem sgE_mem : ∀ {es : List EC1} {i : Nat} {p : ER}, p ∈ sgE es i → ∃ j c, p.num = i + j ∧ es[j]? = some c ∧ p.name = c.name
  | [], _, _, h => by cases h
  | c :: cs, i, p, h => by
    rcases List.mem_cons.mp h with rfl | h
    · exact ⟨0, c, rfl, rfl, rfl⟩
    · obtain ⟨j, c', h1, h2, h3⟩ := sgE_mem h
      exact ⟨j + 1, c', by omega, h2, h3⟩
theorem caL_at {es : List EC1} {p : ER} {K : PySem.W.Frag} (h : p ∈ sgE es 0) : caL es K p.num = He.ga K p.name := by
  obtain ⟨j, c, h1, h2, h3⟩ := sgE_mem h
  unfold caL
  rw [h1, Nat.zero_add, h2, h3]
  rfl
/-- what the written part must say of them -/
def exE (file : Str) (es : List EC1) (K : PySem.W.Frag) : Bool := (He.Fa.free "super").ok K && (sgE es 0).all fun p => (He.Fa.glo p.name).ok K && (ecB K (He.ga K p.name) && ((match p.fld with
    | some f => errB K file (He.ga K p.name) f
    | none => PySem.W.excIn K (He.ga K p.name) He.veBase "ValueError.__new__") &&
  (sgE es 0).all fun q => decide (PySem.W.kitOne K (.ref (He.ga K p.name)) (.ref (He.ga K q.name)) = some (q.subs.contains p.num)) && decide (PySem.W.exmOne K (.ref (He.ga K p.name)) (.ref (He.ga K q.name)) = some (q.subs.contains p.num))))
theorem exE_ok {file : Str} {es : List EC1} {K : PySem.W.Frag} {h : Heap} {mg : Str → Option Value} (KX : K.In h) (G : h.Ns mainGlobals mg) (e : exE file es K = true) :
    mg "super" = none ∧ ∀ X : Cx, X.K = K → X.mg = mg → ∀ p ∈ sgE es 0, ErOk X file (caL es K) (sgE es 0) p := by
  obtain ⟨e1, e2⟩ := ba2 e
  refine ⟨He.free_ok KX G e1, fun X hK hm p hp => ?_⟩
  obtain ⟨k1, k⟩ := ba2 (List.all_eq_true.mp e2 p hp)
  obtain ⟨k2, k⟩ := ba2 k
  obtain ⟨k3, k4⟩ := ba2 k
  have gl := He.glo_ok KX G k1
  obtain ⟨c1, c2, c3, c4, c5⟩ := ecB_ok k2
  have ep := caL_at (K := K) hp
  have rel : ∀ q ∈ sgE es 0, PySem.W.kitOne K (.ref (caL es K p.num)) (.ref (caL es K q.num)) = some (q.subs.contains p.num) ∧ PySem.W.exmOne K (.ref (caL es K p.num)) (.ref (caL es K q.num)) = some (q.subs.contains p.num) := fun q hq => by
    obtain ⟨r1, r2⟩ := ba2 (List.all_eq_true.mp k4 q hq)
    rw [ep, caL_at hq]
    exact ⟨bd r1, bd r2⟩
  subst hK hm
  refine ⟨by rw [ep]; exact gl, by rw [ep]; exact c5, by rw [ep]; exact c1, by rw [ep]; exact c2, by rw [ep]; exact c3, by rw [ep]; exact c4, fun q hq => (rel q hq).1, fun q hq => (rel q hq).2, ?_⟩
  revert k3
  cases p.fld with
  | some f =>
    intro k3
    rw [ep]
    obtain ⟨fI, fd, sf, x, T, hb⟩ := errB_ok k2 k3
    exact ⟨T.nof, fI, fd, sf, x, T, hb⟩
  | none =>
    intro k3
    rw [ep]
    exact k3
def sgL (ds : DL1) (T : List FE) (cs : List CE1) (gs : List (Str × PD)) (es : List EC1) : SG := ⟨sgF ds T 0, sgC T cs 0, sgD cs 0, gs, sgE es 0⟩
def exL (ds : DL1) (ts : List Nat) (file : Str) (es : List EC1) (K : PySem.W.Frag) : Bool := decide (tbL ds ts K).Nodup && exE file es K
def okL (sg : SG) : DL1 → List FE → Bool
  | [], [] => true
  | d :: ds, e :: es => okF sg e d.st && okL sg ds es
  | _, _ => false
/-- each class's __init__ stands among the defs, the constants are numbers and texts -/
def okC (ds : DL1) (T : List FE) (cs : List CE1) (gs : List (Str × PD)) : Bool := decide (ds.length < cOff) && ((cs.all fun c => match ds[c.ini]?, T[c.ini]? with
  | some d, some _ => decide (d.own = some c.name) && decide (d.name = "__init__")
  | _, _ => false) && gs.all fun g => match g.2 with | .int _ => true | .str _ => true | _ => false)
def BindB (d : DE1) (ps : List Str) : Prop :=
  (d.dfl = [] → ∀ (kV doc pm : Value) (an : Option Addr) (cdv ct : Value) (us : List Value), us.length = ps.length → bindArgs (PySem.W.fnOf d.name d.qual (defArgs d.st) (defBody d.st) (defScope d.st) .none kV doc pm an cdv ct) ⟨us, []⟩ = pure (ps.zip us)) ∧
  (d.dfl ≠ [] → ∀ (T : Addr) (kV doc pm : Value) (an : Option Addr) (cdv ct : Value) (us its : List Value), us.length = ps.length → its.length = d.dfl.length →
      ∃ k, bindArgs (PySem.W.fnOf d.name d.qual (defArgs d.st) (defBody d.st) (defScope d.st) (.ref T) kV doc pm an cdv ct) ⟨us, []⟩ = seqItems? (.ref T) >>= k ∧ k (some its.toArray) = pure (ps.zip us))
def AllB : DL1 → List FE → Prop
  | d :: ds, e :: es => BindB d e.ps ∧ AllB ds es
  | _, _ => True
theorem BindB.binds {K : PySem.W.Frag} {d : DE1} {ps : List Str} {f : Addr} {fd : FuncData} (h : BindB d ps) (F : FunD K d.name d.qual (defArgs d.st) (defBody d.st) (defScope d.st) (d.dfl.map (He.Dv.v K)) [] f fd) : Binds K fd ps [] := by
  by_cases q : d.dfl = []
  · rw [q] at F
    exact F.bindsN (h.1 q)
  · have ne : d.dfl.map (He.Dv.v K) ≠ [] := fun z => q (List.map_eq_nil_iff.mp z)
    obtain ⟨ds, h1, h2⟩ := F.binds1 (ps := ps) ps.length (d.dfl.map (He.Dv.v K)).length ne (by omega) fun T kV doc pm an cdv ct us its l1 l2 => by
      rw [List.length_map] at l2
      obtain ⟨k, e1, e2⟩ := h.2 q T kV doc pm an cdv ct us its l1 l2
      refine ⟨k, e1, ?_⟩
      rw [e2, List.length_map, ← l2, List.drop_length, List.append_nil]
    rw [List.drop_length] at h1
    cases h1
    exact h2
theorem sgF_mem : ∀ {ds : DL1} {T : List FE} {i : Nat} {p : Str × Nat × Nat}, p ∈ sgF ds T i → ∃ j d e, p.2.1 = i + j ∧ ds[j]? = some d ∧ T[j]? = some e ∧ p.1 = d.name ∧ d.own = none ∧ p.2.2 = e.ps.length
  | [], _, _, _, h => by cases h
  | _ :: _, [], _, _, h => by cases h
  | d :: ds, e :: es, i, p, h => by
    rcases List.mem_append.mp h with h | h
    · cases ho : d.own with
      | none =>
        rw [ho] at h
        rw [List.mem_singleton.mp h]
        exact ⟨0, d, e, rfl, rfl, rfl, rfl, ho, rfl⟩
      | some c => rw [ho] at h; cases h
    · obtain ⟨j, d', e', h1, h2, h3, h4, h5, h6⟩ := sgF_mem h
      exact ⟨j + 1, d', e', by omega, h2, h3, h4, h5, h6⟩
theorem sgC_mem {T : List FE} : ∀ {cs : List CE1} {i : Nat} {p : Str × Nat × Nat × Nat}, p ∈ sgC T cs i → ∃ j c, p.2.1 = i + j ∧ cs[j]? = some c ∧ p.1 = c.name ∧ p.2.2.1 = c.ini ∧ p.2.2.2 = ((T[c.ini]?).map fun e => e.ps.length).getD 0
  | [], _, _, h => by cases h
  | c :: cs, i, p, h => by
    rcases List.mem_cons.mp h with rfl | h
    · exact ⟨0, c, rfl, rfl, rfl, rfl, rfl⟩
    · obtain ⟨j, c', h1, h2, h3⟩ := sgC_mem h
      exact ⟨j + 1, c', by omega, h2, h3⟩
theorem sgD_mem : ∀ {cs : List CE1} {i : Nat} {p : Nat × List Str}, p ∈ sgD cs i → ∃ j c, p.1 = i + j ∧ cs[j]? = some c ∧ p.2 = c.flds
  | [], _, _, h => by cases h
  | c :: cs, i, p, h => by
    rcases List.mem_cons.mp h with rfl | h
    · exact ⟨0, c, rfl, rfl, rfl⟩
    · obtain ⟨j, c', h1, h2, h3⟩ := sgD_mem h
      exact ⟨j + 1, c', by omega, h2, h3⟩
theorem okL_at {sg : SG} : ∀ {ds : DL1} {T : List FE} {i : Nat} {e : FE}, okL sg ds T = true → T[i]? = some e → ∃ d, ds[i]? = some d ∧ okF sg e d.st = true
  | [], [], i, e, _, h => by simp at h
  | [], _ :: _, _, _, h, _ => by cases h
  | _ :: _, [], _, _, h, _ => by cases h
  | d :: ds, e' :: es, 0, e, h, hi => by
    cases hi
    exact ⟨d, rfl, (ba2 h).1⟩
  | d :: ds, e' :: es, i + 1, e, h, hi => okL_at (i := i) (ba2 h).2 hi
theorem okTb_at {n : Nat} {ts : List Nat} : ∀ {T : List FE} {i k j : Nat} {e : FE}, okTb n ts T i = true → T[k]? = some e → e.tb = some j → ts[j]? = some (i + k)
  | [], _, _, _, _, _, h, _ => by simp at h
  | e' :: es, i, 0, j, e, h, hk, hj => by
    cases hk
    have q := (ba2 h).1
    rw [hj] at q
    exact bd q
  | e' :: es, i, k + 1, j, e, h, hk, hj => by
    have := okTb_at (i := i + 1) (k := k) (ba2 h).2 hk hj
    rw [this]
    congr 1; omega
theorem okTb_lt {n : Nat} {ts : List Nat} : ∀ {T : List FE} {i : Nat}, okTb n ts T i = true → ∀ k ∈ ts, k < n
  | [], _, h, k, hk => bd (List.all_eq_true.mp h k hk)
  | _ :: _, _, h, k, hk => okTb_lt (ba2 h).2 k hk
theorem filterMap_get {α β : Type} (f : α → Option β) : ∀ {l : List α}, (∀ x ∈ l, ∃ y, f x = some y) → ∀ {j : Nat}, (l.filterMap f)[j]? = (l[j]?).bind f
  | [], _, j => by simp
  | x :: l, h, j => by
    obtain ⟨y, e⟩ := h x List.mem_cons_self
    rw [List.filterMap_cons, e]
    cases j with
    | zero => simp [e]
    | succ j => simpa using filterMap_get f (l := l) (fun z hz => h z (List.mem_cons_of_mem _ hz)) (j := j)
theorem allB_at : ∀ {ds : DL1} {T : List FE} {i : Nat} {d : DE1} {e : FE}, AllB ds T → ds[i]? = some d → T[i]? = some e → BindB d e.ps
  | [], _, _, _, _, _, h, _ => by simp at h
  | _ :: _, [], _, _, _, _, _, h => by simp at h
  | d :: ds, e :: es, 0, _, _, h, h1, h2 => by cases h1; cases h2; exact h.1
  | d :: ds, e :: es, i + 1, _, _, h, h1, h2 => allB_at (i := i) h.2 h1 h2
theorem says_all {fa : List He.Fa} {fn : List He.DefD} {K : PySem.W.Frag} (c : He.SaysD fa fn K) : ∀ f ∈ fa, f.ok K = true := by
  have h := (He.ba (show ((fa.all fun f => f.ok K) && fn.all fun d => d.ok K) = true from congrArg (fun z : He.AlD => z.1) c)).1
  exact List.all_eq_true.mp h
theorem walk_law {l : PySem.W.OpenLaw} {m n li dep : Nat} {x : Str} {e : FE} {q : Program} {loose : List Str} {XP : (Str → Option Value) → Heap → Prop} {d : DefRec} {ds : DL1} {T : List FE} {cs : List CE1} {gs : List (Str × PD)} {ts : List Nat} {dl : DE1} {es : List EC1} {file : Str}
    (hfile : ((l.prog.main.file : Str) == file) = true) (htop : (l.prog.main.scope.names.lookup ("super" : Str)).isSome = false)
    (hn : l.most = some m) (hn2 : m ≤ sizeLine) (hdf : d.params.defaults = []) (hd : d.name = dl.name) (hdo : dl.own = none) (hdd : dl.dfl = []) (hr : RoomG (2 * n + 1) callerA) (ok : okL (sgL ds T cs gs es) ds T = true) (okc : okC ds T cs gs = true) (okt : okTb ds.length ts T 0 = true) (okcs : decide (cs.length < cOff) = true) (okn : decide (ts.length < cOff) = true) (hb : AllB ds T) (he : T[li]? = some e) (hx : e.ps = [x]) (hl : ds[li]? = some dl)
    (pure : ∀ ns : List Int, ns.length ≤ m → ∃ fu st, lvl T fu n li [.scr ns] ((List.range ts.length).map Cell.tab) = .ok (.py (.bool true)) st) :
    PySem.W.WalkO q loose XP (hookSt dep (faL ds cs gs) (fnL ds) (tfL ds ts) (exL ds ts file es)).says l.row.toRowW d [] (fun f vs => PySem.call f vs) := by
  refine walkGT (x := x) hn hn2 hdf hr fun w mg fa h Y G hmg => ?_
  obtain ⟨K, KX, cx⟩ := Y
  have c : He.SaysD (faL ds cs gs) (fnL ds) K := cx.t.d
  have facts := says_all c
  obtain ⟨oc1, oc⟩ := ba2 okc
  obtain ⟨oc2, oc3⟩ := ba2 oc
  have lenC : cs.length < cOff := bd okcs
  have c1 : cOff = 1000000 := rfl
  have c2 : tOff = 2000000 := rfl
  have lenD : ds.length < cOff := bd oc1
  have adF : ∀ {i : Nat} {p : DE1}, ds[i]? = some p → adL ds cs ts K i = He.fAd K p.at_ := fun {i p} hp => by
    have hi := (List.getElem?_eq_some_iff.mp hp).1
    unfold adL
    rw [if_pos (by omega), hp]; rfl
  have adC : ∀ {i : Nat} {p : CE1}, cs[i]? = some p → adL ds cs ts K (cOff + i) = He.ga K p.name := fun {i p} hp => by
    unfold adL
    rw [if_neg (by omega), if_pos (by have := (List.getElem?_eq_some_iff.mp hp).1; omega), Nat.add_sub_cancel_left, hp]; rfl
  have glo : ∀ {i : Nat} {p : DE1}, ds[i]? = some p → p.own = none → mg p.name = some (.ref (adL ds cs ts K i)) := fun {i p} hp ho => by
    have z := He.glo_ok KX G (facts (.glo p.name) (List.mem_append_left _ (List.mem_filterMap.mpr ⟨p, List.mem_of_getElem? hp, by rw [ho]⟩)))
    rw [adF hp, z]
    unfold DE1.at_
    rw [ho]; rfl
  have hB : ∀ b ∈ blts, mg b = none := fun b hb => He.free_ok KX G (facts (.free b) (List.mem_append_right _ (List.mem_append_left _ (List.mem_map.mpr ⟨b, hb, rfl⟩))))
  have cfact : ∀ {i : Nat} {p : CE1} {f : He.Fa}, cs[i]? = some p → f ∈ ([.glo p.name, .cls p.name, .mkr p.name] ++ p.flds.map (.noat p.name) : List He.Fa) → f.ok K = true := fun {i p f} hp hf =>
    facts f (List.mem_append_right _ (List.mem_append_right _ (List.mem_append_left _ (List.mem_flatMap.mpr ⟨p, List.mem_of_getElem? hp, hf⟩))))
  have hF : ∀ i e, T[i]? = some e → ∃ fd, DefOk K (sgL ds T cs gs es) e (adL ds cs ts K i) fd ∧ ∃ p, ds[i]? = some p ∧ FunD K p.name p.qual (defArgs p.st) (defBody p.st) (defScope p.st) (p.dfl.map (He.Dv.v K)) [] (adL ds cs ts K i) fd := fun i e hi => by
    obtain ⟨p, h1, h2⟩ := okL_at ok hi
    obtain ⟨fd, F⟩ := c.def_ i (d := mkD p) (by unfold fnL; rw [List.getElem?_map, h1]; rfl)
    have F' : FunD K p.name p.qual (defArgs p.st) (defBody p.st) (defScope p.st) (p.dfl.map (He.Dv.v K)) [] (adL ds cs ts K i) fd := by
      rw [adF h1]
      exact F
    exact ⟨fd, ⟨⟨p.name, p.qual, p.st, _, F', h2⟩, (allB_at hb h1 hi).binds F'⟩, p, h1, F'⟩
  have hS : ∀ p ∈ (sgL ds T cs gs es).fns, ∃ e, T[p.2.1]? = some e ∧ e.ps.length = p.2.2 ∧ mg p.1 = some (.ref (adL ds cs ts K p.2.1)) := fun p hp => by
    obtain ⟨j, d', e', h1, h2, h3, h4, h5, h6⟩ := sgF_mem hp
    rw [Nat.zero_add] at h1
    rw [h1, h4]
    exact ⟨e', h3, h6.symm, glo h2 h5⟩
  have hC : ∀ p ∈ (sgL ds T cs gs es).cls, ∃ e, T[p.2.2.1]? = some e ∧ e.ps.length = p.2.2.2 ∧ Mk K (adL ds cs ts K (cOff + p.2.1)) (adL ds cs ts K p.2.2.1) ∧ mg p.1 = some (.ref (adL ds cs ts K (cOff + p.2.1))) := fun p hp => by
    obtain ⟨j, c', h1, h2, h3, h4, h5⟩ := sgC_mem hp
    rw [Nat.zero_add] at h1
    have hc := List.all_eq_true.mp oc2 c' (List.mem_of_getElem? h2)
    rw [h1, h3, h4, adC h2]
    split at hc
    · rename_i d' e' q1 q2
      obtain ⟨k1, k2⟩ := ba2 hc
      have M := He.mkr_ok (cfact h2 (f := .mkr c'.name) (by simp))
      refine ⟨e', q2, by rw [h5, q2]; rfl, ?_, He.glo_ok KX G (cfact h2 (f := .glo c'.name) (by simp))⟩
      rw [adF q1]
      unfold DE1.at_
      rw [bd k1, bd k2]
      exact M
    · cases hc
  have fl : ∀ p ∈ (sgL ds T cs gs es).flds, Cls K (adL ds cs ts K (cOff + p.1)) ∧ ∀ f ∈ p.2, NoAttr K (adL ds cs ts K (cOff + p.1)) f := fun p hp => by
    obtain ⟨j, c', h1, h2, h3⟩ := sgD_mem hp
    rw [Nat.zero_add] at h1
    rw [h1, h3, adC h2]
    exact ⟨He.cls_ok (cfact h2 (f := .cls c'.name) (by simp)), fun f hf => He.noat_ok (cfact h2 (f := .noat c'.name f) (List.mem_append_right _ (List.mem_map.mpr ⟨f, hf, rfl⟩)))⟩
  have gc : ∀ p ∈ (sgL ds T cs gs es).cons, ConOk mg p := fun p hp => by
    have hg := List.all_eq_true.mp oc3 p hp
    have z := facts (conFa p) (List.mem_append_right _ (List.mem_append_right _ (List.mem_append_right _ (List.mem_map.mpr ⟨p, hp, rfl⟩))))
    obtain ⟨y, dd⟩ := p
    cases dd with
    | int i => exact He.int_ok KX G z
    | str t => exact He.str_ok KX G z
    | _ => cases hg
  obtain ⟨fd, D, p, hp, F⟩ := hF li e he
  rw [hl] at hp; cases hp
  have ef : fa = adL ds cs ts K li := by
    have z := glo hl hdo
    rw [← hd, hmg] at z
    cases z; rfl
  subst ef
  rw [hdd] at F
  have b := F.bindsA (ps := [x]) (by have z := allB_at hb hl he; rw [hx] at z; exact z.1 hdd)
  have tDef : ∀ k ∈ ts, ∃ y, (ds[k]?).map DE1.at_ = some y := fun k hk => by
    have h := okTb_lt okt k hk
    exact ⟨_, by rw [List.getElem?_eq_getElem h]; rfl⟩
  have adT : ∀ {j k : Nat} {p : DE1}, ts[j]? = some k → ds[k]? = some p → adL ds cs ts K (tOff + j) = (He.cT K p.at_).2 := fun {j k p} h1 h2 => by
    unfold adL
    rw [if_neg (by omega), if_neg (by omega), Nat.add_sub_cancel_left, h1, Option.bind_some, h2]; rfl
  have tf_at : ∀ {j k : Nat} {p : DE1}, ts[j]? = some k → ds[k]? = some p → (tfL ds ts)[j]? = some p.at_ := fun {j k p} h1 h2 => by
    unfold tfL
    rw [filterMap_get _ tDef, h1, Option.bind_some, h2]; rfl
  have tb_at : ∀ j, j < ts.length → (tbL ds ts K)[j]? = some (adL ds cs ts K (tOff + j)) := fun j hj => by
    have h1 : ts[j]? = some ts[j] := List.getElem?_eq_getElem hj
    have h2 := okTb_lt okt _ (List.getElem_mem hj)
    have h3 : ds[ts[j]]? = some ds[ts[j]] := List.getElem?_eq_getElem h2
    unfold tbL
    rw [List.getElem?_map, tf_at h1 h3, adT h1 h3]; rfl
  have nd : (tbL ds ts K).Nodup := bd (ba2 cx.more).1
  obtain ⟨hsu, hEr⟩ := exE_ok KX G (ba2 cx.more).2
  have mem_tf : ∀ t ∈ tbL ds ts K, ∃ p ∈ tfL ds ts, (He.cT K p).2 = t := fun t ht => List.mem_map.mp ht
  refine ⟨K, fd, fun vs H Q E => ∃ fu, spF K (adL ds cs ts K) (caL es K) (lvl T fu n) li 1 vs H Q E, tbL ds ts K, KX, fun t ht => ?_, fun t ht => ?_, fun t ht => ?_, fun s u => b s [u] rfl, fun H a ns hlen hO hS' => ?_, fun base _ _ hB' => ?_⟩
  · obtain ⟨p, hp, rfl⟩ := mem_tf t ht
    exact cx.empty p hp
  · obtain ⟨p, hp, rfl⟩ := mem_tf t ht
    exact cx.out p hp
  · obtain ⟨p, hp, rfl⟩ := mem_tf t ht
    exact ⟨_, cx.hd p hp⟩
  · obtain ⟨fu, st, e1⟩ := pure ns hlen
    refine ⟨fu, spF_lawT hS' (fun j hj => hO.1 _ (List.mem_of_getElem? (tb_at j hj))) (fun i j hi hj e => ?_) (fun j hj hn z => ?_) e1⟩
    · have q1 := tb_at i hi
      have q2 := tb_at j hj
      rw [e] at q1
      obtain ⟨l1, g1⟩ := List.getElem?_eq_some_iff.mp q1
      obtain ⟨l2, g2⟩ := List.getElem?_eq_some_iff.mp q2
      exact (List.getElem_inj nd).mp (g1.trans g2.symm)
    · have hm := List.mem_of_getElem? (tb_at j hj)
      rw [z] at hm
      have q := hO.1 a hm
      rcases hS' with (h | ⟨_, h⟩) | ⟨o, _, _, h, _⟩
      · rw [q] at h; cases h
      · rw [q] at h; cases h
      · obtain ⟨p, hp, e⟩ := mem_tf a hm
        have := cx.out p hp
        rw [e, h] at this; cases this
  · have z := fun fu => all_ok (P := l.prog) (w := w) (K := K) (mg := mg) (base := base) (fa := adL ds cs ts K) (ca := caL es K) (T := T) (sg := sgL ds T cs gs es) (fu := fu) hfile htop hsu hEr (fun i e hi => let ⟨fd, D, _⟩ := hF i e hi; ⟨fd, D⟩) hS hB hC fl gc (fun i e j hi hj qual cdv ⟨k1, oc', od', osl', fd', k2, k3⟩ => ?_) n li e he fd D
    · rw [hx] at z
      exact FnG.some z
    · have h1 := okTb_at okt hi hj
      rw [Nat.zero_add] at h1
      obtain ⟨p, hp, _⟩ := okL_at ok hi
      obtain ⟨a, rfl⟩ := He.codeIn_ref k1
      rw [adF hp] at k2
      have ec := He.codeOf_eq k2 k3
      have ht := tf_at h1 hp
      have hh := cx.hd _ (List.mem_of_getElem? ht)
      refine ⟨a, rfl, ?_⟩
      rw [adT h1 hp]
      have e2 : (He.cT K p.at_).1 = a := ec
      refine hB' _ _ (List.mem_map.mpr ⟨_, List.mem_of_getElem? ht, rfl⟩) ?_
      rw [← e2]
      exact hh
end Ev
set_option maxHeartbeats 1000000
namespace Ev
open PySem
/-- no cell names one that is not there -/
def WF (st : Store) : Prop := st.all (cellUnder st.length) = true
theorem refsUnder_mono {n m : Nat} (h : n ≤ m) : ∀ (j : Nat) (d : D), refsUnder n j d = true → refsUnder m j d = true := by
  intro j
  induction j with
  | zero => intro d q; cases d <;> simp_all [refsUnder] <;> omega
  | succ j ih =>
    intro d q
    cases d with
    | tp ds =>
      simp only [refsUnder, List.all_eq_true] at q ⊢
      exact fun x hx => ih x (q x hx)
    | _ => simp_all [refsUnder] <;> omega
theorem cellUnder_mono {n m : Nat} (h : n ≤ m) {c : Cell} (q : cellUnder n c = true) : cellUnder m c = true := by
  cases c with
  | lst ds => simp only [cellUnder, List.all_eq_true] at q ⊢; exact fun x hx => refsUnder_mono h 3 x (q x hx)
  | dct kvs => simp only [cellUnder, List.all_eq_true] at q ⊢; exact fun x hx => refsUnder_mono h 3 _ (q x hx)
  | ins c fs => simp only [cellUnder, List.all_eq_true] at q ⊢; exact fun x hx => refsUnder_mono h 3 _ (q x hx)
  | frz d => rfl
  | tab j => rfl
theorem WF.nil : WF [] := rfl
theorem WF.app {st : Store} (h : WF st) {c : Cell} (hc : cellUnder (st.length + 1) c = true) : WF (st ++ [c]) := by
  unfold WF at h ⊢
  rw [List.length_append, List.all_append, Bool.and_eq_true]
  refine ⟨?_, by simpa using hc⟩
  rw [List.all_eq_true] at h ⊢
  exact fun x hx => cellUnder_mono (by simp) (h x hx)
theorem WF.set {st : Store} (h : WF st) {n : Nat} {c : Cell} (hc : cellUnder st.length c = true) : WF (st.set n c) := by
  unfold WF at h ⊢
  rw [List.length_set]
  rw [List.all_eq_true] at h ⊢
  intro x hx
  rcases List.mem_or_eq_of_mem_set hx with q | q
  · exact h x q
  · subst q; exact hc
/-- what a def gave alone -/
theorem trim_py {st : Store} {d : PD} (l : Store) (h : WF st) : trim st.length (.py d) (st ++ l) = st := by
  unfold trim
  have e : (st ++ l).take st.length = st := by simp
  rw [e]
  rw [if_pos]
  unfold WF at h
  simp [refsUnder, h]
theorem trim_py0 {st : Store} {d : PD} (h : WF st) : trim st.length (.py d) st = st := by
  have := trim_py (d := d) [] h
  rwa [List.append_nil] at this
theorem get_last (st : Store) (c : Cell) : (st ++ [c])[st.length]? = some c := by simp
theorem set_last (st : Store) (c c' : Cell) : (st ++ [c]).set st.length c' = st ++ [c'] := by simp
/-- a comprehension whose turns leave the store alone -/
theorem lcLoop_pure {f : D → Store → Rs (Option D)} {g : D → Option D} {st : Store} : ∀ (ds acc : List D), (∀ d ∈ ds, f d st = .ok (g d) st) → acc.length + ds.length ≤ line → lcLoop f acc ds st = .ok (acc ++ ds.filterMap g) st
  | [], acc, _, _ => by simp [lcLoop]
  | d :: ds, acc, h, hl => by
    unfold lcLoop
    rw [h d List.mem_cons_self, Rs.bind_ok]
    rw [List.length_cons] at hl
    cases e : g d with
    | none =>
      simp only
      rw [lcLoop_pure ds acc (fun x hx => h x (List.mem_cons_of_mem _ hx)) (by omega), List.filterMap_cons, e]
    | some x =>
      simp only
      rw [if_pos (by omega), lcLoop_pure ds (acc ++ [x]) (fun x hx => h x (List.mem_cons_of_mem _ hx)) (by rw [List.length_append]; simp; omega), List.filterMap_cons, e]
      simp
theorem lcLoop_map {f : D → Store → Rs (Option D)} {g : D → D} {st : Store} (ds : List D) (h : ∀ d ∈ ds, f d st = .ok (some (g d)) st) (hl : ds.length ≤ line) : lcLoop f [] ds st = .ok (ds.map g) st := by
  rw [lcLoop_pure (g := fun d => some (g d)) ds [] h (by simpa using hl)]
  simp
theorem pys_map' (l : List PD) : pys (l.map D.py) = some l := pys_map l
theorem ixN_nat {n j : Nat} (h : j < n) : ixN n (j : Int) = some j := by
  show L2.ixN n (j : Int) = some j
  unfold L2.ixN
  rw [if_pos (by omega), if_pos (by omega)]
  simp
section
variable {Δ : Dn} {fu : Nat} {s : S} {r : Ss} {ρ ρ' : EnvD} {st st' : Store} {d : D}
theorem st_nx (h : ex Δ fu s ρ st = .go .nx ρ' st') : exs Δ fu (.cons s r) ρ st = exs Δ fu r ρ' st' := by
  show (ex Δ fu s ρ st).seq (exs Δ fu r) = _
  rw [h]; rfl
theorem st_fl {f : Fl} (h : ex Δ fu s ρ st = .go f ρ' st') (hf : f ≠ .nx) : exs Δ fu (.cons s r) ρ st = .go f ρ' st' := by
  show (ex Δ fu s ρ st).seq (exs Δ fu r) = _
  rw [h]
  cases f <;> first | rfl | exact absurd rfl hf
theorem s_set {i : Nat} {e : E} (h : ev Δ e ρ st = .ok d st') : ex Δ fu (.set i e) ρ st = .go .nx (ρ.set i (some d)) st' := by
  unfold ex
  rw [h]; rfl
theorem s_ret {e : E} (h : ev Δ e ρ st = .ok d st') : ex Δ fu (.ret e) ρ st = .go (.rt d) ρ st' := by
  unfold ex
  rw [h]; rfl
theorem s_ift {t : T} {a b : Ss} (h : evT Δ t ρ st = .ok true st') : ex Δ fu (.ife t a b) ρ st = exs Δ fu a ρ st' := by
  unfold ex
  rw [h]; rfl
theorem s_iff {t : T} {a b : Ss} (h : evT Δ t ρ st = .ok false st') : ex Δ fu (.ife t a b) ρ st = exs Δ fu b ρ st' := by
  unfold ex
  rw [h]; rfl
theorem s_stI {a i v : E} {x y z : D} {st1 st2 st3 : Store} (h1 : ev Δ v ρ st = .ok z st1) (h2 : ev Δ a ρ st1 = .ok x st2) (h3 : ev Δ i ρ st2 = .ok y st3) (h4 : setix st3 x y z = some st') : ex Δ fu (.stI a i v) ρ st = .go .nx ρ st' := by
  unfold ex
  rw [h1, Rs.to_ok, h2, Rs.to_ok, h3, Rs.to_ok, h4]
theorem s_for {tg : Tg} {it : It} {b : Ss} {ds : List D} (h : evI Δ it ρ st = .ok ds st') : ex Δ fu (.for tg it b) ρ st = forLoop (fun d ρ st => bindT tg st d ρ (exs Δ fu b)) ds ρ st' := by
  unfold ex
  rw [h]; rfl
theorem s_nil : exs Δ fu .nil ρ st = .go .nx ρ st := by unfold exs; rfl
theorem st_drop {js : List Nat} : exs Δ fu (.cons (.drop js) r) ρ st = exs Δ fu r (wipe ρ js) st := by
  show (ex Δ fu (.drop js) ρ st).seq (exs Δ fu r) = _
  unfold ex
  rfl
theorem e_var {i : Nat} {p : PD} (h : ρ[i]? = some (some (.py p))) : ev Δ (.var i) ρ st = .ok (.py p) st := by
  unfold ev
  rw [h]
theorem e_ref {i n : Nat} {c : Cell} (h : ρ[i]? = some (some (.ref n))) (h2 : st[n]? = some c) (hc : ∀ p, c ≠ .frz p) : ev Δ (.var i) ρ st = .ok (.ref n) st := by
  unfold ev
  rw [h]
  simp only [h2]
  cases c with
  | frz p => exact absurd rfl (hc p)
  | _ => rfl
theorem e_con {p : PD} : ev Δ (.con p) ρ st = .ok (.py p) st := by unfold ev; rfl
theorem e_bin {op : BOp} {a b : E} {x y z : D} {st1 : Store} (h1 : ev Δ a ρ st = .ok x st1) (h2 : ev Δ b ρ st1 = .ok y st') (h3 : bop st' op x y = some z) : ev Δ (.bin op a b) ρ st = .ok z st' := by
  unfold ev
  rw [h1, Rs.bind_ok, h2, Rs.bind_ok, h3]; rfl
theorem e_cmp {op : COp} {a b : E} {x y : D} {k : Bool} {st1 : Store} (h1 : ev Δ a ρ st = .ok x st1) (h2 : ev Δ b ρ st1 = .ok y st') (h3 : cop st' op x y = some k) : ev Δ (.cmp op a b) ρ st = .ok (.py (.bool k)) st' := by
  unfold ev
  rw [h1, Rs.bind_ok, h2, Rs.bind_ok, h3]; rfl
theorem e_ix {a b : E} {x y z : D} {st1 : Store} (h1 : ev Δ a ρ st = .ok x st1) (h2 : ev Δ b ρ st1 = .ok y st') (h3 : getix st' x y = some z) : ev Δ (.ix a b) ρ st = .ok z st' := by
  unfold ev
  rw [h1, Rs.bind_ok, h2, Rs.bind_ok, h3]; rfl
theorem e_bi {b : Bi} {es : Es} {ds : List D} {z : D} (h1 : evs Δ es ρ st = .ok ds st') (h3 : bi st' b ds = some z) : ev Δ (.bi b es) ρ st = .ok z st' := by
  unfold ev
  rw [h1, Rs.bind_ok, h3]; rfl
theorem e_call {f : Nat} {es : Es} {ds : List D} {r : Rs D} (h1 : evs Δ es ρ st = .ok ds st') (h3 : Δ f ds st' = r) : ev Δ (.call f es) ρ st = r := by
  unfold ev
  rw [h1, Rs.bind_ok, h3]
theorem es_nil : evs Δ .nil ρ st = .ok [] st := by unfold evs; rfl
theorem es_cons {a : E} {r : Es} {x : D} {xs : List D} {st1 : Store} (h1 : ev Δ a ρ st = .ok x st1) (h2 : evs Δ r ρ st1 = .ok xs st') : evs Δ (.cons a r) ρ st = .ok (x :: xs) st' := by
  unfold evs
  rw [h1, Rs.bind_ok, h2]; rfl
theorem t_v {a : E} {x : D} {k : Bool} (h1 : ev Δ a ρ st = .ok x st') (h2 : truth st' x = some k) : evT Δ (.v a) ρ st = .ok k st' := by
  unfold evT
  rw [h1, Rs.bind_ok, h2]; rfl
theorem t_b {a : E} {k : Bool} (h1 : ev Δ a ρ st = .ok (.py (.bool k)) st') : evT Δ (.v a) ρ st = .ok k st' := t_v h1 rfl
end
/-- a def runs -/
theorem run_ret {Δ : Dn} {fu ar sl : Nat} {b : Ss} {ds : List D} {st st' : Store} {ρ : EnvD} {p : PD} (hl : ds.length = ar) (h : exs Δ fu b (ds.map some ++ List.replicate (sl - ar) none) st = .go (.rt (.py p)) ρ st') {st2 : Store} (ht : trim st.length (.py p) st' = st2) : runFn Δ fu ar sl b ds st = .ok (.py p) st2 := by
  unfold runFn
  rw [if_pos hl, h]
  simp only
  rw [ht]
theorem run_any {Δ : Dn} {fu ar sl : Nat} {b : Ss} {ds : List D} {st st' : Store} {ρ : EnvD} {d : D} (hl : ds.length = ar) (h : exs Δ fu b (ds.map some ++ List.replicate (sl - ar) none) st = .go (.rt d) ρ st') {st2 : Store} (ht : trim st.length d st' = st2) : runFn Δ fu ar sl b ds st = .ok d st2 := by
  unfold runFn
  rw [if_pos hl, h]
  simp only
  rw [ht]
theorem trim_ref {st st' : Store} : trim st.length (.ref st.length) st' = st' := by
  unfold trim
  rw [if_neg]
  simp [refsUnder]
theorem trim_set {st : Store} {p : PD} {n : Nat} {c : Cell} (h : WF st) (hc : cellUnder st.length c = true) : trim st.length (.py p) (st.set n c) = st.set n c := by
  have := trim_py0 (d := p) (h.set (n := n) hc)
  rwa [List.length_set] at this
section
variable {Δ : Dn} {fu : Nat} {s : S} {r : Ss} {ρ ρ' : EnvD} {st st' : Store} {d : D}
theorem small_of {j : Int} (h1 : -18446744073709551616 < j) (h2 : j < 18446744073709551616) : small j = true := by
  unfold small
  rw [decide_eq_true (show -(2 ^ 64 : Int) < j by omega), decide_eq_true (show j < (2 ^ 64 : Int) by omega)]; rfl
theorem b_mulR {i j : Int} (h : small j = true) : bop st .mul (.py (.int i)) (.py (.int j)) = some (.py (.int (i * j))) := by
  show (if (small i || small j) = true then _ else _) = _
  rw [h, Bool.or_true, if_pos rfl]
theorem b_mulL {i j : Int} (h : small i = true) : bop st .mul (.py (.int i)) (.py (.int j)) = some (.py (.int (i * j))) := by
  show (if (small i || small j) = true then _ else _) = _
  rw [h, Bool.true_or, if_pos rfl]
theorem b_fdiv {i j : Int} (h1 : 0 < j) (h2 : j < 1073741824) : bop st .fdiv (.py (.int i)) (.py (.int j)) = some (.py (.int (i / j))) := by
  show (if (decide (0 < j) && decide (j < 1073741824)) = true then _ else _) = _
  rw [decide_eq_true h1, decide_eq_true h2]; rfl
theorem b_mod {i j : Int} (h1 : 0 < j) : bop st .mod (.py (.int i)) (.py (.int j)) = some (.py (.int (i % j))) := by
  show (if decide (0 < j) = true then _ else _) = _
  rw [decide_eq_true h1]; rfl
theorem e_tup {es : Es} {ds : List D} (h : evs Δ es ρ st = .ok ds st') : ev Δ (.tup es) ρ st = .ok (mkTup ds) st' := by
  unfold ev
  rw [h]; rfl
theorem e_isc {c : PD} {ng : Bool} {a : E} {x : D} {k : Bool} (h : ev Δ a ρ st = .ok x st') (h2 : isc c x = some k) : ev Δ (.isc c ng a) ρ st = .ok (.py (.bool (k != ng))) st' := by
  unfold ev
  rw [h, Rs.bind_ok, h2]; rfl
theorem t_and {a b : T} {k k' : Bool} {st1 : Store} (h1 : evT Δ a ρ st = .ok k st1) (h2 : k = true → evT Δ b ρ st1 = .ok k' st') (h3 : k = false → st' = st1) : evT Δ (.and a b) ρ st = .ok (k && k') st' := by
  unfold evT
  rw [h1, Rs.bind_ok]
  cases k with
  | true => rw [if_pos rfl, h2 rfl]; rfl
  | false => rw [if_neg Bool.false_ne_true, h3 rfl]; rfl
theorem t_or {a b : T} {k k' : Bool} {st1 : Store} (h1 : evT Δ a ρ st = .ok k st1) (h2 : k = false → evT Δ b ρ st1 = .ok k' st') (h3 : k = true → st' = st1) : evT Δ (.or a b) ρ st = .ok (k || k') st' := by
  unfold evT
  rw [h1, Rs.bind_ok]
  cases k with
  | true => rw [if_pos rfl, h3 rfl]; rfl
  | false => rw [if_neg Bool.false_ne_true, h2 rfl]; rfl
theorem t_nt {a : T} {k : Bool} (h1 : evT Δ a ρ st = .ok k st') : evT Δ (.nt a) ρ st = .ok (!k) st' := by
  unfold evT
  rw [h1, Rs.bind_ok]
theorem t_yes : evT Δ .yes ρ st = .ok true st := by unfold evT; rfl
theorem e_li {l : L} {ds : List D} {ps : List PD} (h : evL Δ l ρ st = .ok ds st') (h2 : pys ds = some ps) : ev Δ (.li l) ρ st = .ok (.py (.list ps)) st' := by
  unfold ev
  rw [h, Rs.bind_ok, h2]
theorem e_cell {l : L} {ds : List D} (h : evL Δ l ρ st = .ok ds st') : ev Δ (.cell l) ρ st = .ok (.ref st'.length) (st' ++ [.lst ds]) := by
  unfold ev
  rw [h]; rfl
theorem l_lst {es : Es} {ds : List D} (h : evs Δ es ρ st = .ok ds st') (hl : ds.length ≤ line) : evL Δ (.lst es) ρ st = .ok ds st' := by
  unfold evL
  rw [h, Rs.bind_ok, if_pos hl]
theorem i_rng {a : E} {j : Int} (h : ev Δ a ρ st = .ok (.py (.int j)) st') (hf : fit j = true) : evI Δ (.rng a) ρ st = .ok (rangeD 0 j) st' := by
  unfold evI
  rw [h, Rs.bind_ok]
  simp only [hf, if_true]
theorem i_rng2 {a b : E} {i j : Int} {st1 : Store} (h : ev Δ a ρ st = .ok (.py (.int i)) st1) (h' : ev Δ b ρ st1 = .ok (.py (.int j)) st') (hf : fit i = true) (hf' : fit j = true) : evI Δ (.rng2 a b) ρ st = .ok (rangeD i j) st' := by
  unfold evI
  rw [h, Rs.bind_ok, h', Rs.bind_ok]
  simp only [hf, hf', Bool.and_self, if_true]
theorem i_e {a : E} {l : List PD} (h : ev Δ a ρ st = .ok (.py (.list l)) st') : evI Δ (.e a) ρ st = .ok (l.map .py) st' := by
  unfold evI
  rw [h]; rfl
theorem i_t {a : E} {l : List PD} (h : ev Δ a ρ st = .ok (.py (.tuple l)) st') : evI Δ (.e a) ρ st = .ok (l.map .py) st' := by
  unfold evI
  rw [h]; rfl
theorem l_lc {elt : E} {tg : Tg} {own : List Nat} {it : It} {t : T} {ds xs : List D} {st1 : Store} (h : evI Δ it ρ st = .ok ds st1) (h2 : lcLoop (lcTurn (ev Δ elt) (evT Δ t) tg (wipe ρ own)) [] ds st1 = .ok xs st') : evL Δ (.lc elt tg own it t) ρ st = .ok xs st' := by
  unfold evL
  rw [h, Rs.bind_ok, h2]
theorem s_app {a v : E} {x z : D} {st1 st2 : Store} (h1 : ev Δ a ρ st = .ok x st1) (h2 : isLst st1 x = true) (h3 : ev Δ v ρ st1 = .ok z st2) (h4 : appD st2 x z = some st') : ex Δ fu (.app a v) ρ st = .go .nx ρ st' := by
  unfold ex
  rw [h1, Rs.to_ok, if_pos h2, h3, Rs.to_ok, h4]
theorem s_swp {i j : Nat} {a b : E} {x y : D} {st1 : Store} (h1 : ev Δ a ρ st = .ok x st1) (h2 : ev Δ b ρ st1 = .ok y st') : ex Δ fu (.swp i j a b) ρ st = .go .nx ((ρ.set i (some x)).set j (some y)) st' := by
  unfold ex
  rw [h1, Rs.to_ok, h2]; rfl
theorem s_asg {t : Tg} {a : E} {x : D} (h1 : ev Δ a ρ st = .ok x st') (h2 : asg t st' x ρ = some ρ') : ex Δ fu (.asg t a) ρ st = .go .nx ρ' st' := by
  unfold ex
  rw [h1, Rs.to_ok]
  unfold bindT
  rw [h2]
theorem s_aug {i : Nat} {op : BOp} {a : E} {x y z : D} (h0 : ρ[i]? = some (some x)) (h1 : ev Δ a ρ st = .ok y st') (h2 : augI op x y = some z) : ex Δ fu (.aug i op a) ρ st = .go .nx (ρ.set i (some z)) st' := by
  unfold ex
  rw [h0]
  simp only
  rw [h1, Rs.to_ok, h2]
end
/-- a loop that runs through -/
theorem for_inv {f : D → EnvD → Store → RS} (I : Nat → EnvD → Store → Prop) : ∀ (ds : List D) (i : Nat) {ρ : EnvD} {st : Store}, (∀ j d ρ st, ds[j]? = some d → I (i + j) ρ st → ∃ ρ' st', f d ρ st = .go .nx ρ' st' ∧ I (i + j + 1) ρ' st') → I i ρ st → ∃ ρ' st', forLoop f ds ρ st = .go .nx ρ' st' ∧ I (i + ds.length) ρ' st'
  | [], i, ρ, st, _, h0 => ⟨ρ, st, rfl, h0⟩
  | d :: ds, i, ρ, st, h, h0 => by
    obtain ⟨ρ1, st1, e1, h1⟩ := h 0 d ρ st rfl h0
    obtain ⟨ρ2, st2, e2, h2⟩ := for_inv I ds (i + 1) (ρ := ρ1) (st := st1) (fun j d' ρ' st' hd hI => by
      obtain ⟨ρ3, st3, e3, h3⟩ := h (j + 1) d' ρ' st' hd (by rw [show i + (j + 1) = i + 1 + j by omega]; exact hI)
      exact ⟨ρ3, st3, e3, by rw [show i + 1 + j + 1 = i + (j + 1) + 1 by omega]; exact h3⟩) h1
    refine ⟨ρ2, st2, ?_, by rw [List.length_cons, show i + (ds.length + 1) = i + 1 + ds.length by omega]; exact h2⟩
    show (f d ρ st).turn _ = _
    rw [e1]
    exact e2
theorem rangeD_len (lo hi : Int) : (rangeD lo hi).length = (hi - lo).toNat := by simp [rangeD]
theorem rangeD_at {lo hi : Int} {j : Nat} {d : D} (h : (rangeD lo hi)[j]? = some d) : j < (hi - lo).toNat ∧ d = .py (.int (lo + j)) := rangeD_get lo hi j d h
theorem bind_nm {i : Nat} {st : Store} {d : D} {ρ : EnvD} {k : EnvD → Store → RS} : bindT (.nm i) st d ρ k = k (ρ.set i (some d)) st := rfl
theorem frz_ints {st : Store} {l : List Int} : frzD 6 (st ++ [.lst (l.map fun i => .py (.int i))]) (.ref st.length) = some (.list (l.map .int), st ++ [.frz (.list (l.map .int))]) := by
  have go : ∀ (k : Nat) (l : List Int) (acc : List PD) (s : Store), (l.map fun i => D.py (.int i)).foldlM (fun (p : List PD × Store) d => (frzD k p.2 d).map fun q => (p.1 ++ [q.1], q.2)) (acc, s) = some (acc ++ l.map .int, s) := by
    intro k l
    induction l with
    | nil => intro acc s; simp
    | cons a r ih =>
      intro acc s
      simp only [List.map_cons, List.foldlM_cons]
      have e : frzD k s (.py (.int a)) = some (.int a, s) := by cases k <;> rfl
      rw [e]
      show List.foldlM _ (acc ++ [.int a], s) _ = _
      rw [ih]
      simp
  unfold frzD
  rw [get_last]
  simp only
  rw [go 5 l [] _]
  simp
theorem e_frz_ints {Δ : Dn} {a : E} {ρ : EnvD} {st0 st : Store} {l : List Int} (h : ev Δ a ρ st0 = .ok (.ref st.length) (st ++ [.lst (l.map fun i => .py (.int i))])) : ev Δ (.frz a) ρ st0 = .ok (.py (.list (l.map .int))) (st ++ [.frz (.list (l.map .int))]) := by
  unfold ev
  rw [h, Rs.bind_ok, frz_ints]
theorem app_last {st : Store} {l : List Int} {z : Int} (h : l.length < line) : appD (st ++ [.lst (l.map fun i => .py (.int i))]) (.ref st.length) (.py (.int z)) = some (st ++ [.lst ((l ++ [z]).map fun i => .py (.int i))]) := by
  unfold appD
  simp only [get_last, List.length_map]
  rw [if_pos h, set_last]
  simp
theorem isLst_last {st : Store} {l : List D} : isLst (st ++ [.lst l]) (.ref st.length) = true := by
  unfold isLst
  simp only [get_last]
theorem len_last {st : Store} {l : List D} : bi (st ++ [.lst l]) .len [.ref st.length] = some (.py (.int l.length)) := by
  simp only [bi, get_last]
theorem len_py {st : Store} {l : List PD} : bi st .len [.py (.list l)] = some (.py (.int l.length)) := by simp [bi, seqOf, Ev.listOf]
section
variable {Δ : Dn} {ρ : EnvD} {st st' : Store}
theorem b_add {i j : Int} : bop st .add (.py (.int i)) (.py (.int j)) = some (.py (.int (i + j))) := rfl
theorem b_sub {i j : Int} : bop st .sub (.py (.int i)) (.py (.int j)) = some (.py (.int (i - j))) := rfl
theorem b_ladd {x y : List PD} (h : x.length + y.length ≤ line) : bop st .add (.py (.list x)) (.py (.list y)) = some (.py (.list (x ++ y))) := by
  show (if x.length + y.length ≤ line then _ else _) = _
  rw [if_pos h]
theorem b_tadd {x y : List PD} (h : x.length + y.length ≤ line) : bop st .add (.py (.tuple x)) (.py (.tuple y)) = some (.py (.tuple (x ++ y))) := by
  show (if x.length + y.length ≤ line then _ else _) = _
  rw [if_pos h]
theorem c_lt {i j : Int} : cop st .lt (.py (.int i)) (.py (.int j)) = some (decide (i < j)) := rfl
theorem c_le {i j : Int} : cop st .le (.py (.int i)) (.py (.int j)) = some (decide (i ≤ j)) := rfl
theorem c_gt {i j : Int} : cop st .gt (.py (.int i)) (.py (.int j)) = some (decide (j < i)) := rfl
theorem c_ge {i j : Int} : cop st .ge (.py (.int i)) (.py (.int j)) = some (decide (j ≤ i)) := rfl
theorem c_eqI {i j : Int} : cop st .eq (.py (.int i)) (.py (.int j)) = some (decide (i = j)) := by
  show (if (SeqAt.shaped (.int i) && SeqAt.shaped (.int j)) = true then some (PyData.eqv (.int i) (.int j)) else none) = _
  rw [if_pos (by rfl)]
  simp only [PyData.eqv]
  rfl
theorem c_neI {i j : Int} : cop st .ne (.py (.int i)) (.py (.int j)) = some (!decide (i = j)) := by
  show (if (SeqAt.shaped (.int i) && SeqAt.shaped (.int j)) = true then some (!PyData.eqv (.int i) (.int j)) else none) = _
  rw [if_pos (by rfl)]
  simp only [PyData.eqv]
  rfl
theorem n_int {i : Int} : bi st .int [.py (.int i)] = some (.py (.int i)) := rfl
theorem n_abs {i : Int} : bi st .abs [.py (.int i)] = some (.py (.int (if i < 0 then -i else i))) := rfl
theorem n_max2 {i j : Int} : bi st .max2 [.py (.int i), .py (.int j)] = some (.py (.int (if j > i then j else i))) := rfl
theorem n_min2 {i j : Int} : bi st .min2 [.py (.int i), .py (.int j)] = some (.py (.int (if j < i then j else i))) := rfl
theorem n_lenT {l : List PD} : bi st .len [.py (.tuple l)] = some (.py (.int l.length)) := by simp [bi, seqOf, Ev.listOf, tupOf]
theorem e_ix2 {a b : E} {x y z : D} {st1 : Store} (h1 : ev Δ a ρ st = .ok x st1) (h2 : ev Δ b ρ st1 = .ok y st') (h3 : getix st' x y = some z) : ev Δ (.ix a b) ρ st = .ok z st' := e_ix h1 h2 h3
end
theorem b_pow {st : Store} {i j : Int} {k : Nat} (h1 : j = (k : Int)) (h2 : k ≤ 1000000) (h3 : small i = true) : bop st .pow (.py (.int i)) (.py (.int j)) = some (.py (.int (i ^ k))) := by
  subst h1
  show (if (decide (0 ≤ (k : Int)) && decide ((k : Int) ≤ 1000000) && small i) = true then some (D.py (.int (i ^ (k : Int).toNat))) else none) = _
  rw [if_pos (by rw [decide_eq_true (by omega), decide_eq_true (by omega), h3]; rfl)]
  rfl
theorem ten18 {st : Store} : bop st .pow (.py (.int 10)) (.py (.int 18)) = some (.py (.int 1000000000000000000)) := b_pow (k := 18) rfl (by omega) (small_of (by omega) (by omega))
def RS.out : RS → Option (Fl × Store)
  | .go f _ st => some (f, st)
  | .bad => none
theorem run_out {Δ : Dn} {fu ar sl : Nat} {b : Ss} {ds : List D} {st st' : Store} {d : D} {ρ0 : EnvD} (hl : ds.length = ar) (e0 : ds.map some ++ List.replicate (sl - ar) none = ρ0) (h : (exs Δ fu b ρ0 st).out = some (.rt d, st')) {st2 : Store} (ht : trim st.length d st' = st2) : runFn Δ fu ar sl b ds st = .ok d st2 := by
  subst e0
  cases e : exs Δ fu b (ds.map some ++ List.replicate (sl - ar) none) st with
  | bad => rw [e] at h; cases h
  | go f ρ s =>
    rw [e] at h
    cases h
    exact run_any hl e ht
/-- a loop that looks for the first -/
theorem for_first {α : Type} {f : D → EnvD → Store → RS} {st : Store} (e : α → D) (P : α → Bool) (R : α → D) (I : EnvD → Prop) : ∀ (l : List α) (ρ : EnvD), I ρ → (∀ x ∈ l, ∀ ρ, I ρ → (P x = true → ∃ ρ', f (e x) ρ st = .go (.rt (R x)) ρ' st) ∧ (P x = false → ∃ ρ', f (e x) ρ st = .go .nx ρ' st ∧ I ρ')) →
    (∀ x, l.find? P = some x → ∃ ρ', forLoop f (l.map e) ρ st = .go (.rt (R x)) ρ' st) ∧ (l.find? P = none → ∃ ρ', forLoop f (l.map e) ρ st = .go .nx ρ' st ∧ I ρ')
  | [], ρ, h0, _ => ⟨fun x h => (by cases h), fun _ => ⟨ρ, rfl, h0⟩⟩
  | y :: l, ρ, h0, h => by
    obtain ⟨h1, h2⟩ := h y List.mem_cons_self ρ h0
    rw [List.map_cons, List.find?_cons]
    cases hp : P y with
    | true =>
      obtain ⟨ρ', e1⟩ := h1 hp
      refine ⟨fun x hx => ?_, fun hx => (by cases hx)⟩
      cases hx
      refine ⟨ρ', ?_⟩
      show (f (e y) ρ st).turn _ = _
      rw [e1]; rfl
    | false =>
      obtain ⟨ρ', e1, h3⟩ := h2 hp
      obtain ⟨k1, k2⟩ := for_first e P R I l ρ' h3 fun x hx => h x (List.mem_cons_of_mem _ hx)
      have q : forLoop f (e y :: l.map e) ρ st = forLoop f (l.map e) ρ' st := by
        show (f (e y) ρ st).turn _ = _
        rw [e1]; rfl
      rw [q]
      exact ⟨k1, k2⟩
theorem e_trng {Δ : Dn} {a : E} {ρ : EnvD} {st st' : Store} {m : Nat} (h : ev Δ a ρ st = .ok (.py (.int m)) st') (hm : m ≤ 1000) : ev Δ (.trng a) ρ st = .ok (.py (.tuple ((List.range m).map fun (i : Nat) => .int i))) st' := by
  unfold ev
  rw [h, Rs.bind_ok]
  simp only
  rw [if_pos (by rw [decide_eq_true (by omega), decide_eq_true (by omega)]; rfl), Int.toNat_natCast]
theorem run_at {Δ : Dn} {fu ar sl : Nat} {b : Ss} {ds : List D} {st st' : Store} {ρ ρ0 : EnvD} {d : D} (hl : ds.length = ar) (e0 : ds.map some ++ List.replicate (sl - ar) none = ρ0) (h : exs Δ fu b ρ0 st = .go (.rt d) ρ st') {st2 : Store} (ht : trim st.length d st' = st2) : runFn Δ fu ar sl b ds st = .ok d st2 := by
  subst e0
  exact run_any hl h ht
theorem lcLoop_A {α : Type} {f : D → Store → Rs (Option D)} {st : Store} {e : α → D} {g : α → Option D} : ∀ (xs : List α) (acc : List D), (∀ x ∈ xs, f (e x) st = .ok (g x) st) → acc.length + xs.length ≤ line → lcLoop f acc (xs.map e) st = .ok (acc ++ xs.filterMap g) st
  | [], acc, _, _ => by simp [lcLoop]
  | x :: xs, acc, h, hl => by
    rw [List.map_cons]
    unfold lcLoop
    rw [h x List.mem_cons_self, Rs.bind_ok]
    rw [List.length_cons] at hl
    cases q : g x with
    | none =>
      simp only
      rw [lcLoop_A xs acc (fun y hy => h y (List.mem_cons_of_mem _ hy)) (by omega), List.filterMap_cons, q]
    | some d =>
      simp only
      rw [if_pos (by omega), lcLoop_A xs (acc ++ [d]) (fun y hy => h y (List.mem_cons_of_mem _ hy)) (by rw [List.length_append]; simp; omega), List.filterMap_cons, q]
      simp
theorem filterMap_some {α β : Type} (g : α → β) (l : List α) : l.filterMap (fun x => some (g x)) = l.map g := by
  induction l with
  | nil => rfl
  | cons a r ih => simp
/-- a comprehension over one name -/
theorem l_lcm {α : Type} {Δ : Dn} {elt : E} {i : Nat} {it : It} {ρ : EnvD} {st st0 : Store} (xs : List α) (e g : α → D) (hI : evI Δ it ρ st0 = .ok (xs.map e) st) (hE : ∀ x ∈ xs, ev Δ elt ((wipe ρ [i]).set i (some (e x))) st = .ok (g x) st) (hl : xs.length ≤ line) : evL Δ (.lc elt (.nm i) [i] it .yes) ρ st0 = .ok (xs.map g) st := by
  refine l_lc hI ?_
  rw [lcLoop_A (g := fun x => some (g x)) xs [] (fun x hx => ?_) (by simpa using hl), filterMap_some]
  · rfl
  · unfold lcTurn
    simp only [asg]
    rw [t_yes]
    simp only [Rs.noex_ok, Rs.bind_ok, if_true]
    rw [hE x hx]; rfl
theorem l_lcf {α : Type} {Δ : Dn} {elt : E} {i : Nat} {it : It} {t : T} {ρ : EnvD} {st st0 : Store} (xs : List α) (e g : α → D) (p : α → Bool) (hI : evI Δ it ρ st0 = .ok (xs.map e) st) (hT : ∀ x ∈ xs, evT Δ t ((wipe ρ [i]).set i (some (e x))) st = .ok (p x) st)
    (hE : ∀ x ∈ xs, p x = true → ev Δ elt ((wipe ρ [i]).set i (some (e x))) st = .ok (g x) st) (hl : xs.length ≤ line) : evL Δ (.lc elt (.nm i) [i] it t) ρ st0 = .ok ((xs.filter p).map g) st := by
  refine l_lc hI ?_
  rw [lcLoop_A (g := fun x => if p x = true then some (g x) else none) xs [] (fun x hx => ?_) (by simpa using hl)]
  · rw [List.nil_append]
    congr 1
    clear hI hT hE hl
    induction xs with
    | nil => rfl
    | cons a r ih =>
      rw [List.filterMap_cons, List.filter_cons]
      cases p a <;> simp [ih]
  · unfold lcTurn
    simp only [asg]
    rw [hT x hx]
    simp only [Rs.noex_ok, Rs.bind_ok]
    cases q : p x with
    | true => simp only [if_true]; rw [hE x hx q]; rfl
    | false => rfl
end Ev
set_option maxHeartbeats 1000000
namespace Ev
open PySem
mutual
def sm : PD → Bool
  | .none => true
  | .bool _ => true
  | .int i => decide (i.natAbs < 1000000000)
  | .str _ => false
  | .list xs => smAll xs
  | .tuple xs => smAll xs
  | .dict _ => false
def smAll : List PD → Bool
  | [] => true
  | x :: xs => sm x && smAll xs
end
mutual
def nods : PD → Nat
  | .none => 1
  | .bool _ => 1
  | .int _ => 1
  | .str _ => 1
  | .list xs => 1 + nodsAll xs
  | .tuple xs => 1 + nodsAll xs
  | .dict _ => 1
def nodsAll : List PD → Nat
  | [] => 0
  | x :: xs => nods x + nodsAll xs
end
theorem log_lt {n : Nat} (h : n < 1000000000) : n.log2 < 30 := by
  by_cases h0 : n = 0
  · subst h0; decide
  · exact (Nat.log2_lt h0).mpr (Nat.lt_of_lt_of_le h (by decide))
mutual
theorem sm_ok : ∀ d : PD, sm d = true → d.canLay0 = true ∧ d.showable = true ∧ d.leavesShort 13 = true ∧ d.weight + 1 ≤ 32 * nods d
  | .none, _ => ⟨rfl, rfl, rfl, by decide⟩
  | .bool _, _ => ⟨rfl, rfl, rfl, by simp [PyData.weight, nods]⟩
  | .int i, h => by
    have h1 : i.natAbs < 1000000000 := by simpa only [sm, decide_eq_true_eq] using h
    have h2 := log_lt h1
    refine ⟨rfl, ?_, ?_, ?_⟩
    · simp only [PyData.showable, decide_eq_true_eq]; omega
    · simp only [PyData.leavesShort, decide_eq_true_eq]
      exact PyData.shown_int_le (Nat.lt_of_lt_of_le h1 (by decide))
    · simp only [PyData.weight, nods]
      split <;> omega
  | .str _, h => by simp [sm] at h
  | .list xs, h => by
    obtain ⟨a, b, c, d⟩ := smAll_ok xs (by simpa only [sm] using h)
    exact ⟨by simpa only [PyData.canLay0] using a, by simpa only [PyData.showable] using b, by simpa only [PyData.leavesShort] using c, by simp only [PyData.weight, nods]; omega⟩
  | .tuple xs, h => by
    obtain ⟨a, b, c, d⟩ := smAll_ok xs (by simpa only [sm] using h)
    exact ⟨by simpa only [PyData.canLay0] using a, by simpa only [PyData.showable] using b, by simpa only [PyData.leavesShort] using c, by simp only [PyData.weight, nods]; omega⟩
  | .dict _, h => by simp [sm] at h
theorem smAll_ok : ∀ xs : List PD, smAll xs = true → PyData.canLayAll0 xs = true ∧ PyData.showableAll xs = true ∧ PyData.leavesShortAll 13 xs = true ∧ PyData.weightAll xs ≤ 32 * nodsAll xs
  | [], _ => ⟨rfl, rfl, rfl, by simp [PyData.weightAll, nodsAll]⟩
  | x :: xs, h => by
    have h' : sm x = true ∧ smAll xs = true := by simpa only [smAll, Bool.and_eq_true] using h
    obtain ⟨a, b, c, d⟩ := sm_ok x h'.1
    obtain ⟨a', b', c', d'⟩ := smAll_ok xs h'.2
    refine ⟨?_, ?_, ?_, ?_⟩
    · simp only [PyData.canLayAll0, a, a', Bool.and_self]
    · simp only [PyData.showableAll, b, b', Bool.and_self]
    · simp only [PyData.leavesShortAll, c, c', Bool.and_self]
    · simp only [PyData.weightAll, nodsAll]; omega
end
theorem okShow_of {d : PD} (h : sm d = true) (hd : d.depth ≤ 64) (hn : nods d ≤ 30000) : okShow d = true := by
  obtain ⟨a, b, c, e⟩ := sm_ok d h
  unfold okShow SeqAt.shaped
  have f := PyData.shown_fits (B := 13) (by omega) (by omega) c (show d.weight ≤ 2 ^ 20 by omega)
  rw [a, b, decide_eq_true hd, decide_eq_true (show d.shown.length ≤ line from f)]
  rfl
theorem same_refl {Δ : Dn} {a b : E} {ρ : EnvD} {st st1 st' : Store} {p : PD} (h1 : ev Δ a ρ st = .ok (.py p) st1) (h2 : ev Δ b ρ st1 = .ok (.py p) st') (h : okShow p = true) : ev Δ (.same a b) ρ st = .ok (.py (.bool true)) st' := by
  have e : ∀ s : Store, shw s (.py p) = some p := fun s => by
    unfold shw
    show (valF 6 s (.py p)).bind _ = _
    rw [valF_py, Option.bind_some, if_pos h]
  unfold ev
  rw [h1, Rs.bind_ok, e, Rs.of_some, Rs.bind_ok, h2, Rs.bind_ok, e, Rs.of_some, Rs.bind_ok]
  unfold sameP
  rw [if_pos rfl]; rfl
end Ev
set_option maxHeartbeats 1000000
namespace Ev
open PySem
def cellC : Ss := (.cons (.ife (.v (.cmp .lt (.var 1) (.bi .len (.cons (.var 0) .nil)))) (.cons (.ret (.ix (.var 0) (.var 1))) .nil) .nil) (.cons (.ret (.con (.int 0))) .nil))
abbrev rowB1 : Ss := (.cons (.ife (.and (.v (.cmp .gt (.var 0) (.con (.int 0)))) (.v (.cmp .lt (.bi .len (.cons (.var 3) .nil)) (.var 2)))) (.cons (.app (.var 3) (.bin .mod (.bi .int (.cons (.var 0) .nil)) (.con (.int 1000)))) (.cons (.set 0 (.bin .fdiv (.var 0) (.con (.int 1000)))) .nil)) .nil) (.cons (.drop [5]) .nil))
abbrev rowB2 : Ss := (.cons (.set 4 (.bin .mod (.bi .int (.cons (.bin .add (.bin .add (.bin .mul (.var 4) (.con (.int 16807))) (.bin .mul (.con (.int 7)) (.var 5))) (.con (.int 1))) .nil)) (.con (.int 2147483647)))) (.cons (.app (.var 3) (.bin .mod (.bi .int (.cons (.bin .fdiv (.var 4) (.con (.int 997))) .nil)) (.con (.int 1000)))) (.cons (.drop [5]) .nil)))
def rowC : Ss := (.cons (.set 3 (.cell (.lst .nil))) (.cons (.ife (.v (.cmp .lt (.var 0) (.con (.int 0)))) (.cons (.set 0 (.bin .sub (.con (.int 1)) (.bin .mul (.con (.int 2)) (.var 0)))) .nil) .nil) (.cons (.ife (.v (.cmp .ge (.var 0) (.bin .pow (.con (.int 10)) (.con (.int 18))))) (.cons (.for (.nm 5) (.rng (.con (.int 60))) (.cons (.ife (.and (.v (.cmp .gt (.var 0) (.con (.int 0)))) (.v (.cmp .lt (.bi .len (.cons (.var 3) .nil)) (.var 2)))) (.cons (.app (.var 3) (.bin .mod (.bi .int (.cons (.var 0) .nil)) (.con (.int 1000)))) (.cons (.set 0 (.bin .fdiv (.var 0) (.con (.int 1000)))) .nil)) .nil) (.cons (.drop [5]) .nil))) (.cons (.ret (.frz (.var 3))) .nil)) .nil) (.cons (.set 4 (.bin .mod (.bi .int (.cons (.bin .add (.bin .add (.bin .mul (.var 0) (.con (.int 48271))) (.bin .mul (.var 1) (.con (.int 69621)))) (.con (.int 11))) .nil)) (.con (.int 2147483647)))) (.cons (.for (.nm 5) (.rng (.var 2)) (.cons (.set 4 (.bin .mod (.bi .int (.cons (.bin .add (.bin .add (.bin .mul (.var 4) (.con (.int 16807))) (.bin .mul (.con (.int 7)) (.var 5))) (.con (.int 1))) .nil)) (.con (.int 2147483647)))) (.cons (.app (.var 3) (.bin .mod (.bi .int (.cons (.bin .fdiv (.var 4) (.con (.int 997))) .nil)) (.con (.int 1000)))) (.cons (.drop [5]) .nil)))) (.cons (.ret (.frz (.var 3))) .nil))))))
abbrev boxB (fc fr : Nat) : Ss := (.cons (.set 3 (.bin .add (.var 3) (.call fr (.cons (.call fc (.cons (.var 0) (.cons (.var 4) .nil))) (.cons (.var 4) (.cons (.con (.int 12)) .nil)))))) (.cons (.drop [4]) .nil))
def boxD (fc fr : Nat) : Ss := (.cons (.set 3 (.li (.lst .nil))) (.cons (.for (.nm 4) (.rng2 (.var 1) (.var 2)) (.cons (.set 3 (.bin .add (.var 3) (.call fr (.cons (.call fc (.cons (.var 0) (.cons (.var 4) .nil))) (.cons (.var 4) (.cons (.con (.int 12)) .nil)))))) (.cons (.drop [4]) .nil))) (.cons (.ret (.cell (.lst (.cons (.var 3) (.cons (.con (.int 0)) .nil))))) .nil)))
def drawC : Ss := (.cons (.set 2 (.ix (.var 0) (.con (.int 1)))) (.cons (.stI (.var 0) (.con (.int 1)) (.bin .add (.var 2) (.con (.int 1)))) (.cons (.ife (.v (.cmp .lt (.var 2) (.bi .len (.cons (.ix (.var 0) (.con (.int 0))) .nil)))) (.cons (.ret (.bin .mod (.bi .int (.cons (.ix (.ix (.var 0) (.con (.int 0))) (.var 2)) .nil)) (.var 1))) .nil) .nil) (.cons (.ret (.bin .mod (.bi .int (.cons (.bin .add (.bin .mul (.var 2) (.con (.int 7))) (.con (.int 3))) .nil)) (.var 1))) .nil))))
def sameC : Ss := (.cons (.ret (.same (.var 0) (.var 1))) .nil)
local macro_rules | `(tactic| walk_at "ev") => `(tactic| repeat' (with_reducible first
  | exact es_nil | exact e_con | exact e_var rfl | exact t_yes
  | (exact e_ref rfl (by assumption) (by intro p z; cases z))
  | apply es_cons | apply e_ix | apply e_bi | apply e_cmp | apply e_bin | apply e_tup | apply e_isc
  | apply t_b | apply t_and | apply t_or | apply t_nt
  | exact b_add | exact b_sub | (apply b_mulR; apply small_of <;> omega) | (apply b_mulL; apply small_of <;> omega) | (apply b_fdiv <;> omega) | (apply b_mod; omega)
  | exact c_lt | exact c_le | exact c_gt | exact c_ge | exact c_eqI | exact c_neI | exact n_int | exact n_abs | exact n_max2 | exact n_min2 | exact len_py | exact n_lenT))
def dv (row : List Int) (a : Nat) (m : Int) : Int := if a < row.length then row.getD a 0 % m else ((a : Int) * 7 + 3) % m
abbrev boxC (row : List Int) (a : Nat) : Cell := .lst [.py (.list (row.map .int)), .py (.int a)]
theorem draw_ok {Δ : Dn} {fu b : Nat} {st : Store} {row : List Int} {a : Nat} {m : Int} (hst : st[b]? = some (boxC row a)) (wf : WF st) (hm : 0 < m) :
    runFn Δ fu 2 3 drawC [.ref b, .py (.int m)] st = .ok (.py (.int (dv row a m))) (st.set b (boxC row (a + 1))) := by
  have hb : b < st.length := (List.getElem?_eq_some_iff.mp hst).1
  have hst2 : (st.set b (boxC row (a + 1)))[b]? = some (boxC row (a + 1)) := List.getElem?_set_self hb
  refine run_ret (ar := 2) (sl := 3) (b := drawC) (ρ := [some (.ref b), some (.py (.int m)), some (.py (.int a))]) rfl ?_ (trim_set wf rfl)
  unfold drawC
  show exs Δ fu _ [some (.ref b), some (.py (.int m)), none] st = _
  refine Eq.trans (st_nx (ρ' := [some (.ref b), some (.py (.int m)), some (.py (.int a))]) (st' := st) ?_) ?_
  · refine s_set (d := .py (.int a)) ?_
    refine e_ix (e_ref rfl hst (by intro p z; cases z)) e_con ?_
    simp only [getix, hst]
    rfl
  refine Eq.trans (st_nx (st' := st.set b (boxC row (a + 1))) (ρ' := [some (.ref b), some (.py (.int m)), some (.py (.int a))]) ?_) ?_
  · refine s_stI (z := .py (.int ((a : Int) + 1))) (st1 := st) ?_ (e_ref rfl hst (by intro p z; cases z)) e_con ?_
    · walk_at "ev"
    · simp only [setix, hst]
      rfl
  have hbox : ev Δ (.ix (.var 0) (.con (.int 0))) [some (D.ref b), some (D.py (.int m)), some (D.py (.int a))] (st.set b (boxC row (a + 1))) = .ok (.py (.list (row.map .int))) (st.set b (boxC row (a + 1))) := by
    refine e_ix (e_ref rfl hst2 (by intro p z; cases z)) e_con ?_
    simp only [getix, hst2]
    rfl
  have hlen : bi (st.set b (boxC row (a + 1))) .len [.py (.list (row.map .int))] = some (.py (.int row.length)) := by simp [bi, seqOf, Ev.listOf]
  by_cases h : a < row.length
  · refine st_fl (f := .rt _) ?_ (fun z => by cases z)
    refine (s_ift (st' := st.set b (boxC row (a + 1))) ?_).trans ?_
    · refine t_b (e_cmp (e_var rfl) (e_bi (es_cons hbox es_nil) hlen) ?_)
      show some (decide ((a : Int) < (row.length : Int))) = _
      simp [h]
    · refine st_fl (s_ret ?_) (fun z => by cases z)
      refine e_bin (e_bi (es_cons (e_ix hbox (e_var rfl) (z := .py (.int (row.getD a 0))) ?_) es_nil) rfl) (e_var rfl) ?_
      · simp only [getix, intOf, Option.bind_some, List.length_map, ixN_nat h, List.getElem?_map]
        simp [List.getElem?_eq_getElem h]
      · unfold dv
        rw [if_pos h]
        exact b_mod hm
  · refine Eq.trans (st_nx (st' := st.set b (boxC row (a + 1))) (ρ' := [some (.ref b), some (.py (.int m)), some (.py (.int a))]) ((s_iff (st' := st.set b (boxC row (a + 1))) ?_).trans s_nil)) ?_
    · refine t_b (e_cmp (e_var rfl) (e_bi (es_cons hbox es_nil) hlen) ?_)
      show some (decide ((a : Int) < (row.length : Int))) = _
      simp; omega
    refine st_fl (s_ret ?_) (fun z => by cases z)
    unfold dv
    rw [if_neg h]
    exact e_bin (e_bi (es_cons (e_bin (e_bin (e_var rfl) e_con (b_mulR (small_of (by omega) (by omega)))) e_con rfl) es_nil) rfl) (e_var rfl) (b_mod hm)
theorem cell_ok {Δ : Dn} {fu : Nat} {st : Store} {ns : List Int} {k : Nat} (wf : WF st) : runFn Δ fu 2 2 cellC [.scr ns, .py (.int k)] st = .ok (.py (.int (ns.getD k 0))) st := by
  have hlen : bi st .len [.scr ns] = some (.py (.int ns.length)) := rfl
  have ev0 : ∀ {ρ : EnvD}, ρ[0]? = some (some (.scr ns)) → ev Δ (.var 0) ρ st = .ok (.scr ns) st := fun {ρ} h => by
    unfold ev
    rw [h]
  refine run_ret (ar := 2) (sl := 2) (b := cellC) (ρ := [some (.scr ns), some (.py (.int k))]) rfl ?_ (trim_py0 wf)
  unfold cellC
  by_cases h : k < ns.length
  · refine st_fl (f := .rt _) ((s_ift (st' := st) ?_).trans (st_fl (s_ret ?_) (fun z => by cases z))) (fun z => by cases z)
    · refine t_b (e_cmp (e_var rfl) (e_bi (es_cons (ev0 rfl) es_nil) hlen) ?_)
      show some (decide ((k : Int) < (ns.length : Int))) = _
      simp [h]
    · refine e_ix (ev0 rfl) (e_var rfl) ?_
      simp only [getix, intOf, Option.bind_some, ixN_nat h]
      simp [List.getElem?_eq_getElem h]
  · refine Eq.trans (st_nx (st' := st) (ρ' := [some (.scr ns), some (.py (.int k))]) ((s_iff (st' := st) ?_).trans s_nil)) ?_
    · refine t_b (e_cmp (e_var rfl) (e_bi (es_cons (ev0 rfl) es_nil) hlen) ?_)
      show some (decide ((k : Int) < (ns.length : Int))) = _
      simp; omega
    · rw [show ns.getD k 0 = 0 by rw [List.getD_eq_getElem?_getD, List.getElem?_eq_none (by omega)]; rfl]
      exact st_fl (s_ret e_con) (fun z => by cases z)
def dig (l : List Int) : Prop := l.length ≤ 60 ∧ ∀ x ∈ l, 0 ≤ x ∧ x < 1000
abbrev lstI (l : List Int) : Cell := .lst (l.map fun i => .py (.int i))
theorem row_ok {Δ : Dn} {fu : Nat} {st : Store} {c : Int} {k : Nat} (wf : WF st) : ∃ l : List Int, runFn Δ fu 3 6 rowC [.py (.int c), .py (.int k), .py (.int 12)] st = .ok (.py (.list (l.map .int))) st ∧ dig l := by
  have ref3 : ∀ {ρ : EnvD} {l : List Int}, ρ[3]? = some (some (.ref st.length)) → ev Δ (.var 3) ρ (st ++ [lstI l]) = .ok (.ref st.length) (st ++ [lstI l]) := fun {ρ l} h => e_ref h (get_last _ _) (by intro p z; cases z)
  have fin : ∀ {l : List Int} {ρ : EnvD}, exs Δ fu rowC [some (.py (.int c)), some (.py (.int k)), some (.py (.int 12)), none, none, none] st = .go (.rt (.py (.list (l.map .int)))) ρ (st ++ [.frz (.list (l.map .int))]) → dig l →
      ∃ l : List Int, runFn Δ fu 3 6 rowC [.py (.int c), .py (.int k), .py (.int 12)] st = .ok (.py (.list (l.map .int))) st ∧ dig l := fun {l ρ} h hd => ⟨l, run_ret (ar := 3) (sl := 6) (b := rowC) rfl h (trim_py _ wf), hd⟩
  -- one more digit
  have push : ∀ {ρ : EnvD} {l : List Int} {e : E} {z : Int} {r : Ss}, ρ[3]? = some (some (.ref st.length)) → dig l → l.length < 60 → ev Δ e ρ (st ++ [lstI l]) = .ok (.py (.int z)) (st ++ [lstI l]) → 0 ≤ z → z < 1000 →
      exs Δ fu (.cons (.app (.var 3) e) r) ρ (st ++ [lstI l]) = exs Δ fu r ρ (st ++ [lstI (l ++ [z])]) ∧ dig (l ++ [z]) := fun {ρ l e z r} h3 hd hl he h0 h1 => by
    refine ⟨st_nx (s_app (ref3 h3) isLst_last he (app_last (show l.length < 16777216 by omega))), ?_, ?_⟩
    · rw [List.length_append]; simp; omega
    · intro x hx
      rcases List.mem_append.mp hx with hx | hx
      · exact hd.2 x hx
      · rw [List.mem_singleton.mp hx]; exact ⟨h0, h1⟩
  have e1 : ∃ c' : Int, ex Δ fu (.ife (.v (.cmp .lt (.var 0) (.con (.int 0)))) (.cons (.set 0 (.bin .sub (.con (.int 1)) (.bin .mul (.con (.int 2)) (.var 0)))) .nil) .nil) [some (.py (.int c)), some (.py (.int k)), some (.py (.int 12)), some (.ref st.length), none, none] (st ++ [lstI []])
      = .go .nx [some (.py (.int c')), some (.py (.int k)), some (.py (.int 12)), some (.ref st.length), none, none] (st ++ [lstI []]) := by
    by_cases h : c < 0
    · refine ⟨1 - 2 * c, (s_ift (st' := st ++ [lstI []]) (t_b (e_cmp (e_var rfl) e_con (by rw [c_lt, decide_eq_true h])))).trans ?_⟩
      refine (st_nx (s_set ?_)).trans s_nil
      walk_at "ev"
    · exact ⟨c, (s_iff (st' := st ++ [lstI []]) (t_b (e_cmp (e_var rfl) e_con (by rw [c_lt, decide_eq_false h])))).trans s_nil⟩
  obtain ⟨c', e1⟩ := e1
  have ge : ∀ {b : Bool}, decide ((1000000000000000000 : Int) ≤ c') = b → evT Δ (.v (.cmp .ge (.var 0) (.bin .pow (.con (.int 10)) (.con (.int 18))))) [some (.py (.int c')), some (.py (.int k)), some (.py (.int 12)), some (.ref st.length), none, none] (st ++ [lstI []]) = .ok b (st ++ [lstI []]) := fun {b} h => by
    refine t_b (e_cmp (e_var rfl) (e_bin e_con e_con ten18) ?_)
    rw [c_ge, h]
  by_cases h : (1000000000000000000 : Int) ≤ c'
  · -- by digits
    have lp := for_inv (f := fun d ρ st => bindT (.nm 5) st d ρ (exs Δ fu rowB1))
      (fun i ρ s => ∃ (a : Int) (l : List Int), ρ = [some (.py (.int a)), some (.py (.int k)), some (.py (.int 12)), some (.ref st.length), none, none] ∧ s = st ++ [lstI l] ∧ dig l ∧ l.length ≤ i) (rangeD 0 60) 0
      (ρ := [some (.py (.int c')), some (.py (.int k)), some (.py (.int 12)), some (.ref st.length), none, none]) (st := st ++ [lstI []]) (fun j d ρ s hj ⟨a, l, e1, e2, hd, hlj⟩ => by
        obtain ⟨hj, rfl⟩ := rangeD_at hj
        subst e1 e2
        rw [bind_nm]
        simp only [List.set_cons_succ, List.set_cons_zero]
        have tst : ∀ {b b' : Bool}, decide (0 < a) = b → decide ((l.length : Int) < 12) = b' → evT Δ (.and (.v (.cmp .gt (.var 0) (.con (.int 0)))) (.v (.cmp .lt (.bi .len (.cons (.var 3) .nil)) (.var 2)))) [some (.py (.int a)), some (.py (.int k)), some (.py (.int 12)), some (.ref st.length), none, some (.py (.int (0 + j)))] (st ++ [lstI l]) = .ok (b && b') (st ++ [lstI l]) := fun {b b'} h1 h2 => by
          refine t_and (t_b (e_cmp (e_var rfl) e_con (by rw [c_gt, h1]))) (fun _ => t_b (e_cmp (e_bi (es_cons (ref3 rfl) es_nil) len_last) (e_var rfl) (by rw [c_lt, List.length_map, h2]))) fun _ => rfl
        by_cases q : 0 < a ∧ (l.length : Int) < 12
        · obtain ⟨q1, q2⟩ := push (ρ := [some (.py (.int a)), some (.py (.int k)), some (.py (.int 12)), some (.ref st.length), none, some (.py (.int (0 + j)))]) (l := l) (e := .bin .mod (.bi .int (.cons (.var 0) .nil)) (.con (.int 1000))) (z := a % 1000) (r := .cons (.set 0 (.bin .fdiv (.var 0) (.con (.int 1000)))) .nil) rfl hd (by omega) (by walk_at "ev") (by omega) (by omega)
          refine ⟨_, _, (st_nx ((s_ift ((tst (decide_eq_true q.1) (decide_eq_true q.2)).trans rfl)).trans (q1.trans ((st_nx (s_set (by walk_at "ev"))).trans s_nil)))).trans (st_drop.trans s_nil), a / 1000, l ++ [a % 1000], rfl, rfl, q2, by rw [List.length_append]; simp; omega⟩
        · refine ⟨_, _, (st_nx ((s_iff ((tst rfl rfl).trans ?_)).trans s_nil)).trans (st_drop.trans s_nil), a, l, rfl, rfl, hd, by omega⟩
          rw [← Bool.decide_and, decide_eq_false q]) ⟨c', [], rfl, rfl, ⟨by decide, by simp⟩, by simp⟩
    obtain ⟨ρ', st', hl, a, l, rfl, rfl, hd, _⟩ := lp
    refine fin (l := l) (ρ := [some (.py (.int a)), some (.py (.int k)), some (.py (.int 12)), some (.ref st.length), none, none]) ?_ hd
    refine (st_nx (s_set (e_cell (l_lst es_nil (by decide))))).trans ((st_nx e1).trans (st_fl (f := .rt _) ((s_ift (ge (decide_eq_true h))).trans ((st_nx ((s_for (i_rng e_con (by decide))).trans hl)).trans (st_fl (s_ret (e_frz_ints (ref3 rfl))) (fun z => by cases z)))) (fun z => by cases z)))
  · have lp := for_inv (f := fun d ρ st => bindT (.nm 5) st d ρ (exs Δ fu rowB2))
      (fun i ρ s => ∃ (a : Int) (l : List Int), ρ = [some (.py (.int c')), some (.py (.int k)), some (.py (.int 12)), some (.ref st.length), some (.py (.int a)), none] ∧ s = st ++ [lstI l] ∧ dig l ∧ l.length ≤ i) (rangeD 0 12) 0
      (ρ := [some (.py (.int c')), some (.py (.int k)), some (.py (.int 12)), some (.ref st.length), some (.py (.int ((c' * 48271 + k * 69621 + 11) % 2147483647))), none]) (st := st ++ [lstI []]) (fun j d ρ s hj ⟨a, l, e1, e2, hd, hlj⟩ => by
        obtain ⟨hj, rfl⟩ := rangeD_at hj
        subst e1 e2
        rw [bind_nm]
        simp only [List.set_cons_succ, List.set_cons_zero]
        obtain ⟨q1, q2⟩ := push (ρ := [some (.py (.int c')), some (.py (.int k)), some (.py (.int 12)), some (.ref st.length), some (.py (.int ((a * 16807 + 7 * (0 + j) + 1) % 2147483647))), some (.py (.int (0 + j)))]) (l := l) (e := .bin .mod (.bi .int (.cons (.bin .fdiv (.var 4) (.con (.int 997))) .nil)) (.con (.int 1000))) (z := ((a * 16807 + 7 * (0 + j) + 1) % 2147483647) / 997 % 1000) (r := .cons (.drop [5]) .nil) rfl hd (by omega) (by walk_at "ev") (by omega) (by omega)
        exact ⟨_, _, (st_nx (s_set (by walk_at "ev"))).trans (q1.trans (st_drop.trans s_nil)), (a * 16807 + 7 * (0 + j) + 1) % 2147483647, l ++ [_], rfl, rfl, q2, by rw [List.length_append]; simp; omega⟩) ⟨_, [], rfl, rfl, ⟨by decide, by simp⟩, by simp⟩
    obtain ⟨ρ', st', hl, a, l, rfl, rfl, hd, _⟩ := lp
    refine fin (l := l) (ρ := [some (.py (.int c')), some (.py (.int k)), some (.py (.int 12)), some (.ref st.length), some (.py (.int a)), none]) ?_ hd
    refine (st_nx (s_set (e_cell (l_lst es_nil (by decide))))).trans ((st_nx e1).trans ((st_nx ((s_iff (ge (decide_eq_false h))).trans s_nil)).trans ((st_nx (s_set (d := .py (.int ((c' * 48271 + k * 69621 + 11) % 2147483647))) ?_)).trans ((st_nx ((s_for (i_rng (e_var rfl) (by decide))).trans hl)).trans (st_fl (s_ret (e_frz_ints (ref3 rfl))) (fun z => by cases z))))))
    walk_at "ev"
/-- the drawn digits -/
theorem box_ok {Δ : Dn} {fu fc fr N : Nat} {st : Store} {ns : List Int} (hN : N ≤ 63) (hc : ∀ k : Nat, Δ fc [.scr ns, .py (.int k)] st = .ok (.py (.int (ns.getD k 0))) st) (hr : ∀ (c : Int) (k : Nat), ∃ l : List Int, Δ fr [.py (.int c), .py (.int k), .py (.int 12)] st = .ok (.py (.list (l.map .int))) st ∧ dig l) :
    ∃ l : List Int, runFn Δ fu 3 5 (boxD fc fr) [.scr ns, .py (.int 0), .py (.int N)] st = .ok (.ref st.length) (st ++ [boxC l 0]) ∧ (∀ x ∈ l, 0 ≤ x ∧ x < 1000) := by
  have ev0 : ∀ {ρ : EnvD} {s : Store}, ρ[0]? = some (some (.scr ns)) → ev Δ (.var 0) ρ s = .ok (.scr ns) s := fun {ρ s} h => by
    unfold ev
    rw [h]
  have lp := for_inv (f := fun d ρ st => bindT (.nm 4) st d ρ (exs Δ fu (boxB fc fr)))
    (fun i ρ s => ∃ (l : List Int), ρ = [some (.scr ns), some (.py (.int 0)), some (.py (.int N)), some (.py (.list (l.map .int))), none] ∧ s = st ∧ l.length ≤ 60 * i ∧ ∀ x ∈ l, 0 ≤ x ∧ x < 1000) (rangeD 0 N) 0
    (ρ := [some (.scr ns), some (.py (.int 0)), some (.py (.int N)), some (.py (.list [])), none]) (st := st) (fun j d ρ s hj ⟨l, e1, e2, hl, hx⟩ => by
      obtain ⟨hj', rfl⟩ := rangeD_at hj
      subst e1 e2
      rw [bind_nm]
      simp only [List.set_cons_succ, List.set_cons_zero]
      obtain ⟨l', h1, h2, h3⟩ := hr (ns.getD j 0) j
      have hj2 : j < N := by omega
      have z : (0 + (j : Int)) = (j : Int) := Int.zero_add _
      rw [z]
      refine ⟨_, _, (st_nx (s_set (e_bin (e_var rfl) (e_call (es_cons (e_call (es_cons (ev0 rfl) (es_cons (e_var rfl) es_nil)) (hc j)) (es_cons (e_var rfl) (es_cons e_con es_nil))) h1) (b_ladd ?_)))).trans (st_drop.trans s_nil), l ++ l', by simp [wipe], rfl, by rw [List.length_append]; omega, ?_⟩
      · rw [List.length_map, List.length_map]
        show _ ≤ 16777216
        omega
      · intro y hy
        exact (List.mem_append.mp hy).elim (hx y) (h3 y)) ⟨[], rfl, rfl, by simp, by simp⟩
  obtain ⟨ρ', st', hl, l, e1, e2, _, hx⟩ := lp
  rw [e1, e2] at hl
  refine ⟨l, ?_, hx⟩
  have fitN : fit (N : Int) = true := by
    unfold fit
    rw [decide_eq_true (show -(2 ^ 62 : Int) ≤ N by omega), decide_eq_true (show (N : Int) < (2 ^ 62 : Int) by omega)]; rfl
  exact run_any (ar := 3) (sl := 5) (b := boxD fc fr) rfl ((st_nx (s_set (e_li (l_lst es_nil (by decide)) rfl))).trans ((st_nx ((s_for (i_rng2 (e_var rfl) (e_var rfl) (by decide) fitN)).trans hl)).trans (st_fl (s_ret (e_cell (l_lst (es_cons (e_var rfl) (es_cons e_con es_nil)) (show 2 ≤ 16777216 by decide)))) (fun z => by cases z)))) trim_ref
theorem same_run {Δ : Dn} {fu : Nat} {st : Store} {p : PD} (wf : WF st) (h : okShow p = true) : runFn Δ fu 2 2 sameC [.py p, .py p] st = .ok (.py (.bool true)) st := by
  refine run_ret (ar := 2) (sl := 2) (b := sameC) (ρ := [some (.py p), some (.py p)]) rfl ?_ (trim_py0 wf)
  exact st_fl (s_ret (same_refl (e_var rfl) (e_var rfl) h)) (fun z => by cases z)
end Ev
set_option maxHeartbeats 1000000
namespace Kx
def addAt : Nat → List Int → List Int
  | _, [] => []
  | 0, x :: r => (x + 1) :: r
  | j + 1, x :: r => x :: addAt j r
def lexL : List Int → List Int → Bool
  | [], [] => false
  | [], _ :: _ => true
  | _ :: _, [] => false
  | x :: xs, y :: ys => if x = y then lexL xs ys else decide (x < y)
abbrev Lb := Int × List Int
def ltR (a b : Lb) : Bool := if a.1 = b.1 then lexL a.2 b.2 else decide (a.1 < b.1)
def leR (a b : Lb) : Prop := ltR b a = false
theorem lexL_irrefl : ∀ r : List Int, lexL r r = false
  | [] => rfl
  | x :: r => by unfold lexL; rw [if_pos rfl]; exact lexL_irrefl r
theorem lexL_trans : ∀ {a b c : List Int}, lexL a b = true → lexL b c = true → lexL a c = true
  | [], [], _, h, _ => by simp [lexL] at h
  | [], _ :: _, [], _, h => by simp [lexL] at h
  | [], _ :: _, _ :: _, _, _ => rfl
  | _ :: _, [], _, h, _ => by simp [lexL] at h
  | _ :: _, _ :: _, [], _, h => by simp [lexL] at h
  | x :: a, y :: b, z :: c, h1, h2 => by
    unfold lexL at h1 h2 ⊢
    by_cases e1 : x = y
    · subst e1
      rw [if_pos rfl] at h1
      by_cases e2 : x = z
      · subst e2
        rw [if_pos rfl] at h2 ⊢
        exact lexL_trans h1 h2
      · rw [if_neg e2] at h2 ⊢; exact h2
    · rw [if_neg e1, decide_eq_true_eq] at h1
      by_cases e2 : y = z
      · subst e2
        rw [if_neg e1, decide_eq_true_eq]; exact h1
      · rw [if_neg e2, decide_eq_true_eq] at h2
        rw [if_neg (by omega), decide_eq_true_eq]; omega
theorem lexL_tri : ∀ {a b : List Int}, lexL a b = false → lexL b a = false → a = b
  | [], [], _, _ => rfl
  | [], _ :: _, h, _ => by simp [lexL] at h
  | _ :: _, [], _, h => by simp [lexL] at h
  | x :: a, y :: b, h1, h2 => by
    unfold lexL at h1 h2
    by_cases e : x = y
    · subst e
      rw [if_pos rfl] at h1 h2
      rw [lexL_tri h1 h2]
    · rw [if_neg e, decide_eq_false_iff_not] at h1
      rw [if_neg (Ne.symm e), decide_eq_false_iff_not] at h2
      omega
theorem ltR_irrefl (a : Lb) : ltR a a = false := by unfold ltR; rw [if_pos rfl]; exact lexL_irrefl _
theorem ltR_trans {a b c : Lb} (h1 : ltR a b = true) (h2 : ltR b c = true) : ltR a c = true := by
  unfold ltR at h1 h2 ⊢
  by_cases e1 : a.1 = b.1
  · rw [if_pos e1] at h1
    by_cases e2 : b.1 = c.1
    · rw [if_pos e2] at h2
      rw [if_pos (e1.trans e2)]
      exact lexL_trans h1 h2
    · rw [if_neg e2] at h2
      rw [if_neg (by omega)]
      rw [decide_eq_true_eq] at h2 ⊢
      omega
  · rw [if_neg e1, decide_eq_true_eq] at h1
    by_cases e2 : b.1 = c.1
    · rw [if_neg (by omega), decide_eq_true_eq]; omega
    · rw [if_neg e2, decide_eq_true_eq] at h2
      rw [if_neg (by omega), decide_eq_true_eq]; omega
theorem ltR_tri {a b : Lb} (h1 : ltR a b = false) (h2 : ltR b a = false) : a = b := by
  unfold ltR at h1 h2
  by_cases e : a.1 = b.1
  · rw [if_pos e] at h1
    rw [if_pos e.symm] at h2
    exact Prod.ext e (lexL_tri h1 h2)
  · rw [if_neg e, decide_eq_false_iff_not] at h1
    rw [if_neg (Ne.symm e), decide_eq_false_iff_not] at h2
    omega
theorem leR_refl (a : Lb) : leR a a := ltR_irrefl a
theorem leR_of {a b : Lb} (h : ltR a b = true) : leR a b := by
  unfold leR
  cases e : ltR b a with
  | false => rfl
  | true => have := ltR_trans h e; rw [ltR_irrefl] at this; cases this
theorem leR_cases {a b : Lb} (h : leR a b) : ltR a b = true ∨ a = b := by
  cases e : ltR a b with
  | true => exact .inl rfl
  | false => exact .inr (ltR_tri e h)
theorem leR_trans {a b c : Lb} (h1 : leR a b) (h2 : leR b c) : leR a c := by
  rcases leR_cases h1 with h1 | rfl
  · rcases leR_cases h2 with h2 | rfl
    · exact leR_of (ltR_trans h1 h2)
    · exact leR_of h1
  · exact h2
theorem leR_tot (a b : Lb) : leR a b ∨ ltR b a = true := by
  unfold leR
  cases ltR b a <;> simp
theorem leR_anti {a b : Lb} (h1 : leR a b) (h2 : leR b a) : a = b := ltR_tri h2 h1
theorem length_addAt : ∀ (j : Nat) (r : List Int), (addAt j r).length = r.length
  | _, [] => by cases ‹Nat› <;> rfl
  | 0, _ :: _ => rfl
  | j + 1, x :: r => by show (x :: addAt j r).length = _; rw [List.length_cons, length_addAt j r]; rfl
theorem lexL_addAt : ∀ (j : Nat) {r s : List Int}, r.length = s.length → lexL (addAt j r) (addAt j s) = lexL r s
  | _, [], [], _ => by cases ‹Nat› <;> rfl
  | _, [], _ :: _, h => by simp at h
  | _, _ :: _, [], h => by simp at h
  | 0, x :: r, y :: s, h => by
    show lexL ((x + 1) :: r) ((y + 1) :: s) = lexL (x :: r) (y :: s)
    unfold lexL
    by_cases e : x = y
    · rw [if_pos e, if_pos (by omega)]
    · rw [if_neg e, if_neg (by omega)]
      exact decide_eq_decide.mpr (by omega)
  | j + 1, x :: r, y :: s, h => by
    show lexL (x :: addAt j r) (y :: addAt j s) = lexL (x :: r) (y :: s)
    unfold lexL
    rw [lexL_addAt j (by simpa using h)]
theorem leR_addAt {j : Nat} {a b : Lb} (h : a.2.length = b.2.length) (hl : leR a b) : leR (a.1 + 1, addAt j a.2) (b.1 + 1, addAt j b.2) := by
  unfold leR ltR at hl ⊢
  simp only
  rw [lexL_addAt j h.symm]
  by_cases e : b.1 = a.1
  · rw [if_pos e] at hl
    rw [if_pos (by omega)]; exact hl
  · rw [if_neg e] at hl
    rw [if_neg (by omega), ← hl]
    exact decide_eq_decide.mpr (by omega)
theorem sum_addAt : ∀ {j : Nat} {r : List Int}, j < r.length → (addAt j r).sum = r.sum + 1
  | _, [], h => by simp at h
  | 0, x :: r, _ => by show ((x + 1) :: r).sum = _; rw [List.sum_cons, List.sum_cons]; omega
  | j + 1, x :: r, h => by
    show (x :: addAt j r).sum = _
    rw [List.sum_cons, List.sum_cons, sum_addAt (by simpa using h)]; omega
abbrev Ps := List (List Int)
def combI : Ps → List Int → Nat → Int
  | p :: P, x :: r, i => x * p.getD i 0 + combI P r i
  | _, _, _ => 0
theorem combI_addAt : ∀ {P : Ps} {r : List Int} {j : Nat} {p : List Int} (i : Nat), r.length = P.length → P[j]? = some p → combI P (addAt j r) i = combI P r i + p.getD i 0
  | [], _, _, _, _, _, h => by simp at h
  | _ :: _, [], _, _, _, h, _ => by simp at h
  | q :: P, x :: r, 0, p, i, h, e => by
    have e : q = p := by simpa using e
    subst e
    show (x + 1) * q.getD i 0 + combI P r i = x * q.getD i 0 + combI P r i + q.getD i 0
    rw [Int.add_mul, Int.one_mul]; omega
  | q :: P, x :: r, j + 1, p, i, h, e => by
    show x * q.getD i 0 + combI P (addAt j r) i = x * q.getD i 0 + combI P r i + p.getD i 0
    rw [combI_addAt i (by simpa using h) (by simpa using e)]; omega
def zer (P : Ps) : List Int := P.map fun _ => 0
theorem combI_zer : ∀ (P : Ps) (i : Nat), combI P (zer P) i = 0
  | [], _ => rfl
  | p :: P, i => by
    show 0 * p.getD i 0 + combI P (zer P) i = 0
    rw [combI_zer P i]; omega
theorem sum_zer : ∀ P : Ps, (zer P).sum = 0
  | [] => rfl
  | p :: P => by show ((0 : Int) :: zer P).sum = 0; rw [List.sum_cons, sum_zer P]; rfl
def hasPos (p : List Int) : Bool := p.any fun c => decide (0 < c)
def RowOk : Ps → List Int → Prop
  | [], [] => True
  | p :: P, x :: r => 0 ≤ x ∧ (hasPos p = false → x = 0) ∧ RowOk P r
  | _, _ => False
theorem RowOk.len : ∀ {P : Ps} {r : List Int}, RowOk P r → r.length = P.length
  | [], [], _ => rfl
  | [], _ :: _, h => h.elim
  | _ :: _, [], h => h.elim
  | p :: P, x :: r, h => by rw [List.length_cons, List.length_cons, RowOk.len h.2.2]
theorem RowOk.zer : ∀ P : Ps, RowOk P (zer P)
  | [] => trivial
  | p :: P => ⟨Int.le_refl 0, fun _ => rfl, RowOk.zer P⟩
theorem RowOk.add : ∀ {P : Ps} {r : List Int} {j : Nat} {p : List Int}, RowOk P r → P[j]? = some p → hasPos p = true → RowOk P (addAt j r)
  | [], _, _, _, _, h, _ => by simp at h
  | _ :: _, [], _, _, h, _, _ => h.elim
  | q :: P, x :: r, 0, p, h, e, hp => by
    have e : q = p := by simpa using e
    subst e
    exact ⟨by have := h.1; omega, (fun z => by rw [hp] at z; cases z), h.2.2⟩
  | q :: P, x :: r, j + 1, p, h, e, hp => ⟨h.1, h.2.1, RowOk.add h.2.2 (by simpa using e) hp⟩
theorem RowOk.nonneg : ∀ {P : Ps} {r : List Int}, RowOk P r → 0 ≤ r.sum
  | [], [], _ => Int.le_refl 0
  | [], _ :: _, h => h.elim
  | _ :: _, [], h => h.elim
  | p :: P, x :: r, h => by have := h.1; have := RowOk.nonneg h.2.2; rw [List.sum_cons]; omega
/-- a row is all zeros, or one side more than another -/
theorem RowOk.split : ∀ {P : Ps} {r : List Int}, RowOk P r → r = Kx.zer P ∨ ∃ (j : Nat) (p r' : List Int), P[j]? = some p ∧ hasPos p = true ∧ r = addAt j r' ∧ RowOk P r' ∧ r'.sum + 1 = r.sum
  | [], [], _ => .inl rfl
  | [], _ :: _, h => h.elim
  | _ :: _, [], h => h.elim
  | p :: P, x :: r, h => by
    obtain ⟨h1, h2, h3⟩ := h
    by_cases hx : x = 0
    · subst hx
      rcases RowOk.split h3 with e | ⟨j, q, r', e1, e2, e3, e4, e5⟩
      · exact .inl (by rw [e]; rfl)
      · exact .inr ⟨j + 1, q, 0 :: r', by simpa using e1, e2, by rw [e3]; rfl, ⟨Int.le_refl 0, fun _ => rfl, e4⟩, by rw [List.sum_cons, List.sum_cons]; omega⟩
    · have hp : hasPos p = true := by
        cases q : hasPos p with
        | true => rfl
        | false => exact absurd (h2 q) hx
      refine .inr ⟨0, p, (x - 1) :: r, rfl, hp, ?_, ⟨by omega, (fun z => by rw [hp] at z; cases z), h3⟩, by rw [List.sum_cons, List.sum_cons]; omega⟩
      show x :: r = (x - 1 + 1) :: r
      rw [Int.sub_add_cancel]
def sub (x p : List Int) : List Int := List.zipWith (fun a b => a - b) x p
def above (x p : List Int) : Bool := (List.zipWith (fun a b => decide (b ≤ a)) x p).all id
theorem sub_len {x p : List Int} (h : x.length = p.length) : (sub x p).length = p.length := by unfold sub; rw [List.length_zipWith, h, Nat.min_self]
theorem sub_at {x p : List Int} (h : x.length = p.length) (i : Nat) : (sub x p).getD i 0 = x.getD i 0 - p.getD i 0 := by
  unfold sub
  simp only [List.getD_eq_getElem?_getD, List.getElem?_zipWith]
  by_cases hi : i < x.length
  · rw [List.getElem?_eq_getElem hi, List.getElem?_eq_getElem (by omega)]; rfl
  · rw [List.getElem?_eq_none (by omega), List.getElem?_eq_none (by omega)]; rfl
theorem above_iff {x p : List Int} (h : x.length = p.length) : above x p = true ↔ ∀ i, i < p.length → p.getD i 0 ≤ x.getD i 0 := by
  unfold above
  rw [List.all_eq_true]
  constructor
  · intro q i hi
    have := q (decide (p.getD i 0 ≤ x.getD i 0)) (by
      rw [List.mem_iff_getElem?]
      refine ⟨i, ?_⟩
      rw [List.getElem?_zipWith, List.getElem?_eq_getElem (show i < x.length by omega), List.getElem?_eq_getElem hi]
      simp [List.getD_eq_getElem?_getD, List.getElem?_eq_getElem (show i < x.length by omega), List.getElem?_eq_getElem hi])
    simpa using this
  · intro q b hb
    obtain ⟨i, hi⟩ := List.mem_iff_getElem?.mp hb
    rw [List.getElem?_zipWith] at hi
    by_cases hx : i < x.length
    · have hp : i < p.length := by omega
      rw [List.getElem?_eq_getElem hx, List.getElem?_eq_getElem hp] at hi
      have := q i hp
      simp [List.getD_eq_getElem?_getD, List.getElem?_eq_getElem hx, List.getElem?_eq_getElem hp] at this
      simp at hi
      rw [← hi]
      simpa using this
    · rw [List.getElem?_eq_none (by omega)] at hi
      simp at hi
theorem ext_at {x y : List Int} (h : x.length = y.length) (q : ∀ i, i < y.length → x.getD i 0 = y.getD i 0) : x = y := by
  apply List.ext_getElem h
  intro i h1 h2
  have := q i h2
  simpa [List.getD_eq_getElem?_getD, List.getElem?_eq_getElem h1, List.getElem?_eq_getElem h2] using this
theorem hasPos_iff {p : List Int} : hasPos p = true ↔ ∃ i, i < p.length ∧ 0 < p.getD i 0 := by
  unfold hasPos
  rw [List.any_eq_true]
  constructor
  · rintro ⟨x, hx, h⟩
    obtain ⟨i, hi, e⟩ := List.getElem_of_mem hx
    refine ⟨i, hi, ?_⟩
    rw [List.getD_eq_getElem?_getD, List.getElem?_eq_getElem hi, e]
    simpa using h
  · rintro ⟨i, hi, h⟩
    refine ⟨p[i], List.getElem_mem hi, ?_⟩
    rw [List.getD_eq_getElem?_getD, List.getElem?_eq_getElem hi] at h
    simpa using h
/-- the patterns: rows of g counts from 0 on -/
def PsOk (g : Nat) (P : Ps) : Prop := ∀ p ∈ P, p.length = g ∧ ∀ i, 0 ≤ p.getD i 0
theorem combI_nonneg {g : Nat} : ∀ {P : Ps} {r : List Int} (i : Nat), PsOk g P → RowOk P r → 0 ≤ combI P r i
  | [], [], _, _, _ => Int.le_refl 0
  | [], _ :: _, _, _, h => h.elim
  | _ :: _, [], _, _, h => h.elim
  | p :: P, x :: r, i, hp, h => by
    have h1 := (hp p List.mem_cons_self).2 i
    have h2 := Int.mul_nonneg h.1 h1
    have h3 := combI_nonneg (P := P) (r := r) i (fun q hq => hp q (List.mem_cons_of_mem _ hq)) h.2.2
    show 0 ≤ x * p.getD i 0 + combI P r i
    omega
/-- all rows of numbers up to 20 -/
def cand : Nat → List (List Int)
  | 0 => [[]]
  | k + 1 => (cand k).flatMap fun r => (List.range 21).map fun (x : Nat) => (x : Int) :: r
theorem cand_len : ∀ k, (cand k).length = 21 ^ k
  | 0 => rfl
  | k + 1 => by
    unfold cand
    rw [List.length_flatMap]
    have : (cand k).map (fun r => ((List.range 21).map fun (x : Nat) => (x : Int) :: r).length) = (cand k).map fun _ => 21 := List.map_congr_left fun r _ => by simp
    rw [this, List.map_const', List.sum_replicate_nat, cand_len k, Nat.pow_succ]
theorem mem_cand : ∀ {r : List Int}, (∀ x ∈ r, 0 ≤ x ∧ x ≤ 20) → r ∈ cand r.length
  | [], _ => List.mem_cons_self
  | x :: r, h => by
    have h1 := h x List.mem_cons_self
    unfold cand
    refine List.mem_flatMap.mpr ⟨r, mem_cand fun y hy => h y (List.mem_cons_of_mem _ hy), List.mem_map.mpr ⟨x.toNat, List.mem_range.mpr (by omega), ?_⟩⟩
    rw [Int.toNat_of_nonneg h1.1]
theorem row_small {g : Nat} : ∀ {P : Ps} {r : List Int}, PsOk g P → RowOk P r → (∀ i, i < g → combI P r i ≤ 20) → ∀ x ∈ r, 0 ≤ x ∧ x ≤ 20
  | [], [], _, _, _ => fun x hx => by cases hx
  | [], _ :: _, _, h, _ => h.elim
  | _ :: _, [], _, h, _ => h.elim
  | p :: P, y :: r, hp, h, hc => fun x hx => by
    have hP : PsOk g P := fun q hq => hp q (List.mem_cons_of_mem _ hq)
    have hpp := hp p List.mem_cons_self
    rcases List.mem_cons.mp hx with rfl | hx
    · refine ⟨h.1, ?_⟩
      cases q : hasPos p with
      | false => rw [h.2.1 q]; decide
      | true =>
        obtain ⟨i, hi, h2⟩ := hasPos_iff.mp q
        rw [hpp.1] at hi
        have h3 : x * p.getD i 0 + combI P r i ≤ 20 := hc i hi
        have h4 := combI_nonneg i hP h.2.2
        have h5 : x * 1 ≤ x * p.getD i 0 := Int.mul_le_mul_of_nonneg_left (by omega) h.1
        omega
    · refine row_small hP h.2.2 (fun i hi => ?_) x hx
      have h3 : y * p.getD i 0 + combI P r i ≤ 20 := hc i hi
      have h4 := Int.mul_nonneg h.1 (hpp.2 i)
      omega
theorem nodup_len : ∀ {l m : List (List Int)}, l.Nodup → (∀ x ∈ l, x ∈ m) → l.length ≤ m.length
  | [], _, _, _ => Nat.zero_le _
  | a :: l, m, h, hs => by
    rw [List.nodup_cons] at h
    have ha := hs a List.mem_cons_self
    have ih := nodup_len (l := l) (m := m.erase a) h.2 fun x hx => (List.mem_erase_of_ne (fun e : x = a => h.1 (by rw [← e]; exact hx))).mpr (hs x (List.mem_cons_of_mem _ hx))
    rw [List.length_erase_of_mem ha] at ih
    have := List.length_pos_of_mem ha
    rw [List.length_cons]; omega
end Kx
set_option maxHeartbeats 1000000
namespace Kx
abbrev LF := List Int → Option Lb
def updL (L : LF) (a : List Int) (v : Lb) : LF := fun x => if x = a then some v else L x
/-- v tells the sides with which x is what is left of o -/
structure Tells (P : Ps) (g : Nat) (o x : List Int) (v : Lb) : Prop where
  len : x.length = g
  nn : ∀ i, 0 ≤ x.getD i 0
  sum : v.1 = v.2.sum
  row : RowOk P v.2
  at_ : ∀ i, i < g → x.getD i 0 = o.getD i 0 - combI P v.2 i
structure Inv (P : Ps) (g : Nat) (o : List Int) (L : LF) (W : List (List Int)) (best : Option Lb) (U : List (List Int)) : Prop where
  a : ∃ v, L o = some v ∧ leR v (0, zer P)
  b : ∀ x v, L x = some v → Tells P g o x v
  c : ∀ x ∈ W, ∃ v, L x = some v
  e : ∀ b, best = some b → b.1 = b.2.sum ∧ RowOk P b.2 ∧ ∀ i, i < g → combI P b.2 i = o.getD i 0
  nd : U.Nodup
  cd : ∀ u ∈ U, u ∈ cand P.length
  f : ∀ u ∈ U, ∃ v x, L x = some v ∧ x.length = g ∧ (∀ i, i < g → x.getD i 0 = o.getD i 0 - combI P u i) ∧ leR v (u.sum, u)
def ClAt (L : LF) (x : List Int) (v : Lb) (j : Nat) (p : List Int) : Prop := hasPos p = true → above x p = true → ∃ v', L (sub x p) = some v' ∧ leR v' (v.1 + 1, addAt j v.2)
def Cl (P : Ps) (L : LF) (x : List Int) (v : Lb) : Prop := ∀ j p, P[j]? = some p → ClAt L x v j p
def Cz (best : Option Lb) (x : List Int) (v : Lb) : Prop := hasPos x = false → ∃ b, best = some b ∧ leR b v
structure Outer (P : Ps) (g : Nat) (o : List Int) (L : LF) (W : List (List Int)) (best : Option Lb) (U : List (List Int)) : Prop where
  i : Inv P g o L W best U
  d : ∀ x v, L x = some v → x ∈ W ∨ (Cl P L x v ∧ Cz best x v)
structure Mid (P : Ps) (g : Nat) (o : List Int) (L : LF) (W : List (List Int)) (best : Option Lb) (U : List (List Int)) (x0 : List Int) (v0 : Lb) (j : Nat) : Prop where
  i : Inv P g o L W best U
  hx : L x0 = some v0
  hz : Cz best x0 v0
  c0 : ∀ k p, k < j → P[k]? = some p → ClAt L x0 v0 k p
  d : ∀ x v, L x = some v → x ∈ W ∨ x = x0 ∨ (Cl P L x v ∧ Cz best x v)
section
variable {P : Ps} {g : Nat} {o : List Int} {L : LF} {W : List (List Int)} {best : Option Lb} {U : List (List Int)} {x0 : List Int} {v0 : Lb} {j : Nat}
theorem ulen (h : Inv P g o L W best U) : U.length ≤ 21 ^ P.length := by
  rw [← cand_len]
  exact nodup_len h.nd h.cd
theorem start (ho : o.length = g) (hn : ∀ i, 0 ≤ o.getD i 0) : Outer P g o (fun x => if x = o then some (0, zer P) else none) [o] none [zer P] := by
  refine ⟨⟨⟨_, if_pos rfl, leR_refl _⟩, fun x v h => ?_, fun x hx => ?_, (fun b h => by cases h), by simp, fun u hu => ?_, fun u hu => ?_⟩, fun x v h => ?_⟩
  · split at h
    · rename_i e
      cases h
      subst e
      exact ⟨ho, hn, (sum_zer P).symm, RowOk.zer P, fun i _ => by rw [combI_zer]; omega⟩
    · cases h
  · rw [List.mem_singleton.mp hx]
    exact ⟨_, if_pos rfl⟩
  · rw [List.mem_singleton.mp hu]
    have := mem_cand (r := zer P) fun x hx => by
      obtain ⟨_, _, rfl⟩ := List.mem_map.mp hx
      decide
    rwa [show (zer P).length = P.length by unfold zer; rw [List.length_map]] at this
  · rw [List.mem_singleton.mp hu]
    exact ⟨_, o, if_pos rfl, ho, fun i _ => by rw [combI_zer]; omega, by rw [sum_zer]; exact leR_refl _⟩
  · split at h
    · rename_i e
      exact .inl (by rw [e]; exact List.mem_cons_self)
    · cases h
/-- the first one that waits: the best so far -/
def better (best : Option Lb) (v : Lb) : Option Lb := match best with
  | none => some v
  | some b => if ltR v b = true then some v else some b
theorem better_le (best : Option Lb) (v : Lb) : ∃ b, better best v = some b ∧ leR b v ∧ ∀ c, best = some c → leR b c := by
  unfold better
  cases best with
  | none => exact ⟨v, rfl, leR_refl v, fun c h => by cases h⟩
  | some b =>
    simp only
    cases e : ltR v b with
    | true => exact ⟨v, rfl, leR_refl v, fun c h => by cases h; exact leR_of e⟩
    | false => exact ⟨b, rfl, e, fun c h => by cases h; exact leR_refl b⟩
theorem pop (h : Outer P g o L (x0 :: W) best U) (hv : L x0 = some v0) : Mid P g o L W (if hasPos x0 = false then better best v0 else best) U x0 v0 0 := by
  have T := h.i.b x0 v0 hv
  have dd : ∀ {best'}, (∀ c, best = some c → ∃ b, best' = some b ∧ leR b c) → ∀ x v, L x = some v → x ∈ W ∨ x = x0 ∨ (Cl P L x v ∧ Cz best' x v) := fun {best'} hb x v hx => by
    rcases h.d x v hx with q | ⟨q1, q2⟩
    · rcases List.mem_cons.mp q with q | q
      · exact .inr (.inl q)
      · exact .inl q
    · refine .inr (.inr ⟨q1, fun z => ?_⟩)
      obtain ⟨c, e1, e2⟩ := q2 z
      obtain ⟨b, e3, e4⟩ := hb c e1
      exact ⟨b, e3, leR_trans e4 e2⟩
  have cc : ∀ x ∈ W, ∃ v, L x = some v := fun x hx => h.i.c x (List.mem_cons_of_mem _ hx)
  by_cases hz : hasPos x0 = false
  · rw [if_pos hz]
    obtain ⟨b, e1, e2, e3⟩ := better_le best v0
    refine ⟨⟨h.i.a, h.i.b, cc, fun c hc => ?_, h.i.nd, h.i.cd, h.i.f⟩, hv, fun _ => ⟨b, e1, e2⟩, fun k p hk => by omega, dd fun c hc => ⟨b, e1, e3 c hc⟩⟩
    have : c = v0 ∨ best = some c := by
      unfold better at hc
      cases best with
      | none => exact .inl (by cases hc; rfl)
      | some b' =>
        simp only at hc
        split at hc
        · exact .inl (by cases hc; rfl)
        · exact .inr hc
    rcases this with rfl | q
    · refine ⟨T.sum, T.row, fun i hi => ?_⟩
      have h1 := T.at_ i hi
      have h2 := T.nn i
      have h3 : ¬ 0 < x0.getD i 0 := fun z => by
        have := hasPos_iff.mpr ⟨i, by rw [T.len]; exact hi, z⟩
        rw [hz] at this; cases this
      omega
    · exact h.i.e c q
  · rw [if_neg hz]
    exact ⟨⟨h.i.a, h.i.b, cc, h.i.e, h.i.nd, h.i.cd, h.i.f⟩, hv, fun z => absurd z hz, fun k p hk => by omega, dd fun c hc => ⟨c, hc, leR_refl c⟩⟩
theorem done (h : Mid P g o L W best U x0 v0 P.length) : Outer P g o L W best U := by
  refine ⟨h.i, fun x v hx => ?_⟩
  rcases h.d x v hx with q | rfl | q
  · exact .inl q
  · rw [h.hx] at hx; cases hx
    exact .inr ⟨fun k p hp => h.c0 k p (List.getElem?_eq_some_iff.mp hp).1 hp, h.hz⟩
  · exact .inr q
theorem relax_no (h : Mid P g o L W best U x0 v0 j) {p : List Int} (hp : P[j]? = some p) (hc : ¬ (hasPos p = true ∧ above x0 p = true)) : Mid P g o L W best U x0 v0 (j + 1) := by
  refine ⟨h.i, h.hx, h.hz, fun k q hk hq => ?_, h.d⟩
  by_cases e : k = j
  · subst e
    rw [hp] at hq; cases hq
    exact fun z1 z2 => absurd ⟨z1, z2⟩ hc
  · exact h.c0 k q (by omega) hq
theorem relax_keep (h : Mid P g o L W best U x0 v0 j) {p : List Int} (hp : P[j]? = some p) {w : Lb} (hw : L (sub x0 p) = some w) (hl : ltR (v0.1 + 1, addAt j v0.2) w = false) : Mid P g o L W best U x0 v0 (j + 1) := by
  refine ⟨h.i, h.hx, h.hz, fun k q hk hq => ?_, h.d⟩
  by_cases e : k = j
  · subst e
    rw [hp] at hq; cases hq
    exact fun _ _ => ⟨w, hw, hl⟩
  · exact h.c0 k q (by omega) hq
theorem relax_put (hP : PsOk g P) (ho : ∀ i, i < g → o.getD i 0 ≤ 20) (h : Mid P g o L W best U x0 v0 j) {p : List Int} (hp : P[j]? = some p) (hpos : hasPos p = true) (hab : above x0 p = true)
    (hw : ∀ w, L (sub x0 p) = some w → ltR (v0.1 + 1, addAt j v0.2) w = true) : Mid P g o (updL L (sub x0 p) (v0.1 + 1, addAt j v0.2)) (W ++ [sub x0 p]) best (addAt j v0.2 :: U) x0 v0 (j + 1) := by
  have T := h.i.b x0 v0 h.hx
  have hj : j < P.length := (List.getElem?_eq_some_iff.mp hp).1
  have hpl := (hP p (List.mem_of_getElem? hp)).1
  have hlen : x0.length = p.length := T.len.trans hpl.symm
  have hjr : j < v0.2.length := by rw [T.row.len]; exact hj
  have hlow : ∀ x v, L x = some v → ∃ v', updL L (sub x0 p) (v0.1 + 1, addAt j v0.2) x = some v' ∧ leR v' v := fun x v hx => by
    unfold updL
    by_cases e : x = sub x0 p
    · rw [if_pos e]
      subst e
      exact ⟨_, rfl, leR_of (hw v hx)⟩
    · rw [if_neg e]; exact ⟨v, hx, leR_refl v⟩
  have hne : x0 ≠ sub x0 p := fun e => by
    obtain ⟨i, hi, hp0⟩ := hasPos_iff.mp hpos
    have := sub_at hlen i
    rw [← e] at this
    omega
  have hself : updL L (sub x0 p) (v0.1 + 1, addAt j v0.2) (sub x0 p) = some (v0.1 + 1, addAt j v0.2) := if_pos rfl
  have hx0' : updL L (sub x0 p) (v0.1 + 1, addAt j v0.2) x0 = some v0 := by
    unfold updL
    rw [if_neg hne]; exact h.hx
  have T' : Tells P g o (sub x0 p) (v0.1 + 1, addAt j v0.2) := by
    refine ⟨(sub_len hlen).trans hpl, fun i => ?_, ?_, T.row.add hp hpos, fun i hi => ?_⟩
    · rw [sub_at hlen]
      by_cases hi : i < p.length
      · have := (above_iff hlen).mp hab i hi
        omega
      · have h1 : x0.getD i 0 = 0 := by rw [List.getD_eq_getElem?_getD, List.getElem?_eq_none (by omega)]; rfl
        have h2 : p.getD i 0 = 0 := by rw [List.getD_eq_getElem?_getD, List.getElem?_eq_none (by omega)]; rfl
        omega
    · show v0.1 + 1 = (addAt j v0.2).sum
      rw [sum_addAt hjr, T.sum]
    · rw [sub_at hlen, T.at_ i hi]
      show _ = o.getD i 0 - combI P (addAt j v0.2) i
      rw [combI_addAt i T.row.len hp]; omega
  have hcl : ∀ {x v k q}, ClAt L x v k q → ClAt (updL L (sub x0 p) (v0.1 + 1, addAt j v0.2)) x v k q := fun {x v k q} c z1 z2 => by
    obtain ⟨v', e1, e2⟩ := c z1 z2
    obtain ⟨v2, e3, e4⟩ := hlow _ _ e1
    exact ⟨v2, e3, leR_trans e4 e2⟩
  have hnu : addAt j v0.2 ∉ U := fun hu => by
    obtain ⟨v, x, e1, e2, e3, e4⟩ := h.i.f _ hu
    have ex : x = sub x0 p := by
      refine ext_at (by rw [e2, T'.len]) fun i hi => ?_
      rw [T'.len] at hi
      rw [e3 i hi, T'.at_ i hi]
    subst ex
    have := hw v e1
    rw [sum_addAt hjr, ← T.sum] at e4
    unfold leR at e4
    rw [this] at e4; cases e4
  refine ⟨⟨?_, fun x v hx => ?_, fun x hx => ?_, h.i.e, List.nodup_cons.mpr ⟨hnu, h.i.nd⟩, fun u hu => ?_, fun u hu => ?_⟩, hx0', h.hz, fun k q hk hq => ?_, fun x v hx => ?_⟩
  · obtain ⟨v, e1, e2⟩ := h.i.a
    obtain ⟨v', e3, e4⟩ := hlow _ _ e1
    exact ⟨v', e3, leR_trans e4 e2⟩
  · unfold updL at hx
    split at hx
    · rename_i e
      cases hx
      rw [e]; exact T'
    · exact h.i.b x v hx
  · rcases List.mem_append.mp hx with hx | hx
    · obtain ⟨v, e⟩ := h.i.c x hx
      obtain ⟨v', e3, _⟩ := hlow _ _ e
      exact ⟨v', e3⟩
    · rw [List.mem_singleton.mp hx]
      exact ⟨_, hself⟩
  · rcases List.mem_cons.mp hu with rfl | hu
    · have := mem_cand (r := addAt j v0.2) (row_small hP T'.row fun i hi => by
        have h1 := T'.at_ i hi
        have h2 := T'.nn i
        have h3 := ho i hi
        show combI P (addAt j v0.2) i ≤ 20
        simp only at h1
        omega)
      rwa [T'.row.len] at this
    · exact h.i.cd u hu
  · rcases List.mem_cons.mp hu with rfl | hu
    · exact ⟨_, _, hself, T'.len, T'.at_, by rw [sum_addAt hjr, ← T.sum]; exact leR_refl _⟩
    · obtain ⟨v, x, e1, e2, e3, e4⟩ := h.i.f u hu
      obtain ⟨v', e5, e6⟩ := hlow _ _ e1
      exact ⟨v', x, e5, e2, e3, leR_trans e6 e4⟩
  · by_cases e : k = j
    · subst e
      rw [hp] at hq; cases hq
      exact fun _ _ => ⟨_, hself, leR_refl _⟩
    · exact hcl (h.c0 k q (by omega) hq)
  · unfold updL at hx
    split at hx
    · rename_i e
      exact .inl (by rw [e]; simp)
    · rcases h.d x v hx with q | q | ⟨q1, q2⟩
      · exact .inl (List.mem_append_left _ q)
      · exact .inr (.inl q)
      · exact .inr (.inr ⟨fun k q hq => hcl (q1 k q hq), q2⟩)
/-- what gives the order -/
def Gives (P : Ps) (g : Nat) (o r : List Int) : Prop := RowOk P r ∧ ∀ i, i < g → combI P r i = o.getD i 0
/-- the least of all rows that give it -/
def IsLeast (P : Ps) (g : Nat) (o : List Int) : Option Lb → Prop
  | none => ∀ r, ¬ Gives P g o r
  | some b => b.1 = b.2.sum ∧ Gives P g o b.2 ∧ ∀ r, Gives P g o r → leR b (r.sum, r)
theorem least (hP : PsOk g P) (h : Outer P g o L [] best U) : IsLeast P g o best := by
  have key : ∀ (n : Nat) (r : List Int), RowOk P r → r.sum = n → (∀ i, i < g → combI P r i ≤ o.getD i 0) → ∃ v x, L x = some v ∧ (∀ i, i < g → x.getD i 0 = o.getD i 0 - combI P r i) ∧ leR v (r.sum, r) := by
    intro n
    induction n with
    | zero =>
      intro r hr hs hc
      rcases hr.split with rfl | ⟨j, p, r', e1, e2, e3, e4, e5⟩
      · obtain ⟨v, h1, h2⟩ := h.i.a
        exact ⟨v, o, h1, fun i _ => by rw [combI_zer]; omega, by rw [sum_zer]; exact h2⟩
      · have := e4.nonneg
        omega
    | succ n ih =>
      intro r hr hs hc
      rcases hr.split with rfl | ⟨j, p, r', e1, e2, rfl, e4, e5⟩
      · obtain ⟨v, h1, h2⟩ := h.i.a
        exact ⟨v, o, h1, fun i _ => by rw [combI_zer]; omega, by rw [sum_zer]; exact h2⟩
      · have hcomb : ∀ i, combI P (addAt j r') i = combI P r' i + p.getD i 0 := fun i => combI_addAt i e4.len e1
        have hpp := hP p (List.mem_of_getElem? e1)
        obtain ⟨v, x, h1, h2, h3⟩ := ih r' e4 (by omega) fun i hi => by
          have := hc i hi
          rw [hcomb] at this
          have := hpp.2 i
          omega
        have T := h.i.b x v h1
        have hl : x.length = p.length := T.len.trans hpp.1.symm
        have hab : above x p = true := (above_iff hl).mpr fun i hi => by
          rw [hpp.1] at hi
          have := hc i hi
          rw [hcomb] at this
          rw [h2 i hi]; omega
        rcases h.d x v h1 with q | ⟨q, _⟩
        · cases q
        · obtain ⟨v', k1, k2⟩ := q j p e1 e2 hab
          refine ⟨v', sub x p, k1, fun i hi => ?_, ?_⟩
          · rw [sub_at hl, h2 i hi, hcomb]; omega
          · refine leR_trans k2 ?_
            have := leR_addAt (j := j) (a := v) (b := (r'.sum, r')) (by rw [T.row.len, e4.len]) h3
            rw [sum_addAt (by rw [e4.len]; exact (List.getElem?_eq_some_iff.mp e1).1)]
            exact this
  have all : ∀ r, Gives P g o r → ∃ b, best = some b ∧ leR b (r.sum, r) := fun r hr => by
    obtain ⟨v, x, h1, h2, h3⟩ := key r.sum.toNat r hr.1 (by have := hr.1.nonneg; omega) fun i hi => Int.le_of_eq (hr.2 i hi)
    have T := h.i.b x v h1
    have hz : hasPos x = false := by
      cases q : hasPos x with
      | false => rfl
      | true =>
        obtain ⟨i, hi, hp⟩ := hasPos_iff.mp q
        rw [T.len] at hi
        rw [h2 i hi, hr.2 i hi] at hp
        omega
    rcases h.d x v h1 with q | ⟨_, q⟩
    · cases q
    · obtain ⟨b, e1, e2⟩ := q hz
      exact ⟨b, e1, leR_trans e2 h3⟩
  cases hb : best with
  | none =>
    intro r hr
    obtain ⟨b, e, _⟩ := all r hr
    rw [hb] at e; cases e
  | some b =>
    obtain ⟨e1, e2, e3⟩ := h.i.e b hb
    refine ⟨e1, ⟨e2, e3⟩, fun r hr => ?_⟩
    obtain ⟨b', e, e4⟩ := all r hr
    rw [hb] at e; cases e
    exact e4
theorem least_one {b b' : Option Lb} (h : IsLeast P g o b) (h' : IsLeast P g o b') : b = b' := by
  cases b with
  | none => cases b' with
    | none => rfl
    | some c => exact absurd h'.2.1 (h c.2)
  | some c => cases b' with
    | none => exact absurd h.2.1 (h' c.2)
    | some c' =>
      have h1 := h.2.2 c'.2 h'.2.1
      have h2 := h'.2.2 c.2 h.2.1
      rw [← h'.1] at h1
      rw [← h.1] at h2
      rw [leR_anti h1 h2]
end
end Kx
set_option maxHeartbeats 1000000
namespace Ev
open PySem
section
variable {Δ : Dn} {fu : Nat} {ρ ρ' : EnvD} {st st' st1 : Store} {r : Ss}
theorem e_varO {i c : Nat} {fs : List (Str × PD)} (h : ρ[i]? = some (some (.ob c fs))) : ev Δ (.var i) ρ st = .ok (.ob c fs) st := by
  unfold ev
  rw [h]
theorem e_fldO {a : E} {f : Str} {cs : List Nat} {c : Nat} {fs : List (Str × PD)} {p : PD} (h : ev Δ a ρ st = .ok (.ob c fs) st') (hc : cs.contains c = true) (hf : fs.lookup f = some p) : ev Δ (.fld a f cs) ρ st = .ok (.py p) st' := by
  unfold ev
  rw [h, Rs.bind_ok]
  simp only [hc, if_true, hf, Option.map_some]
  rfl
theorem e_neg {a : E} {i : Int} (h : ev Δ a ρ st = .ok (.py (.int i)) st') : ev Δ (.neg a) ρ st = .ok (.py (.int (-i))) st' := by
  unfold ev
  rw [h, Rs.bind_ok]; rfl
theorem e_ife {t : T} {a b : E} {k : Bool} {d : D} (h : evT Δ t ρ st = .ok k st1) (ha : k = true → ev Δ a ρ st1 = .ok d st') (hb : k = false → ev Δ b ρ st1 = .ok d st') : ev Δ (.ife t a b) ρ st = .ok d st' := by
  unfold ev
  rw [h, Rs.bind_ok]
  cases k with
  | true => rw [if_pos rfl, ha rfl]
  | false => rw [if_neg Bool.false_ne_true, hb rfl]
theorem e_slice {a : E} {lo hi : O} {x z : D} {l h : Option Int} {st2 : Store} (ha : ev Δ a ρ st = .ok x st1) (hl : evO Δ lo ρ st1 = .ok l st2) (hh : evO Δ hi ρ st2 = .ok h st') (hz : slcD st' x l h = some z) : ev Δ (.sl a lo hi) ρ st = .ok z st' := by
  unfold ev
  rw [ha, Rs.bind_ok, hl, Rs.bind_ok, hh, Rs.bind_ok, hz]; rfl
theorem o_no : evO Δ .no ρ st = .ok none st := by unfold evO; rfl
theorem o_so {e : E} {i : Int} (h : ev Δ e ρ st = .ok (.py (.int i)) st') : evO Δ (.so e) ρ st = .ok (some i) st' := by
  unfold evO
  rw [h, Rs.bind_ok]; rfl
theorem l_seqE {e : E} {d : D} {l : List D} (h : ev Δ e ρ st = .ok d st') (hs : seqOf st' d = some l) : evL Δ (.seq e) ρ st = .ok l st' := by
  unfold evL
  rw [h, Rs.bind_ok, hs]; rfl
theorem seqOf_l {l : List PD} : seqOf st (.py (.list l)) = some (l.map .py) := by simp [seqOf, Ev.listOf]
theorem seqOf_t {l : List PD} : seqOf st (.py (.tuple l)) = some (l.map .py) := by simp [seqOf, Ev.listOf, tupOf]
theorem l_repE {es : Es} {n : E} {ds : List D} {k : Nat} (h : evs Δ es ρ st = .ok ds st1) (hn : ev Δ n ρ st1 = .ok (.py (.int k)) st') (hk : k < 1000) (hd : ds.length * k ≤ line) : evL Δ (.rep es n) ρ st = .ok (List.replicate k ds).flatten st' := by
  unfold evL
  rw [h, Rs.bind_ok, hn, Rs.bind_ok]
  simp only
  rw [if_pos (by rw [Int.toNat_natCast, decide_eq_true (by omega), decide_eq_true (by omega), decide_eq_true hd]; rfl), Int.toNat_natCast]
theorem e_dlitE {k v : E} {x y : D} {kk : List Int} (hk : ev Δ k ρ st = .ok x st1) (hv : ev Δ v ρ st1 = .ok y st') (hx : keyOf x = some kk) : ev Δ (.dlit k v) ρ st = .ok (.ref st'.length) (st' ++ [.dct [(kk, y)]]) := by
  unfold ev
  rw [hk, Rs.noex_ok, Rs.bind_ok, hv, Rs.noex_ok, Rs.bind_ok]
  simp only [hx]
theorem e_pop0E {a : E} {n : Nat} {d : D} {ds : List D} (h : ev Δ a ρ st = .ok (.ref n) st1) (hs : st1[n]? = some (.lst (d :: ds))) : ev Δ (.pop0 a) ρ st = .ok d (st1.set n (.lst ds)) := by
  unfold ev
  rw [h, Rs.bind_ok]
  simp only [hs]
theorem i_zip {a b : E} {x y : D} {l l' : List D} (ha : ev Δ a ρ st = .ok x st1) (hb : ev Δ b ρ st1 = .ok y st') (hx : ∀ n, x ≠ .ref n) (hy : ∀ n, y ≠ .ref n) (h1 : seqOf st' x = some l) (h2 : seqOf st' y = some l') : evI Δ (.zip a b) ρ st = .ok (zipD l l') st' := by
  unfold evI
  rw [ha, Rs.bind_ok, hb, Rs.bind_ok]
  cases x <;> cases y <;> first | exact absurd rfl (hx _) | exact absurd rfl (hy _) | simp only [h1, h2]
theorem i_enm {a : E} {l : List PD} (ha : ev Δ a ρ st = .ok (.py (.list l)) st') : evI Δ (.enm a) ρ st = .ok (enumD (l.map .py)) st' := by
  unfold evI
  rw [ha, Rs.bind_ok]
  simp [Ev.listOf]
/-- a comprehension over pairs -/
theorem l_lcm2 {α : Type} {elt : E} {i j : Nat} {it : It} {st0 : Store} (xs : List α) (e1 e2 g : α → D) (hI : evI Δ it ρ st0 = .ok (xs.map fun x => mkTup [e1 x, e2 x]) st) (hp : ∀ x ∈ xs, seqOf st (mkTup [e1 x, e2 x]) = some [e1 x, e2 x]) (hE : ∀ x ∈ xs, ev Δ elt (((wipe ρ [i, j]).set i (some (e1 x))).set j (some (e2 x))) st = .ok (g x) st) (hl : xs.length ≤ line) : evL Δ (.lc elt (.two (.nm i) (.nm j)) [i, j] it .yes) ρ st0 = .ok (xs.map g) st := by
  refine l_lc hI ?_
  rw [lcLoop_A (g := fun x => some (g x)) xs [] (fun x hx => ?_) (by simpa using hl), filterMap_some]
  · rfl
  · unfold lcTurn
    have ea : asg (.two (.nm i) (.nm j)) st (mkTup [e1 x, e2 x]) (wipe ρ [i, j]) = some (((wipe ρ [i, j]).set i (some (e1 x))).set j (some (e2 x))) := by
      simp only [asg, hp x hx, Option.bind_some]
    rw [ea]
    simp only
    rw [t_yes]
    simp only [Rs.noex_ok, Rs.bind_ok, if_true]
    rw [hE x hx]; rfl
/-- a while loop by a measure; it may end by a return -/
theorem whl_inv {t : EnvD → Store → Rs Bool} {f : EnvD → Store → RS} (I : Nat → EnvD → Store → Prop) (Done : EnvD → Store → Prop) (Ret : D → Store → Prop)
    (step : ∀ n ρ st, I n ρ st → (∃ st', t ρ st = .ok false st' ∧ Done ρ st') ∨ ∃ st', t ρ st = .ok true st' ∧ ((∃ ρ2 st2 n', f ρ st' = .go .nx ρ2 st2 ∧ n' < n ∧ I n' ρ2 st2) ∨ ∃ d ρ2 st2, f ρ st' = .go (.rt d) ρ2 st2 ∧ Ret d st2)) :
    ∀ (n : Nat) (ρ : EnvD) (st : Store) (k : Nat), I n ρ st → n < k → (∃ ρ' st', whlLoop t f k ρ st = .go .nx ρ' st' ∧ Done ρ' st') ∨ ∃ d ρ' st', whlLoop t f k ρ st = .go (.rt d) ρ' st' ∧ Ret d st' := by
  intro n
  induction n using Nat.strongRecOn with
  | _ n ih =>
    intro ρ st k hI hk
    obtain ⟨k, rfl⟩ : ∃ k', k = k' + 1 := ⟨k - 1, by omega⟩
    rcases step n ρ st hI with ⟨st', e1, hd⟩ | ⟨st', e1, ⟨ρ2, st2, n', e2, hn, h2⟩ | ⟨d, ρ2, st2, e2, h2⟩⟩
    · refine .inl ⟨ρ, st', ?_, hd⟩
      unfold whlLoop
      rw [e1]; rfl
    · have go : whlLoop t f (k + 1) ρ st = whlLoop t f k ρ2 st2 := by
        show (t ρ st).to ρ _ = _
        rw [e1, Rs.to_ok, if_pos rfl, e2, RS.turn_nx]
      rw [go]
      exact ih n' hn ρ2 st2 k h2 (by omega)
    · refine .inr ⟨d, ρ2, st2, ?_, h2⟩
      show (t ρ st).to ρ _ = _
      rw [e1, Rs.to_ok, if_pos rfl, e2, RS.turn_rt]
theorem s_whl {t : T} {b : Ss} : ex Δ fu (.whl t b) ρ st = whlLoop (evT Δ t) (exs Δ fu b) fu ρ st := by unfold ex; rfl
theorem s_ext {i n : Nat} {e : E} {y : D} {ds l : List D} (h0 : ρ[i]? = some (some (.ref n))) (h1 : ev Δ e ρ st = .ok y st') (h2 : st'[n]? = some (.lst ds)) (h3 : Ev.listOf st' y = some l) (hl : ds.length + l.length ≤ line) : ex Δ fu (.ext i e) ρ st = .go .nx ρ (st'.set n (.lst (ds ++ l))) := by
  unfold ex
  rw [h0]
  simp only
  rw [h1, Rs.to_ok]
  simp only [h2, h3]
  rw [if_pos hl]
end
theorem putK_len (kvs : List (List Int × D)) (k : List Int) (v : D) : (putK kvs k v).length ≤ kvs.length + 1 := by
  unfold putK
  split
  · simp
  · simp
theorem valK_put_self (kvs : List (List Int × D)) (k : List Int) (v : D) : valK (putK kvs k v) k = some v := by
  unfold valK putK
  split
  · rename_i h
    induction kvs with
    | nil => simp at h
    | cons a r ih =>
      rw [List.map_cons, List.find?_cons]
      by_cases q : a.1 = k
      · simp [q]
      · have h2 : (r.any fun kv => decide (kv.1 = k)) = true := by simpa [q] using h
        simp only [q, if_false, decide_false]
        exact ih h2
  · rename_i h
    rw [List.find?_append]
    have e : (kvs.find? fun kv => decide (kv.1 = k)) = none := by
      rw [List.find?_eq_none]
      intro x hx hq
      exact h (List.any_eq_true.mpr ⟨x, hx, hq⟩)
    rw [e]
    simp
theorem valK_put_ne (kvs : List (List Int × D)) {k k' : List Int} (v : D) (hk : k' ≠ k) : valK (putK kvs k v) k' = valK kvs k' := by
  unfold valK putK
  split
  · rename_i h
    clear h
    induction kvs with
    | nil => rfl
    | cons a r ih =>
      rw [List.map_cons, List.find?_cons, List.find?_cons]
      by_cases q : a.1 = k
      · have q2 : ¬ k = k' := fun z => hk z.symm
        simp only [q, if_true, q2, decide_false]
        exact ih
      · simp only [q, if_false]
        by_cases q3 : a.1 = k'
        · simp [q3]
        · simp only [q3, decide_false]
          exact ih
  · rw [List.find?_append]
    have q2 : ¬ k = k' := fun z => hk z.symm
    cases e : kvs.find? fun kv => decide (kv.1 = k') with
    | some x => simp
    | none => simp [q2]
/-- a comprehension whose turns change the store -/
theorem lc_inv {f : D → Store → Rs (Option D)} (I : List D → Store → Prop) : ∀ (ds acc : List D) (st : Store), I acc st → acc.length + ds.length ≤ line → (∀ d ∈ ds, ∀ acc st, I acc st → ∃ x st', f d st = .ok (some x) st' ∧ I (acc ++ [x]) st') →
    ∃ xs st', lcLoop f acc ds st = .ok xs st' ∧ I xs st' ∧ xs.length = acc.length + ds.length
  | [], acc, st, h0, _, _ => ⟨acc, st, rfl, h0, rfl⟩
  | d :: ds, acc, st, h0, hl, h => by
    obtain ⟨x, st1, e1, h1⟩ := h d List.mem_cons_self acc st h0
    rw [List.length_cons] at hl
    obtain ⟨xs, st2, e2, h2, h3⟩ := lc_inv I ds (acc ++ [x]) st1 h1 (by rw [List.length_append]; simp; omega) fun d hd => h d (List.mem_cons_of_mem _ hd)
    refine ⟨xs, st2, ?_, h2, by rw [h3, List.length_append]; simp; omega⟩
    unfold lcLoop
    rw [e1, Rs.bind_ok]
    simp only
    rw [if_pos (by omega)]
    exact e2
theorem dv_bd {row : List Int} {a : Nat} {m : Int} (hm : 0 < m) : 0 ≤ dv row a m ∧ dv row a m < m := by
  unfold dv
  split
  · exact ⟨Int.emod_nonneg _ (by omega), Int.emod_lt_of_pos _ hm⟩
  · exact ⟨Int.emod_nonneg _ (by omega), Int.emod_lt_of_pos _ hm⟩
theorem set_self {st : Store} {b : Nat} {c : Cell} (h : st[b]? = some c) : st.set b c = st := by
  obtain ⟨h1, h2⟩ := List.getElem?_eq_some_iff.mp h
  rw [← h2]
  exact List.set_getElem_self h1
theorem stF_last {Δ : Dn} {fu : Nat} {ρ : EnvD} {st : Store} {f : Str} {e : E} {z : D} {c : Nat} {fs : List (Str × D)} (h1 : ev Δ e ρ (st ++ [.ins c fs]) = .ok z (st ++ [.ins c fs])) (h0 : ρ[0]? = some (some (.ref st.length))) (hl : fs.length < 20) :
    ex Δ fu (.stF (.var 0) f [c] e) ρ (st ++ [.ins c fs]) = .go .nx ρ (st ++ [.ins c (putF f z fs)]) := by
  unfold ex
  rw [h1, Rs.to_ok, e_ref h0 (get_last _ _) (by intro p z; cases z), Rs.to_ok]
  simp only [get_last]
  rw [if_pos (by rw [decide_eq_true hl]; simp), set_last]
theorem putF_lt {f : Str} {z : D} {n : Nat} : ∀ {fs : List (Str × D)}, fs.length < n → (putF f z fs).length < n + 1
  | [], h => by show 1 < n + 1; simp at h; omega
  | (g, x) :: r, h => by
    unfold putF
    rw [List.length_cons] at h
    split
    · rw [List.length_cons]; omega
    · rw [List.length_cons]
      have := putF_lt (f := f) (z := z) (n := n - 1) (fs := r) (by omega)
      omega
def shopC : Ss := (.cons (.stF (.var 0) "keep" [0] (.li (.seq (.var 1)))) (.cons (.stF (.var 0) "patterns" [0] (.li (.seq (.var 2)))) (.cons (.stF (.var 0) "most" [0] (.var 3)) (.cons (.stF (.var 0) "week" [0] (.li (.lc (.li (.seq (.var 6))) (.nm 6) [6] (.e (.var 4)) .yes))) (.cons (.stF (.var 0) "budget" [0] (.var 5)) .nil)))))
abbrev shopF (k p : List PD) (m : Int) (w : List (List PD)) (b : PD) : List (Str × PD) := [("keep", .list k), ("patterns", .list p), ("most", .int m), ("week", .list (w.map .list)), ("budget", b)]
theorem shop_run {Δ : Dn} {fu : Nat} {st : Store} {k p : List PD} {m : Int} {w : List (List PD)} {b : PD} (hw : w.length ≤ 1000) (wf : WF st) :
    runFn Δ fu 6 7 shopC [.ref st.length, .py (.list k), .py (.list p), .py (.int m), .py (.list (w.map .list)), .py b] (st ++ [.ins 0 []]) = .ok (.py .none) (st ++ [.ins 0 ((shopF k p m w b).map fun q => (q.1, .py q.2))]) := by
  unfold runFn
  rw [if_pos (show List.length _ = 6 from rfl)]
  have ek : ∀ {s : Store} {ρ : EnvD} {i : Nat} {l : List PD}, ρ[i]? = some (some (.py (.list l))) → ev Δ (.li (.seq (.var i))) ρ s = .ok (.py (.list l)) s := fun {s ρ i l} h => e_li (l_seqE (e_var h) seqOf_l) (pys_map l)
  have hx : exs Δ fu shopC [some (.ref st.length), some (.py (.list k)), some (.py (.list p)), some (.py (.int m)), some (.py (.list (w.map .list))), some (.py b), none] (st ++ [.ins 0 []]) = .go .nx [some (.ref st.length), some (.py (.list k)), some (.py (.list p)), some (.py (.int m)), some (.py (.list (w.map .list))), some (.py b), none] (st ++ [.ins 0 ((shopF k p m w b).map fun q => (q.1, .py q.2))]) := by
    have l0 : ([] : List (Str × D)).length < 16 := by decide
    refine (st_nx (stF_last (ek rfl) rfl (by decide))).trans ((st_nx (stF_last (ek rfl) rfl (Nat.lt_trans (putF_lt l0) (by decide)))).trans ((st_nx (stF_last (z := .py (.int m)) (e_var rfl) rfl (Nat.lt_trans (putF_lt (putF_lt l0)) (by decide)))).trans ((st_nx (stF_last (z := .py (.list (w.map .list))) ?_ rfl (Nat.lt_trans (putF_lt (putF_lt (putF_lt l0))) (by decide)))).trans ((st_nx (stF_last (z := .py b) (e_var rfl) rfl (by have := putF_lt (f := "week") (z := .py (.list (w.map .list))) (putF_lt (f := "most") (z := .py (.int m)) (putF_lt (f := "patterns") (z := .py (.list p)) (putF_lt (f := "keep") (z := .py (.list k)) l0))); exact this))).trans s_nil))))
    refine e_li (ps := w.map .list) (l_lcm w (fun l => .py (.list l)) (fun l => .py (.list l)) ((i_e (l := w.map .list) (e_var rfl)).trans (by rw [List.map_map]; rfl)) (fun x hx => ek rfl) (show w.length ≤ 16777216 by omega)) ?_
    have := pys_map (w.map PyData.list)
    rwa [List.map_map] at this
  have hwf : WF (st ++ [Cell.ins 0 ((shopF k p m w b).map fun q => (q.1, D.py q.2))]) := WF.app wf rfl
  have ht := trim_py0 (d := .none) hwf
  have hl : (st ++ [Cell.ins 0 ((shopF k p m w b).map fun q => (q.1, D.py q.2))]).length = (st ++ [Cell.ins 0 []]).length := by simp
  rw [hl] at ht
  generalize hr : exs Δ fu shopC _ (st ++ [Cell.ins 0 []]) = r
  have hr2 : r = .go .nx [some (.ref st.length), some (.py (.list k)), some (.py (.list p)), some (.py (.int m)), some (.py (.list (w.map .list))), some (.py b), none] (st ++ [.ins 0 ((shopF k p m w b).map fun q => (q.1, .py q.2))]) := hr.symm.trans hx
  rw [hr2]
  simp only
  rw [ht]
theorem e_shop {Δ : Dn} {f : Nat} {es : Es} {ρ : EnvD} {st0 st : Store} {k p : List PD} {m : Int} {w : List (List PD)} {b : PD} (he : evs Δ es ρ st0 = .ok [.py (.list k), .py (.list p), .py (.int m), .py (.list (w.map .list)), .py b] st) (wf : WF st)
    (hΔ : Δ f [.ref st.length, .py (.list k), .py (.list p), .py (.int m), .py (.list (w.map .list)), .py b] (st ++ [.ins 0 []]) = .ok (.py .none) (st ++ [.ins 0 ((shopF k p m w b).map fun q => (q.1, .py q.2))])) :
    ev Δ (.mk 0 f es) ρ st0 = .ok (.ob 0 (shopF k p m w b)) st := by
  unfold ev
  rw [he, Rs.bind_ok, hΔ, Rs.bind_ok]
  simp only
  unfold made
  rw [get_last]
  simp only
  have e1 : (st ++ [Cell.ins 0 ((shopF k p m w b).map fun q => (q.1, D.py q.2))]).take st.length = st := by simp
  rw [e1, if_pos (by unfold WF at wf; rw [wf]; simp)]
  rfl
abbrev tI (l : List Int) : PD := .tuple (l.map .int)
theorem eqv_ints (r s : List Int) : PyData.eqv (tI r) (tI s) = decide (r = s) := by
  unfold tI
  simp only [PyData.eqv]
  exact PySem.W.ked_eqvAll r s
theorem keyOf_t (x : List Int) : keyOf (.py (tI x)) = some x := intsOf_map x
theorem ltAll_ints : ∀ {r s : List Int}, ltAll (r.map .int) (s.map .int) = some (Kx.lexL r s)
  | [], [] => by simp [ltAll, Kx.lexL]
  | [], _ :: _ => by simp [ltAll, Kx.lexL]
  | _ :: _, [] => by simp [ltAll, Kx.lexL]
  | x :: r, y :: s => by
    rw [List.map_cons, List.map_cons]
    unfold ltAll
    rw [ltAll_ints (r := r) (s := s), Option.bind_some]
    show _ = some (if x = y then Kx.lexL r s else decide (x < y))
    by_cases h : x = y
    · subst h
      rw [if_pos rfl, if_pos (by simp [PyData.eqv])]
    · rw [if_neg h, if_neg (by simp [PyData.eqv, h])]
      simp [ltPD]
/-- the number of sides and the row of them -/
abbrev encL (v : Kx.Lb) : PD := .tuple [.int v.1, tI v.2]
theorem ltPD_enc (a b : Kx.Lb) : ltPD (encL a) (encL b) = some (Kx.ltR a b) := by
  obtain ⟨m, r⟩ := a
  obtain ⟨n, s⟩ := b
  have h1 : ltPD (tI r) (tI s) = some (Kx.lexL r s) := by
    unfold tI
    simp only [ltPD]
    exact ltAll_ints
  have h2 : ltAll [tI r] [tI s] = some (Kx.lexL r s) := by
    unfold ltAll
    rw [show ltAll [] [] = some false from rfl, Option.bind_some, eqv_ints, h1]
    by_cases e : r = s
    · subst e
      rw [if_pos (by simp), Kx.lexL_irrefl]
    · rw [if_neg (by simp [e])]
  show ltAll [.int m, tI r] [.int n, tI s] = _
  unfold ltAll
  rw [h2, Option.bind_some]
  unfold Kx.ltR
  by_cases h : m = n
  · subst h
    rw [if_pos rfl, if_pos (by simp [PyData.eqv])]
  · rw [if_neg h, if_neg (by simp [PyData.eqv, h])]
    simp [ltPD]
theorem layAll_ints : ∀ l : List Int, PyData.canLayAll0 (l.map .int) = true
  | [] => rfl
  | x :: l => by
    rw [List.map_cons]
    unfold PyData.canLayAll0
    rw [layAll_ints l]; rfl
theorem depthAll_ints : ∀ l : List Int, PyData.depthAll (l.map .int) = 0 := depth_ints
theorem shaped_t (l : List Int) : SeqAt.shaped (tI l) = true := by
  unfold SeqAt.shaped tI
  simp only [PyData.canLay0, PyData.depth, layAll_ints, depthAll_ints]
  decide
theorem shaped_enc (v : Kx.Lb) : SeqAt.shaped (encL v) = true := by
  unfold SeqAt.shaped encL tI
  simp only [PyData.canLay0, PyData.canLayAll0, PyData.depth, PyData.depthAll, layAll_ints, depthAll_ints]
  decide
theorem c_ltL {st : Store} {a b : Kx.Lb} : cop st .lt (.py (encL a)) (.py (encL b)) = some (Kx.ltR a b) := by
  show (if (SeqAt.shaped (encL a) && SeqAt.shaped (encL b)) = true then ltPD (encL a) (encL b) else none) = _
  rw [shaped_enc, shaped_enc]
  exact ltPD_enc a b
theorem n_tupL {st : Store} {l : List PD} : bi st .tuple [.py (.list l)] = some (.py (.tuple l)) := by simp only [bi, seqPD, seqOf_l, Option.bind_some, pys_map, Option.map_some]
theorem n_tupT {st : Store} {l : List PD} : bi st .tuple [.py (.tuple l)] = some (.py (.tuple l)) := by simp only [bi, seqPD, seqOf_t, Option.bind_some, pys_map, Option.map_some]
theorem boolsOf_map : ∀ l : List Bool, boolsOf (l.map .bool) = some l
  | [] => rfl
  | a :: r => by simp only [List.map_cons, boolsOf, boolsOf_map r, Option.map_some]
theorem n_all {st : Store} {l : List Bool} : bi st .all [.py (.list (l.map .bool))] = some (.py (.bool (l.all id))) := by
  simp only [bi, Ev.listOf, Option.bind_some, pys_map, boolsOf_map, Option.map_some]
theorem n_sumT {st : Store} (l : List Int) : bi st .sum [.py (tI l)] = some (.py (.int l.sum)) := by
  have e : seqI st (.py (tI l)) = some l := by
    unfold seqI seqPD
    rw [seqOf_t, Option.bind_some, pys_map, Option.bind_some, intsOf_map]
  simp only [bi, e, Option.map_some]
theorem n_lenL {st : Store} {l : List PD} : bi st .len [.py (.list l)] = some (.py (.int l.length)) := len_py
theorem pysI (l : List Int) : pys (l.map fun i => D.py (.int i)) = some (l.map .int) := by
  have := pys_map (l.map PyData.int)
  rwa [List.map_map] at this
theorem pysM {α : Type} (f : α → PD) (l : List α) : pys (l.map fun i => D.py (f i)) = some (l.map f) := by
  have := pys_map (l.map f)
  rwa [List.map_map] at this
theorem zipD_py (a b : List PD) : zipD (a.map .py) (b.map .py) = (a.zip b).map fun x => mkTup [.py x.1, .py x.2] := by
  unfold zipD
  induction a generalizing b with
  | nil => rfl
  | cons x a ih => cases b with
    | nil => rfl
    | cons y b => rw [List.map_cons, List.map_cons, List.zipWith_cons_cons, List.zip_cons_cons, List.map_cons, ih]
theorem pair_seq {st : Store} {x y : PD} : seqOf st (mkTup [.py x, .py y]) = some [.py x, .py y] := by
  show seqOf st (.py (.tuple [x, y])) = _
  rw [seqOf_t]; rfl
end Ev
set_option maxHeartbeats 1000000
namespace Ev
open PySem
/-- the box, and the cells behind it -/
abbrev BX (row : List Int) (a : Nat) (X : Store) : Store := boxC row a :: X
theorem WF.bx {row : List Int} {a : Nat} {X : Store} (h : X.all (cellUnder (X.length + 1)) = true) : WF (BX row a X) := h
theorem WF.xs {row : List Int} {a : Nat} {X : Store} (h : WF (BX row a X)) : X.all (cellUnder (X.length + 1)) = true := h
theorem WF.bx2 {row : List Int} {a b : Nat} {X : Store} (h : WF (BX row a X)) : WF (BX row b X) := h
theorem BX.get {row : List Int} {a : Nat} {X : Store} {k : Nat} : (BX row a X)[k + 1]? = X[k]? := rfl
def Draws (Δ : Dn) (fd : Nat) : Prop := ∀ (row : List Int) (a : Nat) (m : Int) (X : Store), WF (BX row a X) → 0 < m → Δ fd [.ref 0, .py (.int m)] (BX row a X) = .ok (.py (.int (dv row a m))) (BX row (a + 1) X)
section
variable {Δ : Dn} {fd : Nat} {ρ : EnvD} {row : List Int} {a : Nat} {X : Store}
theorem e_box {i : Nat} (h : ρ[i]? = some (some (.ref 0))) : ev Δ (.var i) ρ (BX row a X) = .ok (.ref 0) (BX row a X) := e_ref h rfl (by intro p z; cases z)
theorem e_drw (hD : Draws Δ fd) {i : Nat} {e : E} {m : Int} (h : ρ[i]? = some (some (.ref 0))) (he : ev Δ e ρ (BX row a X) = .ok (.py (.int m)) (BX row a X)) (wf : WF (BX row a X)) (hm : 0 < m) :
    ev Δ (.call fd (.cons (.var i) (.cons e .nil))) ρ (BX row a X) = .ok (.py (.int (dv row a m))) (BX row (a + 1) X) :=
  e_call (es_cons (e_box h) (es_cons he es_nil)) (hD row a m X wf hm)
/-- as many draws -/
def drL (f : Nat → Int) (a : Nat) : Nat → List Int
  | 0 => []
  | k + 1 => f a :: drL f (a + 1) k
theorem drL_len {f : Nat → Int} : ∀ {a : Nat} (k : Nat), (drL f a k).length = k
  | _, 0 => rfl
  | a, k + 1 => by show (f a :: drL f (a + 1) k).length = _; rw [List.length_cons, drL_len k]
theorem drL_mem {f : Nat → Int} {Pr : Int → Prop} (h : ∀ a, Pr (f a)) : ∀ {a : Nat} (k : Nat), ∀ x ∈ drL f a k, Pr x
  | _, 0, x, hx => by cases hx
  | a, k + 1, x, hx => by
    rcases List.mem_cons.mp hx with rfl | hx
    · exact h a
    · exact drL_mem h k x hx
theorem lc_draws {f : D → Store → Rs (Option D)} {S : Nat → Store} {v : Nat → Int} (h : ∀ d a, f d (S a) = .ok (some (.py (.int (v a)))) (S (a + 1))) : ∀ (ds : List D) (a : Nat) (acc : List D), acc.length + ds.length ≤ line → lcLoop f acc ds (S a) = .ok (acc ++ (drL v a ds.length).map fun x => .py (.int x)) (S (a + ds.length))
  | [], a, acc, _ => by
    show Rs.ok acc (S a) = _
    simp [drL]
  | d :: ds, a, acc, hl => by
    rw [List.length_cons] at hl
    unfold lcLoop
    rw [h d a, Rs.bind_ok]
    simp only
    have ih := lc_draws h ds (a + 1) (acc ++ [D.py (.int (v a))]) (by rw [List.length_append]; simp; omega)
    rw [if_pos (by omega), ih]
    rw [List.append_assoc, List.length_cons, show a + 1 + ds.length = a + (ds.length + 1) by omega]
    rfl
theorem l_draws {elt : E} {i : Nat} {it : It} {ds : List D} {S : Nat → Store} {v : Nat → Int} (hI : evI Δ it ρ (S a) = .ok ds (S a)) (hE : ∀ d a, ev Δ elt ((wipe ρ [i]).set i (some d)) (S a) = .ok (.py (.int (v a))) (S (a + 1))) (hl : ds.length ≤ line) :
    evL Δ (.lc elt (.nm i) [i] it .yes) ρ (S a) = .ok ((drL v a ds.length).map fun x => .py (.int x)) (S (a + ds.length)) := by
  refine l_lc hI ((lc_draws (S := S) (v := v) (fun d a => ?_) ds a [] (by simpa using hl)).trans (by simp))
  unfold lcTurn
  simp only [asg]
  rw [t_yes]
  simp only [Rs.noex_ok, Rs.bind_ok, if_true]
  rw [hE d a]; rfl
theorem rangeN (n : Nat) : (rangeD 0 (n : Int)).length = n := by rw [rangeD_len]; omega
theorem fitN {n : Nat} (h : n ≤ 1000000) : fit (n : Int) = true := by
  unfold fit
  rw [decide_eq_true (show -(2 ^ 62 : Int) ≤ n by omega), decide_eq_true (show (n : Int) < (2 ^ 62 : Int) by omega)]; rfl
theorem frz_pys {st : Store} {l : List PD} : frzD 6 (st ++ [.lst (l.map .py)]) (.ref st.length) = some (.list l, st ++ [.frz (.list l)]) := by
  have go : ∀ (k : Nat) (l : List PD) (acc : List PD) (s : Store), (l.map D.py).foldlM (fun (p : List PD × Store) d => (frzD k p.2 d).map fun q => (p.1 ++ [q.1], q.2)) (acc, s) = some (acc ++ l, s) := by
    intro k l
    induction l with
    | nil => intro acc s; simp
    | cons a r ih =>
      intro acc s
      simp only [List.map_cons, List.foldlM_cons]
      have e : frzD k s (.py a) = some (a, s) := by cases k <;> rfl
      rw [e]
      show List.foldlM _ (acc ++ [a], s) _ = _
      rw [ih]
      simp
  unfold frzD
  rw [get_last]
  simp only
  rw [go 5 l [] _]
  simp
theorem e_frz_pys {a : E} {st0 st : Store} {l : List PD} (h : ev Δ a ρ st0 = .ok (.ref st.length) (st ++ [.lst (l.map .py)])) : ev Δ (.frz a) ρ st0 = .ok (.py (.list l)) (st ++ [.frz (.list l)]) := by
  unfold ev
  rw [h, Rs.bind_ok, frz_pys]
theorem ixInts {st : Store} {l : List Int} {j : Int} (h0 : 0 ≤ j) (h1 : j < l.length) : getix st (.py (.list (l.map .int))) (.py (.int j)) = some (.py (.int (l.getD j.toNat 0))) := by
  obtain ⟨i, rfl⟩ : ∃ i : Nat, j = i := ⟨j.toNat, by omega⟩
  have hi : i < l.length := by omega
  simp only [getix, intOf, Option.bind_some, List.length_map, ixN_nat hi, List.getElem?_map]
  simp [List.getD_eq_getElem?_getD, List.getElem?_eq_getElem hi]
theorem b_lmul {st : Store} {x : List PD} {k : Nat} (hk : k < 1000) (hl : x.length * k ≤ line) : bop st .mul (.py (.list x)) (.py (.int k)) = some (.py (.list (List.replicate k x).flatten)) := by
  show (if (decide ((0 : Int) ≤ k) && decide ((k : Int) < 1000) && decide (x.length * (k : Int).toNat ≤ line)) = true then some (D.py (.list (List.replicate (k : Int).toNat x).flatten)) else none) = _
  rw [Int.toNat_natCast, if_pos (by rw [decide_eq_true (show (0 : Int) ≤ k by omega), decide_eq_true (show (k : Int) < 1000 by omega), decide_eq_true hl]; rfl)]
theorem b_tmul {st : Store} {x : List PD} {k : Nat} (h1 : 1 ≤ k) (hk : k ≤ 1000) (hx : x.isEmpty = false) (hl : x.length ≤ 1000) : bop st .mul (.py (.tuple x)) (.py (.int k)) = some (.py (.tuple (List.replicate k x).flatten)) := by
  show (if (k : Int) = 1 then some (D.py (.tuple x)) else if (decide ((2 : Int) ≤ k) && decide ((k : Int) ≤ 1000) && !x.isEmpty && decide (x.length ≤ 1000)) = true then some (D.py (.tuple (List.replicate (k : Int).toNat x).flatten)) else none) = _
  by_cases e : k = 1
  · subst e
    simp
  · rw [if_neg (by omega), Int.toNat_natCast, if_pos (by rw [decide_eq_true (show (2 : Int) ≤ k by omega), decide_eq_true (show (k : Int) ≤ 1000 by omega), decide_eq_true hl, hx]; rfl)]
theorem flat_one (k : Nat) (x : PD) : (List.replicate k [x]).flatten = List.replicate k x := by
  induction k with
  | zero => rfl
  | succ k ih => rw [List.replicate_succ, List.replicate_succ, List.flatten_cons, ih]; rfl
end
end Ev
set_option maxHeartbeats 1000000
namespace Ev
open PySem
/-- the box, and the cells behind it -/
abbrev BY (row : List Int) (a : Nat) (X : Store) : Store := .tab 0 :: boxC row a :: X
theorem WF.by_ {row : List Int} {a : Nat} {X : Store} (h : X.all (cellUnder (X.length + 2)) = true) : WF (BY row a X) := h
theorem WF.ys {row : List Int} {a : Nat} {X : Store} (h : WF (BY row a X)) : X.all (cellUnder (X.length + 2)) = true := h
theorem WF.by2 {row : List Int} {a b : Nat} {X : Store} (h : WF (BY row a X)) : WF (BY row b X) := h
theorem BY.get {row : List Int} {a : Nat} {X : Store} {k : Nat} : (BY row a X)[k + 2]? = X[k]? := rfl
def DrawsY (Δ : Dn) (fd : Nat) : Prop := ∀ (row : List Int) (a : Nat) (m : Int) (X : Store), WF (BY row a X) → 0 < m → Δ fd [.ref 1, .py (.int m)] (BY row a X) = .ok (.py (.int (dv row a m))) (BY row (a + 1) X)
section
variable {Δ : Dn} {fd : Nat} {ρ : EnvD} {row : List Int} {a : Nat} {X : Store}
theorem e_boxY {i : Nat} (h : ρ[i]? = some (some (.ref 1))) : ev Δ (.var i) ρ (BY row a X) = .ok (.ref 1) (BY row a X) := e_ref h rfl (by intro p z; cases z)
theorem e_drwY (hD : DrawsY Δ fd) {i : Nat} {e : E} {m : Int} (h : ρ[i]? = some (some (.ref 1))) (he : ev Δ e ρ (BY row a X) = .ok (.py (.int m)) (BY row a X)) (wf : WF (BY row a X)) (hm : 0 < m) :
    ev Δ (.call fd (.cons (.var i) (.cons e .nil))) ρ (BY row a X) = .ok (.py (.int (dv row a m))) (BY row (a + 1) X) :=
  e_call (es_cons (e_boxY h) (es_cons he es_nil)) (hD row a m X wf hm)
end
end Ev
set_option maxHeartbeats 1000000
namespace Ev
open PySem
abbrev dgB1 : Ss := (.cons (.ife (.v (.cmp .gt (.var 5) (.con (.int 0)))) (.cons (.app (.var 3) (.bin .mod (.bi .int (.cons (.var 5) .nil)) (.con (.int 1000)))) (.cons (.set 5 (.bin .fdiv (.var 5) (.con (.int 1000)))) .nil)) .nil) (.cons (.drop [6]) .nil))
abbrev dgB2 : Ss := (.cons (.set 7 (.bin .mod (.bi .int (.cons (.bin .add (.bin .add (.bin .mul (.var 7) (.con (.int 16807))) (.bin .mul (.con (.int 7)) (.var 6))) (.con (.int 1))) .nil)) (.con (.int 2147483647)))) (.cons (.app (.var 3) (.bin .mod (.bi .int (.cons (.bin .fdiv (.var 7) (.con (.int 997))) .nil)) (.con (.int 1000)))) (.cons (.drop [6]) .nil)))
abbrev dgB3 : Ss := (.cons (.for (.nm 6) (.rng (.con (.int 60))) dgB1) (.cons (.drop [5, 6]) .nil))
abbrev dgB4 : Ss := (.cons (.set 7 (.bin .mod (.bi .int (.cons (.bin .add (.bin .add (.bin .mul (.var 5) (.con (.int 48271))) (.bin .mul (.var 4) (.con (.int 69621)))) (.con (.int 11))) .nil)) (.con (.int 2147483647)))) (.cons (.for (.nm 6) (.rng (.con (.int 12))) dgB2) (.cons (.drop [6, 7]) .nil)))
abbrev dgB5 (fc : Nat) : Ss := (.cons (.set 5 (.call fc (.cons (.var 0) (.cons (.var 4) .nil)))) (.cons (.ife (.v (.cmp .lt (.var 5) (.con (.int 0)))) (.cons (.set 5 (.bin .sub (.con (.int 1)) (.bin .mul (.con (.int 2)) (.var 5)))) .nil) .nil) (.cons (.ife (.v (.cmp .ge (.var 5) (.bin .pow (.con (.int 10)) (.con (.int 18))))) dgB3 dgB4) (.cons (.drop [4, 5, 6, 7]) .nil))))
def digC (fc : Nat) : Ss := (.cons (.set 3 (.cell (.lst .nil))) (.cons (.for (.nm 4) (.rng2 (.var 1) (.var 2)) (dgB5 fc)) (.cons (.ret (.frz (.var 3))) .nil)))
def draw0C : Ss := (.cons (.set 2 (.ix (.var 0) (.con (.int 1)))) (.cons (.stI (.var 0) (.con (.int 1)) (.bin .add (.var 2) (.con (.int 1)))) (.cons (.ife (.v (.cmp .lt (.var 2) (.bi .len (.cons (.ix (.var 0) (.con (.int 0))) .nil)))) (.cons (.ret (.bin .mod (.bi .int (.cons (.ix (.ix (.var 0) (.con (.int 0))) (.var 2)) .nil)) (.var 1))) .nil) .nil) (.cons (.ret (.con (.int 0))) .nil))))
def dv0 (row : List Int) (a : Nat) (m : Int) : Int := if a < row.length then row.getD a 0 % m else 0
theorem dv0_bd {row : List Int} {a : Nat} {m : Int} (hm : 0 < m) : 0 ≤ dv0 row a m ∧ dv0 row a m < m := by
  unfold dv0
  split
  · exact ⟨Int.emod_nonneg _ (by omega), Int.emod_lt_of_pos _ hm⟩
  · omega
theorem draw0_ok {Δ : Dn} {fu b : Nat} {st : Store} {row : List Int} {a : Nat} {m : Int} (hst : st[b]? = some (boxC row a)) (wf : WF st) (hm : 0 < m) :
    runFn Δ fu 2 3 draw0C [.ref b, .py (.int m)] st = .ok (.py (.int (dv0 row a m))) (st.set b (boxC row (a + 1))) := by
  have hb : b < st.length := (List.getElem?_eq_some_iff.mp hst).1
  have hst2 : (st.set b (boxC row (a + 1)))[b]? = some (boxC row (a + 1)) := List.getElem?_set_self hb
  refine run_ret (ar := 2) (sl := 3) (b := draw0C) (ρ := [some (.ref b), some (.py (.int m)), some (.py (.int a))]) rfl ?_ (trim_set wf rfl)
  have r1 : ∀ {ρ : EnvD}, ρ[0]? = some (some (.ref b)) → ev Δ (.var 0) ρ st = .ok (.ref b) st := fun h => e_ref h hst (by intro p z; cases z)
  have r2 : ∀ {ρ : EnvD}, ρ[0]? = some (some (.ref b)) → ev Δ (.var 0) ρ (st.set b (boxC row (a + 1))) = .ok (.ref b) (st.set b (boxC row (a + 1))) := fun h => e_ref h hst2 (by intro p z; cases z)
  have s1 : ex Δ fu (.set 2 (.ix (.var 0) (.con (.int 1)))) [some (.ref b), some (.py (.int m)), none] st = .go .nx [some (.ref b), some (.py (.int m)), some (.py (.int a))] st := s_set (i := 2) (e_ix (r1 rfl) e_con (by simp only [getix, hst]; rfl))
  have s2 : ex Δ fu (.stI (.var 0) (.con (.int 1)) (.bin .add (.var 2) (.con (.int 1)))) [some (.ref b), some (.py (.int m)), some (.py (.int a))] st = .go .nx [some (.ref b), some (.py (.int m)), some (.py (.int a))] (st.set b (boxC row (a + 1))) :=
    s_stI (z := .py (.int ((a : Int) + 1))) (e_bin (e_var rfl) e_con b_add) (r1 rfl) e_con (by simp only [setix, hst]; rfl)
  have hbox : ev Δ (.ix (.var 0) (.con (.int 0))) [some (D.ref b), some (D.py (.int m)), some (D.py (.int a))] (st.set b (boxC row (a + 1))) = .ok (.py (.list (row.map .int))) (st.set b (boxC row (a + 1))) := e_ix (r2 rfl) e_con (by simp only [getix, hst2]; rfl)
  have t3 : evT Δ (.v (.cmp .lt (.var 2) (.bi .len (.cons (.ix (.var 0) (.con (.int 0))) .nil)))) [some (D.ref b), some (D.py (.int m)), some (D.py (.int a))] (st.set b (boxC row (a + 1))) = .ok (decide ((a : Int) < row.length)) (st.set b (boxC row (a + 1))) := by
    refine t_b (e_cmp (e_var rfl) (e_bi (es_cons hbox es_nil) (n_lenL.trans ?_)) c_lt)
    rw [List.length_map]
  unfold draw0C dv0
  refine (st_nx s1).trans ((st_nx s2).trans ?_)
  by_cases h : a < row.length
  · rw [decide_eq_true (show (a : Int) < row.length by omega)] at t3
    rw [if_pos h]
    refine st_fl ((s_ift t3).trans (st_fl (s_ret (e_bin (e_bi (es_cons (e_ix hbox (e_var rfl) ?_) es_nil) n_int) (e_var rfl) (b_mod hm))) (fun z => by cases z))) (fun z => by cases z)
    simp only [getix, intOf, Option.bind_some, List.length_map, ixN_nat h, List.getElem?_map]
    simp [List.getD_eq_getElem?_getD, List.getElem?_eq_getElem h]
  · rw [decide_eq_false (show ¬ (a : Int) < row.length by omega)] at t3
    rw [if_neg h]
    exact (st_nx ((s_iff t3).trans s_nil)).trans (st_fl (s_ret e_con) (fun z => by cases z))
theorem lst_wf {st : Store} (wf : WF st) (l : List Int) : WF (st ++ [lstI l]) := WF.app wf (by
  show (l.map fun i => D.py (.int i)).all _ = true
  rw [List.all_eq_true]
  intro d hd
  obtain ⟨i, _, rfl⟩ := List.mem_map.mp hd
  rfl)
theorem dig_ok {Δ : Dn} {fu fc N : Nat} {st : Store} {ns : List Int} (hN : N ≤ 63) (wf : WF st) (hc : ∀ (k : Nat) (s : Store), WF s → Δ fc [.scr ns, .py (.int k)] s = .ok (.py (.int (ns.getD k 0))) s) :
    ∃ l : List Int, runFn Δ fu 3 8 (digC fc) [.scr ns, .py (.int 0), .py (.int N)] st = .ok (.py (.list (l.map .int))) st := by
  have ref3 : ∀ {ρ : EnvD} {l : List Int}, ρ[3]? = some (some (.ref st.length)) → ev Δ (.var 3) ρ (st ++ [lstI l]) = .ok (.ref st.length) (st ++ [lstI l]) := fun {ρ l} h => e_ref h (get_last _ _) (by intro p z; cases z)
  have ev0 : ∀ {ρ : EnvD} {s : Store}, ρ[0]? = some (some (.scr ns)) → ev Δ (.var 0) ρ s = .ok (.scr ns) s := fun {ρ s} h => by
    unfold ev
    rw [h]
  have push : ∀ {ρ : EnvD} {l : List Int} {e : E} {z : Int}, ρ[3]? = some (some (.ref st.length)) → l.length ≤ 10000 → ev Δ e ρ (st ++ [lstI l]) = .ok (.py (.int z)) (st ++ [lstI l]) → ex Δ fu (.app (.var 3) e) ρ (st ++ [lstI l]) = .go .nx ρ (st ++ [lstI (l ++ [z])]) := fun {ρ l e z} h3 hl he =>
    s_app (ref3 h3) isLst_last he (app_last (show l.length < 16777216 by omega))
  obtain ⟨ρ', s', e1, l, rfl, rfl, hl⟩ := for_inv (f := fun d ρ st => bindT (.nm 4) st d ρ (exs Δ fu (dgB5 fc))) (fun i ρ s => ∃ l : List Int, ρ = [some (.scr ns), some (.py (.int 0)), some (.py (.int N)), some (.ref st.length), none, none, none, none] ∧ s = st ++ [lstI l] ∧ l.length ≤ 60 * i) (rangeD 0 (N : Int)) 0
    (fun j d ρ s hd hI => by
      rw [Nat.zero_add] at hI ⊢
      obtain ⟨l, rfl, rfl, hl⟩ := hI
      obtain ⟨hj, rfl⟩ := rangeD_at hd
      have z : (0 + (j : Int)) = (j : Int) := Int.zero_add _
      rw [z]
      have hj2 : j < 63 := by omega
      have s5 : ex Δ fu (.set 5 (.call fc (.cons (.var 0) (.cons (.var 4) .nil)))) [some (.scr ns), some (.py (.int 0)), some (.py (.int N)), some (.ref st.length), some (.py (.int j)), none, none, none] (st ++ [lstI l]) = .go .nx [some (.scr ns), some (.py (.int 0)), some (.py (.int N)), some (.ref st.length), some (.py (.int j)), some (.py (.int (ns.getD j 0))), none, none] (st ++ [lstI l]) := s_set (i := 5) (e_call (es_cons (ev0 rfl) (es_cons (e_var rfl) es_nil)) (hc j _ (lst_wf wf l)))
      obtain ⟨c, s6⟩ : ∃ c : Int, ex Δ fu (.ife (.v (.cmp .lt (.var 5) (.con (.int 0)))) (.cons (.set 5 (.bin .sub (.con (.int 1)) (.bin .mul (.con (.int 2)) (.var 5)))) .nil) .nil) [some (.scr ns), some (.py (.int 0)), some (.py (.int N)), some (.ref st.length), some (.py (.int j)), some (.py (.int (ns.getD j 0))), none, none] (st ++ [lstI l]) = .go .nx [some (.scr ns), some (.py (.int 0)), some (.py (.int N)), some (.ref st.length), some (.py (.int j)), some (.py (.int c)), none, none] (st ++ [lstI l]) := by
        have t := t_b (e_cmp (Δ := Δ) (ρ := [some (.scr ns), some (.py (.int 0)), some (.py (.int N)), some (.ref st.length), some (.py (.int j)), some (.py (.int (ns.getD j 0))), none, none]) (st := st ++ [lstI l]) (op := .lt) (e_var (i := 5) rfl) (e_con (p := .int 0)) c_lt)
        by_cases h : ns.getD j 0 < 0
        · rw [decide_eq_true h] at t
          exact ⟨_, (s_ift t).trans ((st_nx (s_set (i := 5) (e_bin e_con (e_bin e_con (e_var rfl) (b_mulL (small_of (by omega) (by omega)))) b_sub))).trans s_nil)⟩
        · rw [decide_eq_false h] at t
          exact ⟨_, (s_iff t).trans s_nil⟩
      have ge := t_b (e_cmp (Δ := Δ) (ρ := [some (.scr ns), some (.py (.int 0)), some (.py (.int N)), some (.ref st.length), some (.py (.int j)), some (.py (.int c)), none, none]) (st := st ++ [lstI l]) (op := .ge) (e_var (i := 5) rfl) (e_bin (e_con (p := .int 10)) (e_con (p := .int 18)) ten18) c_ge)
      have fin : ∀ {l' : List Int} {x5 x6 x7 : Option D}, ex Δ fu (.ife (.v (.cmp .ge (.var 5) (.bin .pow (.con (.int 10)) (.con (.int 18))))) dgB3 dgB4) [some (.scr ns), some (.py (.int 0)), some (.py (.int N)), some (.ref st.length), some (.py (.int j)), some (.py (.int c)), none, none] (st ++ [lstI l]) = .go .nx [some (.scr ns), some (.py (.int 0)), some (.py (.int N)), some (.ref st.length), some (.py (.int j)), x5, x6, x7] (st ++ [lstI l']) → l'.length ≤ 60 * (j + 1) →
          ∃ ρ' s', bindT (.nm 4) (st ++ [lstI l]) (.py (.int (j : Nat))) [some (.scr ns), some (.py (.int 0)), some (.py (.int N)), some (.ref st.length), none, none, none, none] (exs Δ fu (dgB5 fc)) = .go .nx ρ' s' ∧ ∃ l : List Int, ρ' = [some (.scr ns), some (.py (.int 0)), some (.py (.int N)), some (.ref st.length), none, none, none, none] ∧ s' = st ++ [lstI l] ∧ l.length ≤ 60 * (j + 1) := fun {l' x5 x6 x7} h hl' =>
        ⟨_, _, bind_nm.trans ((st_nx s5).trans ((st_nx s6).trans ((st_nx h).trans (st_drop.trans s_nil)))), l', rfl, rfl, hl'⟩
      by_cases h : (1000000000000000000 : Int) ≤ c
      · rw [decide_eq_true h] at ge
        obtain ⟨ρ2, s2, e2, c2, l2, rfl, rfl, hl2⟩ := for_inv (f := fun d ρ st => bindT (.nm 6) st d ρ (exs Δ fu dgB1)) (fun i ρ s => ∃ (c2 : Int) (l2 : List Int), ρ = [some (.scr ns), some (.py (.int 0)), some (.py (.int N)), some (.ref st.length), some (.py (.int j)), some (.py (.int c2)), none, none] ∧ s = st ++ [lstI l2] ∧ l2.length ≤ l.length + i) (rangeD 0 60) 0
          (fun i d ρ s hd hI => by
            rw [Nat.zero_add] at hI ⊢
            obtain ⟨c2, l2, rfl, rfl, hl2⟩ := hI
            have hi : i < 60 := (List.getElem?_eq_some_iff.mp hd).1
            have t := t_b (e_cmp (Δ := Δ) (ρ := [some (.scr ns), some (.py (.int 0)), some (.py (.int N)), some (.ref st.length), some (.py (.int j)), some (.py (.int c2)), some d, none]) (st := st ++ [lstI l2]) (op := .gt) (e_var (i := 5) rfl) (e_con (p := .int 0)) c_gt)
            by_cases hc2 : 0 < c2
            · rw [decide_eq_true hc2] at t
              exact ⟨_, _, bind_nm.trans ((st_nx ((s_ift t).trans ((st_nx (push rfl (by omega) (e_bin (e_bi (es_cons (e_var rfl) es_nil) n_int) e_con (b_mod (by omega))))).trans ((st_nx (s_set (i := 5) (e_bin (e_var rfl) e_con (b_fdiv (by omega) (by omega))))).trans s_nil)))).trans (st_drop.trans s_nil)), _, _, rfl, rfl, by rw [List.length_append, List.length_singleton]; omega⟩
            · rw [decide_eq_false hc2] at t
              exact ⟨_, _, bind_nm.trans ((st_nx ((s_iff t).trans s_nil)).trans (st_drop.trans s_nil)), c2, l2, rfl, rfl, by omega⟩)
          ⟨c, l, rfl, rfl, Nat.le_refl _⟩
        have h60 : (rangeD 0 60).length = 60 := rfl
        exact fin ((s_ift ge).trans ((st_nx ((s_for (i_rng e_con (by decide))).trans e2)).trans (st_drop.trans s_nil))) (by omega)
      · rw [decide_eq_false h] at ge
        obtain ⟨ρ2, s2, e2, c2, l2, rfl, rfl, hl2⟩ := for_inv (f := fun d ρ st => bindT (.nm 6) st d ρ (exs Δ fu dgB2)) (fun i ρ s => ∃ (c2 : Int) (l2 : List Int), ρ = [some (.scr ns), some (.py (.int 0)), some (.py (.int N)), some (.ref st.length), some (.py (.int j)), some (.py (.int c)), none, some (.py (.int c2))] ∧ s = st ++ [lstI l2] ∧ l2.length ≤ l.length + i) (rangeD 0 12) 0
          (fun i d ρ s hd hI => by
            rw [Nat.zero_add] at hI ⊢
            obtain ⟨c2, l2, rfl, rfl, hl2⟩ := hI
            obtain ⟨hi', rfl⟩ := rangeD_at hd
            have hi : i < 12 := (List.getElem?_eq_some_iff.mp hd).1
            exact ⟨_, _, bind_nm.trans ((st_nx (s_set (i := 7) (e_bin (e_bi (es_cons (e_bin (e_bin (e_bin (e_var rfl) e_con (b_mulR (small_of (by omega) (by omega)))) (e_bin e_con (e_var rfl) (b_mulL (small_of (by omega) (by omega)))) b_add) e_con b_add) es_nil) n_int) e_con (b_mod (by omega))))).trans ((st_nx (push rfl (by omega) (e_bin (e_bi (es_cons (e_bin (e_var rfl) e_con (b_fdiv (by omega) (by omega))) es_nil) n_int) e_con (b_mod (by omega))))).trans (st_drop.trans s_nil))), _, _, rfl, rfl, by rw [List.length_append, List.length_singleton]; omega⟩)
          (ρ := [some (.scr ns), some (.py (.int 0)), some (.py (.int N)), some (.ref st.length), some (.py (.int j)), some (.py (.int c)), none, some (.py (.int ((c * 48271 + j * 69621 + 11) % 2147483647)))]) (st := st ++ [lstI l]) ⟨_, l, rfl, rfl, Nat.le_refl _⟩
        have h12 : (rangeD 0 12).length = 12 := rfl
        exact fin ((s_iff ge).trans ((st_nx (s_set (i := 7) (e_bin (e_bi (es_cons (e_bin (e_bin (e_bin (e_var rfl) e_con (b_mulR (small_of (by omega) (by omega)))) (e_bin (e_var rfl) e_con (b_mulR (small_of (by omega) (by omega)))) b_add) e_con b_add) es_nil) n_int) e_con (b_mod (by omega))))).trans ((st_nx ((s_for (i_rng e_con (by decide))).trans e2)).trans (st_drop.trans s_nil)))) (by omega))
    (ρ := [some (.scr ns), some (.py (.int 0)), some (.py (.int N)), some (.ref st.length), none, none, none, none]) (st := st ++ [lstI []]) ⟨[], rfl, rfl, Nat.zero_le _⟩
  refine ⟨l, run_ret (ar := 3) (sl := 8) (b := digC fc) (ρ := [some (.scr ns), some (.py (.int 0)), some (.py (.int N)), some (.ref st.length), none, none, none, none]) (st' := st ++ [.frz (.list (l.map .int))]) rfl ?_ (trim_py _ wf)⟩
  unfold digC
  exact (st_nx (s_set (i := 3) (e_cell (st' := st) (l_lst es_nil (show 0 ≤ 16777216 by omega))))).trans ((st_nx ((s_for (i_rng2 (i := 0) (e_var rfl) (e_var rfl) (by decide) (fitN (by omega)))).trans e1)).trans (st_fl (s_ret (e_frz_ints (ref3 rfl))) (fun z => by cases z)))
end Ev
namespace La
open PySem PySem.Spec PyProof.Rows L2 Ev
def top (i : Nat) : Stmt := PySem.Challenge.pw_larderdays_k06_oldest_first_is_best.main.body.getD i (.Pass ⟨0, 0, 0, 0⟩)
def inC (s : Stmt) (i : Nat) : Stmt := match s with | .ClassDef _ _ _ b _ .. => b.getD i (.Pass ⟨0, 0, 0, 0⟩) | _ => .Pass ⟨0, 0, 0, 0⟩
/-- rows_of -/
abbrev c0b0 : Ss := (.cons (.ret (.li (.lst (.cons (.tup .nil) .nil)))) .nil)
abbrev c0b1 : Ss := (.cons (.set 2 (.bin .add (.var 2) (.li (.lc (.bin .add (.tup (.cons (.var 3) .nil)) (.var 4)) (.nm 4) [4] (.e (.call 0 (.cons (.bin .sub (.var 0) (.con (.int 1))) (.cons (.bin .sub (.var 1) (.var 3)) .nil)))) .yes)))) (.cons (.drop [3]) .nil))
def c0 : Ss := (.cons (.ife (.v (.cmp .eq (.var 0) (.con (.int 0)))) c0b0 .nil) (.cons (.set 2 (.li (.lst .nil))) (.cons (.for (.nm 3) (.rng (.bin .add (.var 1) (.con (.int 1)))) c0b1) (.cons (.ret (.var 2)) .nil))))
def T0 : FE := ⟨["length", "most"], ["length", "most", "found", "first", "rest"], c0, none⟩
/-- amounts -/
def c1 : Ss := (.cons (.ret (.bi .tuple (.cons (.li (.lc (.bi .sum (.cons (.var 1) .nil)) (.nm 1) [1] (.e (.var 0)) .yes)) .nil))) .nil)
def T1 : FE := ⟨["stock"], ["stock", "row"], c1, none⟩
/-- issued_row -/
abbrev c2b0 : Ss := (.cons (.set 5 (.bi .min2 (.cons (.var 4) (.cons (.var 3) .nil)))) (.cons (.aug 3 .sub (.var 5)) (.cons (.app (.var 2) (.bin .sub (.var 4) (.var 5))) (.cons (.drop [4, 5]) .nil))))
def c2 : Ss := (.cons (.set 2 (.cell (.lst .nil))) (.cons (.set 3 (.var 1)) (.cons (.for (.nm 4) (.e (.var 0)) c2b0) (.cons (.ret (.bi .tuple (.cons (.var 2) .nil))) .nil))))
def T2 : FE := ⟨["row", "many"], ["row", "many", "found", "left", "count", "taken"], c2, none⟩
/-- check_order -/
abbrev c3b0 : Ss := (.cons (.rse 1 "good" (.var 2)) .nil)
abbrev c3b1 : Ss := (.cons (.ife (.v (.cmp .lt (.var 3) (.var 4))) c3b0 .nil) (.cons (.drop [2, 3, 4]) .nil))
def c3 : Ss := (.cons (.for (.two (.nm 2) (.two (.nm 3) (.nm 4))) (.ezip (.call 1 (.cons (.var 0) .nil)) (.var 1)) c3b1) .nil)
def T3 : FE := ⟨["stock", "order"], ["stock", "order", "good", "has", "many"], c3, none⟩
/-- issue -/
def c4 : Ss := (.cons (.expr (.call 3 (.cons (.var 0) (.cons (.var 1) .nil)))) (.cons (.ret (.bi .tuple (.cons (.li (.lc (.call 2 (.cons (.var 2) (.cons (.var 3) .nil))) (.two (.nm 2) (.nm 3)) [2, 3] (.zip (.var 0) (.var 1)) .yes)) .nil))) .nil))
def T4 : FE := ⟨["stock", "order"], ["stock", "order", "row", "many"], c4, none⟩
/-- issued_rows -/
abbrev c5b0 : Ss := (.cons (.app (.var 2) (.bi .tuple (.cons (.li (.lc (.bin .sub (.var 5) (.var 4)) (.two (.nm 4) (.nm 5)) [4, 5] (.zip (.var 3) (.var 0)) .yes)) .nil))) .nil)
abbrev c5b1 : Ss := (.cons (.ife (.and (.v (.cmp .eq (.bi .sum (.cons (.var 3) .nil)) (.var 1))) (.v (.allZ 0 (.var 3) (.var 0)))) c5b0 .nil) (.cons (.drop [3]) .nil))
def c5 : Ss := (.cons (.set 2 (.cell (.lst .nil))) (.cons (.for (.nm 3) (.e (.call 0 (.cons (.bi .len (.cons (.var 0) .nil)) (.cons (.var 1) .nil)))) c5b1) (.cons (.ret (.frz (.var 2))) .nil)))
def T5 : FE := ⟨["row", "many"], ["row", "many", "found", "taken", "one", "count"], c5, some 0⟩
/-- issues -/
abbrev c6b0 : Ss := (.cons (.set 2 (.li (.lc2 (.bin .add (.var 5) (.tup (.cons (.var 6) .nil))) (.nm 5) [5, 6] (.e (.var 2)) (.nm 6) [6] (.e (.call 5 (.cons (.var 3) (.cons (.var 4) .nil))))))) (.cons (.drop [3, 4]) .nil))
def c6 : Ss := (.cons (.expr (.call 3 (.cons (.var 0) (.cons (.var 1) .nil)))) (.cons (.set 2 (.li (.lst (.cons (.tup .nil) .nil)))) (.cons (.for (.two (.nm 3) (.nm 4)) (.zip (.var 0) (.var 1)) c6b0) (.cons (.ret (.bi .sorted (.cons (.var 2) .nil))) .nil))))
def T6 : FE := ⟨["stock", "order"], ["stock", "order", "found", "row", "many", "first", "later"], c6, none⟩
/-- is_better -/
abbrev c7b0 : Ss := (.cons (.ret (.con (.bool false))) .nil)
abbrev c7b1 : Ss := (.cons (.ife (.v (.cmp .lt (.bi .sum (.cons (.sl (.var 2) (.so (.var 4)) .no) .nil)) (.bi .sum (.cons (.sl (.var 3) (.so (.var 4)) .no) .nil)))) c7b0 .nil) (.cons (.drop [4]) .nil))
abbrev c7b2 : Ss := (.cons (.for (.nm 4) (.rng (.bi .len (.cons (.var 2) .nil))) c7b1) (.cons (.drop [2, 3, 4]) .nil))
def c7 : Ss := (.cons (.for (.two (.nm 2) (.nm 3)) (.zip (.var 0) (.var 1)) c7b2) (.cons (.ret (.con (.bool true))) .nil))
def T7 : FE := ⟨["one", "other"], ["one", "other", "row", "less", "place"], c7, none⟩
/-- _law_cell -/
abbrev c8b0 : Ss := (.cons (.ret (.ix (.var 0) (.var 1))) .nil)
def c8 : Ss := (.cons (.ife (.v (.cmp .lt (.var 1) (.bi .len (.cons (.var 0) .nil)))) c8b0 .nil) (.cons (.ret (.con (.int 0))) .nil))
def T8 : FE := ⟨["_law_script", "_law_k"], ["_law_script", "_law_k"], c8, none⟩
/-- _law_digits -/
abbrev c9b0 : Ss := (.cons (.set 5 (.bin .sub (.con (.int 1)) (.bin .mul (.con (.int 2)) (.var 5)))) .nil)
abbrev c9b1 : Ss := (.cons (.app (.var 3) (.bin .mod (.bi .int (.cons (.var 5) .nil)) (.con (.int 1000)))) (.cons (.set 5 (.bin .fdiv (.var 5) (.con (.int 1000)))) .nil))
abbrev c9b2 : Ss := (.cons (.ife (.v (.cmp .gt (.var 5) (.con (.int 0)))) c9b1 .nil) (.cons (.drop [6]) .nil))
abbrev c9b3 : Ss := (.cons (.for (.nm 6) (.rng (.con (.int 60))) c9b2) (.cons (.drop [5, 6]) .nil))
abbrev c9b4 : Ss := (.cons (.set 7 (.bin .mod (.bi .int (.cons (.bin .add (.bin .add (.bin .mul (.var 7) (.con (.int 16807))) (.bin .mul (.con (.int 7)) (.var 6))) (.con (.int 1))) .nil)) (.con (.int 2147483647)))) (.cons (.app (.var 3) (.bin .mod (.bi .int (.cons (.bin .fdiv (.var 7) (.con (.int 997))) .nil)) (.con (.int 1000)))) (.cons (.drop [6]) .nil)))
abbrev c9b5 : Ss := (.cons (.set 7 (.bin .mod (.bi .int (.cons (.bin .add (.bin .add (.bin .mul (.var 5) (.con (.int 48271))) (.bin .mul (.var 4) (.con (.int 69621)))) (.con (.int 11))) .nil)) (.con (.int 2147483647)))) (.cons (.for (.nm 6) (.rng (.con (.int 12))) c9b4) (.cons (.drop [6, 7]) .nil)))
abbrev c9b6 : Ss := (.cons (.set 5 (.call 8 (.cons (.var 0) (.cons (.var 4) .nil)))) (.cons (.ife (.v (.cmp .lt (.var 5) (.con (.int 0)))) c9b0 .nil) (.cons (.ife (.v (.cmp .ge (.var 5) (.bin .pow (.con (.int 10)) (.con (.int 18))))) c9b3 c9b5) (.cons (.drop [4, 5, 6, 7]) .nil))))
def c9 : Ss := (.cons (.set 3 (.cell (.lst .nil))) (.cons (.for (.nm 4) (.rng2 (.var 1) (.var 2)) c9b6) (.cons (.ret (.frz (.var 3))) .nil)))
def T9 : FE := ⟨["_law_script", "_law_first", "_law_last"], ["_law_script", "_law_first", "_law_last", "_law_digits_here", "_law_k", "_law_cell_here", "_law_turn", "_law_seed"], c9, none⟩
/-- _law_draw -/
abbrev c10b0 : Ss := (.cons (.ret (.bin .mod (.bi .int (.cons (.ix (.ix (.var 0) (.con (.int 0))) (.var 2)) .nil)) (.var 1))) .nil)
def c10 : Ss := (.cons (.set 2 (.ix (.var 0) (.con (.int 1)))) (.cons (.stI (.var 0) (.con (.int 1)) (.bin .add (.var 2) (.con (.int 1)))) (.cons (.ife (.v (.cmp .lt (.var 2) (.bi .len (.cons (.ix (.var 0) (.con (.int 0))) .nil)))) c10b0 .nil) (.cons (.ret (.con (.int 0))) .nil))))
def T10 : FE := ⟨["_law_box", "_law_many"], ["_law_box", "_law_many", "_law_at"], c10, none⟩
/-- _law_counts -/
def c11 : Ss := (.cons (.ret (.bi .tuple (.cons (.li (.lc (.call 10 (.cons (.var 0) (.cons (.bin .add (.var 2) (.con (.int 1))) .nil))) (.nm 3) [3] (.rng (.var 1)) .yes)) .nil))) .nil)
def T11 : FE := ⟨["_law_box", "_law_goods", "_law_most"], ["_law_box", "_law_goods", "_law_most", "_law_good"], c11, none⟩
/-- _law_week -/
abbrev c12b0 : Ss := (.cons (.app (.var 5) (.var 7)) .nil)
abbrev c12b1 : Ss := (.cons (.set 7 (.call 11 (.cons (.var 0) (.cons (.var 1) (.cons (.var 2) .nil))))) (.cons (.ife (.v (.cmp .notin (.var 7) (.var 5))) c12b0 .nil) (.cons (.drop [6, 7]) .nil)))
abbrev c12b2 : Ss := (.cons (.set 5 (.cell (.lst .nil))) (.cons (.for (.nm 6) (.rng (.bin .add (.con (.int 1)) (.call 10 (.cons (.var 0) (.cons (.con (.int 3)) .nil))))) c12b1) (.cons (.app (.var 3) (.frz (.var 5))) (.cons (.drop [4, 5, 6, 7]) .nil))))
def c12 : Ss := (.cons (.set 3 (.cell (.lst .nil))) (.cons (.for (.nm 4) (.rng (.bin .add (.con (.int 1)) (.call 10 (.cons (.var 0) (.cons (.con (.int 2)) .nil))))) c12b2) (.cons (.ret (.frz (.var 3))) .nil)))
def T12 : FE := ⟨["_law_box", "_law_goods", "_law_most"], ["_law_box", "_law_goods", "_law_most", "_law_week_here", "_law_day", "_law_orders", "_law_turn", "_law_order"], c12, none⟩
/-- _law_parts -/
abbrev c13b0 : Ss := (.cons (.app (.var 4) (.tup (.cons (.call 10 (.cons (.var 0) (.cons (.con (.int 10)) .nil))) (.cons (.call 11 (.cons (.var 0) (.cons (.var 1) (.cons (.con (.int 2)) .nil)))) .nil)))) (.cons (.drop [5]) .nil))
def c13 : Ss := (.cons (.set 3 (.li (.lc (.bin .add (.con (.int 1)) (.call 10 (.cons (.var 0) (.cons (.var 2) .nil)))) (.nm 7) [7] (.rng (.var 1)) .yes))) (.cons (.set 4 (.cell (.lst .nil))) (.cons (.for (.nm 5) (.rng (.bin .add (.con (.int 1)) (.call 10 (.cons (.var 0) (.cons (.con (.int 3)) .nil))))) c13b0) (.cons (.set 6 (.ix (.li (.lst (.cons (.con .none) (.cons (.con .none) (.cons (.call 10 (.cons (.var 0) (.cons (.con (.int 20)) .nil))) .nil))))) (.call 10 (.cons (.var 0) (.cons (.con (.int 3)) .nil))))) (.cons (.ret (.li (.lst (.cons (.var 3) (.cons (.frz (.var 4)) (.cons (.bin .add (.con (.int 1)) (.call 10 (.cons (.var 0) (.cons (.con (.int 2)) .nil)))) (.cons (.call 12 (.cons (.var 0) (.cons (.var 1) (.cons (.ix (.li (.lst (.cons (.con (.int 1)) (.cons (.con (.int 2)) (.cons (.con (.int 3)) .nil))))) (.call 10 (.cons (.var 0) (.cons (.con (.int 3)) .nil)))) .nil)))) (.cons (.var 6) .nil)))))))) .nil)))))
def T13 : FE := ⟨["_law_box", "_law_goods", "_law_longest"], ["_law_box", "_law_goods", "_law_longest", "_law_keep", "_law_patterns", "_law_turn", "_law_budget", "_law_good"], c13, none⟩
/-- _law_small -/
def c14 : Ss := (.cons (.ret (.call 13 (.cons (.var 0) (.cons (.bin .add (.con (.int 1)) (.call 10 (.cons (.var 0) (.cons (.con (.int 2)) .nil)))) (.cons (.con (.int 2)) .nil))))) .nil)
def T14 : FE := ⟨["_law_box"], ["_law_box"], c14, none⟩
/-- _law_rows -/
abbrev c15b0 : Ss := (.cons (.set 4 (.bin .add (.var 4) (.li (.lc (.bin .add (.var 5) (.tup (.cons (.var 6) .nil))) (.nm 6) [6] (.rng (.bin .sub (.bin .add (.var 1) (.con (.int 1))) (.bi .sum (.cons (.var 5) .nil)))) .yes)))) (.cons (.drop [5]) .nil))
abbrev c15b1 : Ss := (.cons (.set 4 (.li (.lst .nil))) (.cons (.for (.nm 5) (.e (.var 2)) c15b0) (.cons (.set 2 (.var 4)) (.cons (.drop [3, 4, 5]) .nil))))
def c15 : Ss := (.cons (.set 2 (.li (.lst (.cons (.tup .nil) .nil)))) (.cons (.for (.nm 3) (.rng (.var 0)) c15b1) (.cons (.ret (.bi .sorted (.cons (.var 2) .nil))) .nil)))
def T15 : FE := ⟨["_law_length", "_law_most"], ["_law_length", "_law_most", "_law_rows_here", "_law_turn", "_law_longer", "_law_row", "_law_more"], c15, none⟩
/-- _law_cost -/
abbrev c16b0 : Ss := (.cons (.set 2 (.bin .add (.var 2) (.bin .mul (.ix (.var 1) (.var 3)) (.ix (.ix (.ix (.var 0) (.con (.int 1))) (.var 3)) (.con (.int 0)))))) (.cons (.drop [3]) .nil))
def c16 : Ss := (.cons (.set 2 (.con (.int 0))) (.cons (.for (.nm 3) (.rng (.bi .len (.cons (.var 1) .nil))) c16b0) (.cons (.ret (.var 2)) .nil)))
def T16 : FE := ⟨["_law_parts_here", "_law_choice"], ["_law_parts_here", "_law_choice", "_law_total", "_law_k"], c16, none⟩
/-- _law_choices -/
def c17 : Ss := (.cons (.set 1 (.call 15 (.cons (.bi .len (.cons (.ix (.var 0) (.con (.int 1))) .nil)) (.cons (.ix (.var 0) (.con (.int 2))) .nil)))) (.cons (.ret (.li (.lc (.var 2) (.nm 2) [2] (.e (.var 1)) (.or (.v (.isc .none false (.ix (.var 0) (.con (.int 4))))) (.v (.cmp .le (.call 16 (.cons (.var 0) (.cons (.var 2) .nil))) (.ix (.var 0) (.con (.int 4))))))))) .nil))
def T17 : FE := ⟨["_law_parts_here"], ["_law_parts_here", "_law_rows_here", "_law_row"], c17, none⟩
/-- _law_gives -/
abbrev c18b0 : Ss := (.cons (.set 4 (.bin .add (.var 4) (.bin .mul (.ix (.var 1) (.var 5)) (.ix (.ix (.ix (.ix (.var 0) (.con (.int 1))) (.var 5)) (.con (.int 1))) (.var 3))))) (.cons (.drop [5]) .nil))
abbrev c18b1 : Ss := (.cons (.set 4 (.con (.int 0))) (.cons (.for (.nm 5) (.rng (.bi .len (.cons (.var 1) .nil))) c18b0) (.cons (.app (.var 2) (.var 4)) (.cons (.drop [3, 4, 5]) .nil))))
def c18 : Ss := (.cons (.set 2 (.cell (.lst .nil))) (.cons (.for (.nm 3) (.rng (.bi .len (.cons (.ix (.var 0) (.con (.int 0))) .nil))) c18b1) (.cons (.ret (.frz (.var 2))) .nil)))
def T18 : FE := ⟨["_law_parts_here", "_law_choice"], ["_law_parts_here", "_law_choice", "_law_found", "_law_good", "_law_total", "_law_k"], c18, none⟩
/-- _law_stock -/
def c19 : Ss := (.cons (.ret (.bi .tuple (.cons (.li (.lc (.bi .tuple (.cons (.li (.lc (.call 10 (.cons (.var 0) (.cons (.bin .add (.var 2) (.con (.int 1))) .nil))) (.nm 4) [4] (.rng (.var 3)) .yes)) .nil)) (.nm 3) [3] (.e (.ix (.var 1) (.con (.int 0)))) .yes)) .nil))) .nil)
def T19 : FE := ⟨["_law_box", "_law_parts_here", "_law_most"], ["_law_box", "_law_parts_here", "_law_most", "_law_days", "_law_place"], c19, none⟩
/-- _law_none -/
def c20 : Ss := (.cons (.ret (.bi .tuple (.cons (.li (.lc (.bin .mul (.tup (.cons (.con (.int 0)) .nil)) (.var 1)) (.nm 1) [1] (.e (.ix (.var 0) (.con (.int 0)))) .yes)) .nil))) .nil)
def T20 : FE := ⟨["_law_parts_here"], ["_law_parts_here", "_law_days"], c20, none⟩
/-- _law_cut -/
def c21 : Ss := (.cons (.set 3 (.call 18 (.cons (.var 0) (.cons (.var 2) .nil)))) (.cons (.ret (.li (.lc (.bin .add (.li (.seq (.sl (.ix (.var 1) (.var 4)) .no (.so (.neg (.con (.int 1))))))) (.li (.lst (.cons (.bin .add (.ix (.ix (.var 1) (.var 4)) (.neg (.con (.int 1)))) (.ix (.var 3) (.var 4))) .nil)))) (.nm 4) [4] (.rng (.bi .len (.cons (.var 1) .nil))) .yes))) .nil))
def T21 : FE := ⟨["_law_parts_here", "_law_stock_here", "_law_choice"], ["_law_parts_here", "_law_stock_here", "_law_choice", "_law_gives_here", "_law_good"], c21, none⟩
/-- _law_sold -/
abbrev c22b0 : Ss := (.cons (.stI (.ix (.var 2) (.var 3)) (.var 5) (.bin .sub (.ix (.ix (.var 2) (.var 3)) (.var 5)) (.con (.int 1)))) (.cons (.set 4 (.bin .sub (.var 4) (.con (.int 1)))) .nil))
abbrev c22b1 : Ss := (.cons (.whl (.and (.v (.cmp .gt (.var 4) (.con (.int 0)))) (.v (.cmp .gt (.ix (.ix (.var 2) (.var 3)) (.var 5)) (.con (.int 0))))) c22b0) (.cons (.drop [5]) .nil))
abbrev c22b2 : Ss := (.cons (.ret (.con .none)) .nil)
abbrev c22b3 : Ss := (.cons (.set 4 (.ix (.var 1) (.var 3))) (.cons (.for (.nm 5) (.rng (.bi .len (.cons (.ix (.var 2) (.var 3)) .nil))) c22b1) (.cons (.ife (.v (.cmp .gt (.var 4) (.con (.int 0)))) c22b2 .nil) (.cons (.drop [3, 4, 5]) .nil))))
def c22 : Ss := (.cons (.set 2 (.cell (.lc (.cell (.seq (.var 6))) (.nm 6) [6] (.e (.var 0)) .yes))) (.cons (.for (.nm 3) (.rng (.bi .len (.cons (.var 2) .nil))) c22b3) (.cons (.ret (.frz (.var 2))) .nil)))
def T22 : FE := ⟨["_law_stock_here", "_law_order"], ["_law_stock_here", "_law_order", "_law_rows_here", "_law_good", "_law_left", "_law_place", "_law_row"], c22, none⟩
/-- _law_night -/
def c23 : Ss := (.cons (.set 1 (.bi .tuple (.cons (.li (.lc (.bi .tuple (.cons (.bin .add (.sl (.var 2) (.so (.con (.int 1))) .no) (.li (.lst (.cons (.con (.int 0)) .nil)))) .nil)) (.nm 2) [2] (.e (.var 0)) .yes)) .nil))) (.cons (.ret (.li (.lst (.cons (.var 1) (.cons (.bi .tuple (.cons (.li (.lc (.ix (.var 2) (.con (.int 0))) (.nm 2) [2] (.e (.var 0)) .yes)) .nil)) .nil))))) .nil))
def T23 : FE := ⟨["_law_rows_here"], ["_law_rows_here", "_law_later", "_law_row"], c23, none⟩
/-- _law_next -/
abbrev c24b0 : Ss := (.cons (.ret (.con .none)) .nil)
def c24 : Ss := (.cons (.set 4 (.call 22 (.cons (.call 21 (.cons (.var 0) (.cons (.ix (.var 1) (.con (.int 1))) (.cons (.var 2) .nil)))) (.cons (.var 3) .nil)))) (.cons (.ife (.v (.isc .none false (.var 4))) c24b0 .nil) (.cons (.ret (.tup (.cons (.bin .mod (.bi .int (.cons (.bin .add (.ix (.var 1) (.con (.int 0))) (.con (.int 1))) .nil)) (.bi .len (.cons (.ix (.var 0) (.con (.int 3))) .nil))) (.cons (.ix (.call 23 (.cons (.var 4) .nil)) (.con (.int 0))) .nil)))) .nil)))
def T24 : FE := ⟨["_law_parts_here", "_law_state", "_law_choice", "_law_order"], ["_law_parts_here", "_law_state", "_law_choice", "_law_order", "_law_rows_here"], c24, none⟩
/-- _law_better -/
abbrev c25b0 : Ss := (.cons (.ret (.con (.bool false))) .nil)
abbrev c25b1 : Ss := (.cons (.ife (.v (.cmp .lt (.bi .sum (.cons (.sl (.ix (.var 0) (.var 2)) (.so (.var 3)) .no) .nil)) (.bi .sum (.cons (.sl (.ix (.var 1) (.var 2)) (.so (.var 3)) .no) .nil)))) c25b0 .nil) (.cons (.drop [3]) .nil))
abbrev c25b2 : Ss := (.cons (.for (.nm 3) (.rng (.bi .len (.cons (.ix (.var 0) (.var 2)) .nil))) c25b1) (.cons (.drop [2, 3]) .nil))
def c25 : Ss := (.cons (.for (.nm 2) (.rng (.bi .len (.cons (.var 0) .nil))) c25b2) (.cons (.ret (.con (.bool true))) .nil))
def T25 : FE := ⟨["_law_one", "_law_other"], ["_law_one", "_law_other", "_law_good", "_law_place"], c25, none⟩
/-- _law_takes -/
abbrev c26b0 : Ss := (.cons (.set 4 (.bin .add (.var 4) (.li (.lc (.bin .add (.var 5) (.tup (.cons (.var 6) .nil))) (.nm 6) [6] (.rng (.bin .add (.bi .min2 (.cons (.var 3) (.cons (.bin .sub (.var 1) (.bi .sum (.cons (.var 5) .nil))) .nil))) (.con (.int 1)))) .yes)))) (.cons (.drop [5]) .nil))
abbrev c26b1 : Ss := (.cons (.set 4 (.li (.lst .nil))) (.cons (.for (.nm 5) (.e (.var 2)) c26b0) (.cons (.set 2 (.var 4)) (.cons (.drop [3, 4, 5]) .nil))))
def c26 : Ss := (.cons (.set 2 (.li (.lst (.cons (.tup .nil) .nil)))) (.cons (.for (.nm 3) (.e (.var 0)) c26b1) (.cons (.ret (.li (.lc (.var 5) (.nm 5) [5] (.e (.var 2)) (.v (.cmp .eq (.bi .sum (.cons (.var 5) .nil)) (.var 1)))))) .nil)))
def T26 : FE := ⟨["_law_row", "_law_many"], ["_law_row", "_law_many", "_law_rows_here", "_law_count", "_law_longer", "_law_one", "_law_more"], c26, none⟩
/-- law -/
abbrev c27b0 : Ss := (.cons (.app (.var 10) (.bin .add (.var 11) (.tup (.cons (.bi .tuple (.cons (.li (.lc (.bin .sub (.ix (.ix (.var 3) (.var 6)) (.var 14)) (.ix (.var 12) (.var 14))) (.nm 14) [14] (.rng (.bi .len (.cons (.var 12) .nil))) .yes)) .nil)) .nil)))) (.cons (.drop [12]) .nil))
abbrev c27b1 : Ss := (.cons (.for (.nm 12) (.e (.call 26 (.cons (.ix (.var 3) (.var 6)) (.cons (.ix (.var 4) (.var 6)) .nil)))) c27b0) (.cons (.drop [11, 12]) .nil))
abbrev c27b2 : Ss := (.cons (.set 10 (.cell (.lst .nil))) (.cons (.for (.nm 11) (.e (.var 5)) c27b1) (.cons (.set 5 (.frz (.var 10))) (.cons (.drop [6, 10, 11, 12]) .nil))))
abbrev c27b3 : Ss := (.cons (.ret (.con (.bool false))) .nil)
abbrev c27b4 : Ss := (.cons (.ret (.con (.bool false))) .nil)
abbrev c27b5 : Ss := (.cons (.ret (.con (.bool false))) .nil)
abbrev c27b6 : Ss := (.cons (.ife (.or (.v (.isc (.bool true) true (.call 7 (.cons (.var 8) (.cons (.var 9) .nil))))) (.v (.cmp .ne (.call 7 (.cons (.var 9) (.cons (.var 8) .nil))) (.call 25 (.cons (.var 9) (.cons (.var 8) .nil)))))) c27b5 .nil) (.cons (.drop [9]) .nil))
def c27 : Ss := (.cons (.set 1 (.cell (.lst (.cons (.call 9 (.cons (.var 0) (.cons (.con (.int 0)) (.cons (.con (.int 63)) .nil)))) (.cons (.con (.int 0)) .nil))))) (.cons (.set 2 (.call 13 (.cons (.var 1) (.cons (.bin .add (.con (.int 1)) (.call 10 (.cons (.var 1) (.cons (.con (.int 3)) .nil)))) (.cons (.con (.int 3)) .nil))))) (.cons (.set 3 (.call 19 (.cons (.var 1) (.cons (.var 2) (.cons (.con (.int 2)) .nil))))) (.cons (.set 4 (.bi .tuple (.cons (.li (.lc (.call 10 (.cons (.var 1) (.cons (.bin .add (.bi .sum (.cons (.var 13) .nil)) (.con (.int 1))) .nil))) (.nm 13) [13] (.e (.var 3)) .yes)) .nil))) (.cons (.set 5 (.li (.lst (.cons (.tup .nil) .nil)))) (.cons (.for (.nm 6) (.rng (.bi .len (.cons (.var 3) .nil))) c27b2) (.cons (.set 7 (.call 6 (.cons (.var 3) (.cons (.var 4) .nil)))) (.cons (.ife (.or (.nt (.v (.inst "list" (.var 7)))) (.v (.cmp .ne (.var 7) (.bi .sorted (.cons (.var 5) .nil))))) c27b3 .nil) (.cons (.set 8 (.call 4 (.cons (.var 3) (.cons (.var 4) .nil)))) (.cons (.ife (.v (.cmp .notin (.var 8) (.var 7))) c27b4 .nil) (.cons (.for (.nm 9) (.e (.var 7)) c27b6) (.cons (.ret (.con (.bool true))) .nil))))))))))))
def T27 : FE := ⟨["_law_script"], ["_law_script", "_law_box", "_law_parts_here", "_law_stock_here", "_law_order", "_law_due", "_law_good", "_law_told", "_law_best", "_law_other", "_law_later", "_law_first", "_law_taken", "_law_row", "_law_k"], c27, none⟩
def T : List FE := [T0, T1, T2, T3, T4, T5, T6, T7, T8, T9, T10, T11, T12, T13, T14, T15, T16, T17, T18, T19, T20, T21, T22, T23, T24, T25, T26, T27]
def D0 : DE1 := ⟨"rows_of", none, (top 4), []⟩
def D1 : DE1 := ⟨"amounts", none, (top 6), []⟩
def D2 : DE1 := ⟨"issued_row", none, (top 7), []⟩
def D3 : DE1 := ⟨"check_order", none, (top 8), []⟩
def D4 : DE1 := ⟨"issue", none, (top 9), []⟩
def D5 : DE1 := ⟨"issued_rows", none, (top 10), []⟩
def D6 : DE1 := ⟨"issues", none, (top 11), []⟩
def D7 : DE1 := ⟨"is_better", none, (top 12), []⟩
def D8 : DE1 := ⟨"_law_cell", none, (top 14), []⟩
def D9 : DE1 := ⟨"_law_digits", none, (top 15), []⟩
def D10 : DE1 := ⟨"_law_draw", none, (top 16), []⟩
def D11 : DE1 := ⟨"_law_counts", none, (top 17), []⟩
def D12 : DE1 := ⟨"_law_week", none, (top 18), []⟩
def D13 : DE1 := ⟨"_law_parts", none, (top 19), []⟩
def D14 : DE1 := ⟨"_law_small", none, (top 20), []⟩
def D15 : DE1 := ⟨"_law_rows", none, (top 21), []⟩
def D16 : DE1 := ⟨"_law_cost", none, (top 22), []⟩
def D17 : DE1 := ⟨"_law_choices", none, (top 23), []⟩
def D18 : DE1 := ⟨"_law_gives", none, (top 24), []⟩
def D19 : DE1 := ⟨"_law_stock", none, (top 25), []⟩
def D20 : DE1 := ⟨"_law_none", none, (top 26), []⟩
def D21 : DE1 := ⟨"_law_cut", none, (top 27), []⟩
def D22 : DE1 := ⟨"_law_sold", none, (top 28), []⟩
def D23 : DE1 := ⟨"_law_night", none, (top 29), []⟩
def D24 : DE1 := ⟨"_law_next", none, (top 30), []⟩
def D25 : DE1 := ⟨"_law_better", none, (top 31), []⟩
def D26 : DE1 := ⟨"_law_takes", none, (top 32), []⟩
def D27 : DE1 := ⟨"law", none, (top 33), []⟩
def ds : DL1 := [D0, D1, D2, D3, D4, D5, D6, D7, D8, D9, D10, D11, D12, D13, D14, D15, D16, D17, D18, D19, D20, D21, D22, D23, D24, D25, D26, D27]
def cs : List CE1 := []
def gs : List (Str × PD) := []
theorem b0 : BindB D0 T0.ps := ⟨fun _ _ _ _ _ _ _ us hl => match us, hl with | [_, _], _ => rfl, fun h => absurd rfl h⟩
theorem b1 : BindB D1 T1.ps := ⟨fun _ _ _ _ _ _ _ us hl => match us, hl with | [_], _ => rfl, fun h => absurd rfl h⟩
theorem b2 : BindB D2 T2.ps := ⟨fun _ _ _ _ _ _ _ us hl => match us, hl with | [_, _], _ => rfl, fun h => absurd rfl h⟩
theorem b3 : BindB D3 T3.ps := ⟨fun _ _ _ _ _ _ _ us hl => match us, hl with | [_, _], _ => rfl, fun h => absurd rfl h⟩
theorem b4 : BindB D4 T4.ps := ⟨fun _ _ _ _ _ _ _ us hl => match us, hl with | [_, _], _ => rfl, fun h => absurd rfl h⟩
theorem b5 : BindB D5 T5.ps := ⟨fun _ _ _ _ _ _ _ us hl => match us, hl with | [_, _], _ => rfl, fun h => absurd rfl h⟩
theorem b6 : BindB D6 T6.ps := ⟨fun _ _ _ _ _ _ _ us hl => match us, hl with | [_, _], _ => rfl, fun h => absurd rfl h⟩
theorem b7 : BindB D7 T7.ps := ⟨fun _ _ _ _ _ _ _ us hl => match us, hl with | [_, _], _ => rfl, fun h => absurd rfl h⟩
theorem b8 : BindB D8 T8.ps := ⟨fun _ _ _ _ _ _ _ us hl => match us, hl with | [_, _], _ => rfl, fun h => absurd rfl h⟩
theorem b9 : BindB D9 T9.ps := ⟨fun _ _ _ _ _ _ _ us hl => match us, hl with | [_, _, _], _ => rfl, fun h => absurd rfl h⟩
theorem b10 : BindB D10 T10.ps := ⟨fun _ _ _ _ _ _ _ us hl => match us, hl with | [_, _], _ => rfl, fun h => absurd rfl h⟩
theorem b11 : BindB D11 T11.ps := ⟨fun _ _ _ _ _ _ _ us hl => match us, hl with | [_, _, _], _ => rfl, fun h => absurd rfl h⟩
theorem b12 : BindB D12 T12.ps := ⟨fun _ _ _ _ _ _ _ us hl => match us, hl with | [_, _, _], _ => rfl, fun h => absurd rfl h⟩
theorem b13 : BindB D13 T13.ps := ⟨fun _ _ _ _ _ _ _ us hl => match us, hl with | [_, _, _], _ => rfl, fun h => absurd rfl h⟩
theorem b14 : BindB D14 T14.ps := ⟨fun _ _ _ _ _ _ _ us hl => match us, hl with | [_], _ => rfl, fun h => absurd rfl h⟩
theorem b15 : BindB D15 T15.ps := ⟨fun _ _ _ _ _ _ _ us hl => match us, hl with | [_, _], _ => rfl, fun h => absurd rfl h⟩
theorem b16 : BindB D16 T16.ps := ⟨fun _ _ _ _ _ _ _ us hl => match us, hl with | [_, _], _ => rfl, fun h => absurd rfl h⟩
theorem b17 : BindB D17 T17.ps := ⟨fun _ _ _ _ _ _ _ us hl => match us, hl with | [_], _ => rfl, fun h => absurd rfl h⟩
theorem b18 : BindB D18 T18.ps := ⟨fun _ _ _ _ _ _ _ us hl => match us, hl with | [_, _], _ => rfl, fun h => absurd rfl h⟩
theorem b19 : BindB D19 T19.ps := ⟨fun _ _ _ _ _ _ _ us hl => match us, hl with | [_, _, _], _ => rfl, fun h => absurd rfl h⟩
theorem b20 : BindB D20 T20.ps := ⟨fun _ _ _ _ _ _ _ us hl => match us, hl with | [_], _ => rfl, fun h => absurd rfl h⟩
theorem b21 : BindB D21 T21.ps := ⟨fun _ _ _ _ _ _ _ us hl => match us, hl with | [_, _, _], _ => rfl, fun h => absurd rfl h⟩
theorem b22 : BindB D22 T22.ps := ⟨fun _ _ _ _ _ _ _ us hl => match us, hl with | [_, _], _ => rfl, fun h => absurd rfl h⟩
theorem b23 : BindB D23 T23.ps := ⟨fun _ _ _ _ _ _ _ us hl => match us, hl with | [_], _ => rfl, fun h => absurd rfl h⟩
theorem b24 : BindB D24 T24.ps := ⟨fun _ _ _ _ _ _ _ us hl => match us, hl with | [_, _, _, _], _ => rfl, fun h => absurd rfl h⟩
theorem b25 : BindB D25 T25.ps := ⟨fun _ _ _ _ _ _ _ us hl => match us, hl with | [_, _], _ => rfl, fun h => absurd rfl h⟩
theorem b26 : BindB D26 T26.ps := ⟨fun _ _ _ _ _ _ _ us hl => match us, hl with | [_, _], _ => rfl, fun h => absurd rfl h⟩
theorem b27 : BindB D27 T27.ps := ⟨fun _ _ _ _ _ _ _ us hl => match us, hl with | [_], _ => rfl, fun h => absurd rfl h⟩
def ts : List Nat := [5]
def es : List EC1 := [⟨"LarderdaysError", none, [0, 1]⟩, ⟨"Short", some "good", [1]⟩]
def file : Str := PySem.Challenge.pw_larderdays_k06_oldest_first_is_best.main.file
theorem bAll : AllB ds T := ⟨b0, b1, b2, b3, b4, b5, b6, b7, b8, b9, b10, b11, b12, b13, b14, b15, b16, b17, b18, b19, b20, b21, b22, b23, b24, b25, b26, b27, trivial⟩
theorem kAll : okL (sgL ds T cs gs es) ds T = true := by decide +kernel
theorem cAll : okC ds T cs gs = true := by decide +kernel
def loose : List PySem.Str := (["LarderdaysError", "Short", "rows_of", "amounts", "issued_row", "check_order", "issue", "issued_rows", "issues", "is_better", "_law_cell", "_law_digits", "_law_draw", "_law_counts", "_law_week", "_law_parts", "_law_small", "_law_rows", "_law_cost", "_law_choices", "_law_gives", "_law_stock", "_law_none", "_law_cut", "_law_sold", "_law_night", "_law_next", "_law_better", "_law_takes"] : List PySem.Str)
abbrev R : PySem.W.OpenRow := PySem.W.OpenLaw.row PySem.Challenge.rw_larderdays_k06_oldest_first_is_best
abbrev hk : PySem.W.Hook := hookSt 6 (faL ds cs gs) (fnL ds) (tfL ds ts) (exL ds ts file es)
def ob (s : PySem.W.SharedT) : He.AlX := obSt 6 (faL ds cs gs) (fnL ds) (tfL ds ts) (exL ds ts file es) (HandSHeadRun.getT s)
theorem ob_eq (s : PySem.W.SharedT) : ob s = hk.obs s.abs := obSt_eq (HandSHeadRun.getT_eq s)
theorem run (w : World) : HandSHeadRun.RunEq R (PySem.W.view R.prog [33]) hk ob 20000 loose w := by
  intro os
  kernel_rfl
end La
set_option maxHeartbeats 1000000
namespace La
open PySem Ev
abbrev Qs := List (Int × List Int)
abbrev patT (q : Int × List Int) : PD := .tuple [.int q.1, tI q.2]
abbrev lI (l : List Int) : PD := .list (l.map .int)
def buD : Option Int → PD
  | none => .none
  | some i => .int i
theorem frz_at {st : Store} {n : Nat} {l : List PD} (h : st[n]? = some (.lst (l.map .py))) : frzD 6 st (.ref n) = some (.list l, st.set n (.frz (.list l))) := by
  have go : ∀ (k : Nat) (l : List PD) (acc : List PD) (s : Store), (l.map D.py).foldlM (fun (p : List PD × Store) d => (frzD k p.2 d).map fun q => (p.1 ++ [q.1], q.2)) (acc, s) = some (acc ++ l, s) := by
    intro k l
    induction l with
    | nil => intro acc s; simp
    | cons a r ih =>
      intro acc s
      simp only [List.map_cons, List.foldlM_cons]
      have e : frzD k s (.py a) = some (a, s) := by cases k <;> rfl
      rw [e]
      show List.foldlM _ (acc ++ [a], s) _ = _
      rw [ih]
      simp
  unfold frzD
  rw [h]
  simp only
  rw [go 5 l [] _]
  simp
theorem e_frz_at {Δ : Dn} {a : E} {ρ : EnvD} {st0 st : Store} {n : Nat} {l : List PD} (h : ev Δ a ρ st0 = .ok (.ref n) st) (hs : st[n]? = some (.lst (l.map .py))) : ev Δ (.frz a) ρ st0 = .ok (.py (.list l)) (st.set n (.frz (.list l))) := by
  unfold ev
  rw [h, Rs.bind_ok, frz_at hs]
theorem shaped_tIs (R : List (List Int)) : SeqAt.shaped (.list (R.map tI)) = true := by
  unfold SeqAt.shaped
  have a1 : ∀ R : List (List Int), PyData.canLayAll0 (R.map tI) = true := fun R => by
    induction R with
    | nil => rfl
    | cons r R ih =>
      rw [List.map_cons]
      unfold PyData.canLayAll0
      rw [ih]
      have := shaped_t r
      unfold SeqAt.shaped at this
      rw [(Bool.and_eq_true_iff.mp this).1]; rfl
  have a2 : ∀ R : List (List Int), PyData.depthAll (R.map tI) ≤ 1 := fun R => by
    induction R with
    | nil => exact Nat.zero_le _
    | cons r R ih =>
      show max (tI r).depth (PyData.depthAll (R.map tI)) ≤ 1
      refine Nat.max_le.mpr ⟨?_, ih⟩
      unfold tI
      simp only [PyData.depth, depthAll_ints]
      exact Nat.le_refl 1
  have a3 : (PyData.list (R.map tI)).depth ≤ 64 := by
    show PyData.depthAll _ + 1 ≤ 64
    have := a2 R
    omega
  simp only [PyData.canLay0]
  rw [a1, decide_eq_true a3]; rfl
def Draws0 (Δ : Dn) (fd : Nat) : Prop := ∀ (row : List Int) (a : Nat) (m : Int) (X : Store), WF (BY row a X) → 0 < m → Δ fd [.ref 1, .py (.int m)] (BY row a X) = .ok (.py (.int (dv0 row a m))) (BY row (a + 1) X)
theorem e_drw0 {Δ : Dn} {fd : Nat} {ρ : EnvD} {row : List Int} {a : Nat} {X : Store} (hD : Draws0 Δ fd) {i : Nat} {e : E} {m : Int} (h : ρ[i]? = some (some (.ref 1))) (he : ev Δ e ρ (BY row a X) = .ok (.py (.int m)) (BY row a X)) (wf : WF (BY row a X)) (hm : 0 < m) :
    ev Δ (.call fd (.cons (.var i) (.cons e .nil))) ρ (BY row a X) = .ok (.py (.int (dv0 row a m))) (BY row (a + 1) X) := e_call (es_cons (e_boxY h) (es_cons he es_nil)) (hD row a m X wf hm)
theorem at_mem {l : List Int} {j : Int} (h0 : 0 ≤ j) (h1 : j < l.length) : l.getD j.toNat 0 ∈ l := by
  rw [List.getD_eq_getElem?_getD, List.getElem?_eq_getElem (show j.toNat < l.length by omega)]
  exact List.getElem_mem _
section
variable {fu n a : Nat} {row : List Int} {X : Store}
theorem drw : Draws0 (lvl T fu (n + 1)) 10 := fun row a m X wf hm => by
  show runFn (lvl T fu n) fu 2 3 c10 [.ref 1, .py (.int m)] (BY row a X) = _
  exact draw0_ok (Δ := lvl T fu n) (fu := fu) (b := 1) (row := row) (a := a) (st := BY row a X) rfl wf hm
theorem y_wf {a : Nat} : WF (BY row a []) := WF.by_ rfl
abbrev cnt (row : List Int) (a g : Nat) (m : Int) : List Int := drL (fun a => dv0 row a (m + 1)) a g
theorem cnt_len {g : Nat} {m : Int} : (cnt row a g m).length = g := drL_len g
theorem counts_ok (wf : WF (BY row a X)) {g : Nat} {m : Int} (hg : g ≤ 1000) (hm : 0 ≤ m) : lvl T fu (n + 2) 11 [.ref 1, .py (.int g), .py (.int m)] (BY row a X) = .ok (.py (tI (cnt row a g m))) (BY row (a + g) X) := by
  show runFn (lvl T fu (n + 1)) fu 3 4 c11 [.ref 1, .py (.int g), .py (.int m)] (BY row a X) = _
  have hlc := l_draws (Δ := lvl T fu (n + 1)) (elt := .call 10 (.cons (.var 0) (.cons (.bin .add (.var 2) (.con (.int 1))) .nil))) (i := 3) (it := .rng (.var 1)) (ρ := [some (.ref 1), some (.py (.int g)), some (.py (.int m)), none]) (a := a) (S := fun a => BY row a X) (v := fun a => dv0 row a (m + 1)) (ds := rangeD 0 (g : Int)) (i_rng (e_var rfl) (fitN (by omega))) (fun d' a => e_drw0 drw (i := 0) rfl (e_bin (e_var rfl) e_con b_add) (WF.by2 wf) (by omega)) (by rw [rangeN]; show g ≤ 16777216; omega)
  rw [rangeN] at hlc
  refine run_ret (ar := 3) (sl := 4) (b := c11) (ρ := [some (.ref 1), some (.py (.int g)), some (.py (.int m)), none]) (st' := BY row (a + g) X) rfl ?_ (trim_py0 (st := BY row (a + g) X) (WF.by2 wf))
  unfold c11
  exact st_fl (s_ret (e_bi (es_cons (e_li hlc (pysI _)) es_nil) n_tupL)) (fun z => by cases z)
/-- the orders of a day -/
abbrev ocell (R : List (List Int)) : Cell := .lst ((R.map tI).map .py)
theorem pys_wf {m : Nat} (l : List PD) : (l.map D.py).all (refsUnder m 3) = true := by
  rw [List.all_eq_true]
  intro d hd
  obtain ⟨x, _, rfl⟩ := List.mem_map.mp hd
  rfl
theorem w_app {c : Cell} (wf : WF (BY row a X)) (h : ∀ m, cellUnder m c = true) : WF (BY row a (X ++ [c])) := WF.app wf (h _)
abbrev env10 (g : Nat) (m : Int) (n3 : Nat) (x4 x5 x6 x7 : Option D) : EnvD := [some (.ref 1), some (.py (.int g)), some (.py (.int m)), some (.ref n3), x4, x5, x6, x7]
theorem ocell_wf {R : List (List Int)} (wf : WF (BY row a X)) : WF (BY row a (X ++ [ocell R])) := w_app wf fun _ => pys_wf _
theorem app_last' {l : List D} {z : D} (h : l.length ≤ 1000) : appD (BY row a (X ++ [.lst l])) (.ref (X.length + 2)) z = some (BY row a (X ++ [.lst (l ++ [z])])) := by
  unfold appD
  have e : (BY row a (X ++ [Cell.lst l]))[X.length + 2]? = some (.lst l) := get_last X _
  simp only [e]
  rw [if_pos (show l.length < 16777216 by omega)]
  show some (.tab 0 :: boxC row a :: (X ++ [Cell.lst l]).set X.length (.lst (l ++ [z]))) = _
  rw [set_last]
theorem order_turn (wf : WF (BY row a X)) {g : Nat} {m : Int} (hg : g ≤ 1000) (hm : 0 ≤ m) {R : List (List Int)} (hR : R.length ≤ 1000) {n3 : Nat} {x4 : Option D} (d : D) : ∃ a' R', exs (lvl T fu (n + 2)) fu c12b1 (env10 g m n3 x4 (some (.ref (X.length + 2))) (some d) none) (BY row a (X ++ [ocell R])) = .go .nx (env10 g m n3 x4 (some (.ref (X.length + 2))) none none) (BY row a' (X ++ [ocell R'])) ∧ R'.length ≤ R.length + 1 := by
  have oat : ∀ {a R}, (BY row a (X ++ [ocell R]))[X.length + 2]? = some (ocell R) := fun {a R} => get_last X _
  have oref : ∀ {a R} {ρ : EnvD}, ρ[5]? = some (some (.ref (X.length + 2))) → ev (lvl T fu (n + 2)) (.var 5) ρ (BY row a (X ++ [ocell R])) = .ok (.ref (X.length + 2)) (BY row a (X ++ [ocell R])) := fun {a R ρ} h => e_ref h oat (by intro p z; cases z)
  have s7 : ex (lvl T fu (n + 2)) fu (.set 7 (.call 11 (.cons (.var 0) (.cons (.var 1) (.cons (.var 2) .nil))))) (env10 g m n3 x4 (some (.ref (X.length + 2))) (some d) none) (BY row a (X ++ [ocell R])) = .go .nx (env10 g m n3 x4 (some (.ref (X.length + 2))) (some d) (some (.py (tI (cnt row a g m))))) (BY row (a + g) (X ++ [ocell R])) := s_set (i := 7) (e_call (es_cons (e_boxY rfl) (es_cons (e_var rfl) (es_cons (e_var rfl) es_nil))) (counts_ok (ocell_wf wf) hg hm))
  obtain ⟨k, tt⟩ : ∃ k, evT (lvl T fu (n + 2)) (.v (.cmp .notin (.var 7) (.var 5))) (env10 g m n3 x4 (some (.ref (X.length + 2))) (some d) (some (.py (tI (cnt row a g m))))) (BY row (a + g) (X ++ [ocell R])) = .ok k (BY row (a + g) (X ++ [ocell R])) := by
    refine ⟨_, t_b (e_cmp (e_var rfl) (oref rfl) (k := !((R.map tI).any fun z => PyData.eqv z (tI (cnt row a g m)))) ?_)⟩
    show (isinD (BY row (a + g) (X ++ [ocell R])) (.py (tI (cnt row a g m))) (.ref (X.length + 2))).map (!·) = _
    simp only [isinD, oat, pys_map, valF_py]
    rw [shaped_t, shaped_tIs]
    rfl
  cases k with
  | true =>
    refine ⟨a + g, R ++ [cnt row a g m], (st_nx s7).trans ((st_nx ((s_ift tt).trans ((st_nx (s_app (oref rfl) (by unfold isLst; simp only [oat]) (e_var rfl) ?_)).trans s_nil))).trans (st_drop.trans s_nil)), by rw [List.length_append]; exact Nat.le_refl _⟩
    have h := app_last' (X := X) (row := row) (a := a + g) (l := (R.map tI).map .py) (z := .py (tI (cnt row a g m))) (by rw [List.length_map, List.length_map]; omega)
    rw [h]
    unfold ocell
    rw [List.map_append, List.map_append]
    rfl
  | false => exact ⟨a + g, R, (st_nx s7).trans ((st_nx ((s_iff tt).trans s_nil)).trans (st_drop.trans s_nil)), by omega⟩
abbrev wcell (w : List (List PD)) : Cell := .lst ((w.map PyData.list).map .py)
theorem day_turn {X0 Z : Store} {w : List (List PD)} (wf : WF (BY row a (X0 ++ wcell w :: Z))) {g : Nat} {m : Int} (hg : g ≤ 1000) (hm : 0 ≤ m) (hw : w.length ≤ 1000) (d : D) : ∃ a' R, exs (lvl T fu (n + 2)) fu c12b2 (env10 g m (X0.length + 2) (some d) none none none) (BY row a (X0 ++ wcell w :: Z)) = .go .nx (env10 g m (X0.length + 2) none none none none) (BY row a' (X0 ++ wcell (w ++ [R]) :: (Z ++ [.frz (.list R)]))) ∧ WF (BY row a' (X0 ++ wcell (w ++ [R]) :: (Z ++ [.frz (.list R)]))) := by
  obtain ⟨X, hX⟩ : ∃ X, X0 ++ wcell w :: Z = X := ⟨_, rfl⟩
  rw [hX] at wf ⊢
  have s5 : ex (lvl T fu (n + 2)) fu (.set 5 (.cell (.lst .nil))) (env10 g m (X0.length + 2) (some d) none none none) (BY row a X) = .go .nx (env10 g m (X0.length + 2) (some d) (some (.ref (X.length + 2))) none none) (BY row a (X ++ [ocell []])) := s_set (i := 5) (e_cell (st' := BY row a X) (l_lst es_nil (show 0 ≤ 16777216 by omega)))
  have b3 := dv0_bd (row := row) (a := a) (m := 3) (by omega)
  obtain ⟨c, hc⟩ : ∃ c : Nat, 1 + dv0 row a 3 = c := ⟨(1 + dv0 row a 3).toNat, by omega⟩
  have hI : evI (lvl T fu (n + 2)) (.rng (.bin .add (.con (.int 1)) (.call 10 (.cons (.var 0) (.cons (.con (.int 3)) .nil))))) (env10 g m (X0.length + 2) (some d) (some (.ref (X.length + 2))) none none) (BY row a (X ++ [ocell []])) = .ok (rangeD 0 (c : Int)) (BY row (a + 1) (X ++ [ocell []])) := by
    refine i_rng ((e_bin e_con (e_drw0 drw (i := 0) rfl e_con (ocell_wf wf) (by omega)) b_add).trans ?_) (fitN (by omega))
    rw [hc]
  obtain ⟨ρ', st', e6, a6, R, rfl, rfl, hR⟩ := for_inv (f := fun d ρ st => bindT (.nm 6) st d ρ (exs (lvl T fu (n + 2)) fu c12b1)) (fun i ρ' st' => ∃ a6 R, ρ' = env10 g m (X0.length + 2) (some d) (some (.ref (X.length + 2))) none none ∧ st' = BY row a6 (X ++ [ocell R]) ∧ R.length ≤ i) (rangeD 0 (c : Int)) 0
    (fun j dd ρ' st' hd hI => by
      rw [Nat.zero_add] at hI ⊢
      obtain ⟨a6, R, rfl, rfl, hR⟩ := hI
      have hj : j < c := by
        have := (List.getElem?_eq_some_iff.mp hd).1
        rwa [rangeN] at this
      obtain ⟨a7, R', k1, k2⟩ := order_turn (fu := fu) (n := n) (row := row) (a := a6) (WF.by2 wf) hg hm (R := R) (by omega) (n3 := X0.length + 2) (x4 := some d) dd
      exact ⟨_, _, bind_nm.trans k1, a7, R', rfl, rfl, by omega⟩)
    (ρ := env10 g m (X0.length + 2) (some d) (some (.ref (X.length + 2))) none none) (st := BY row (a + 1) (X ++ [ocell []])) ⟨a + 1, [], rfl, rfl, Nat.le_refl _⟩
  have oat : (BY row a6 (X ++ [ocell R]))[X.length + 2]? = some (ocell R) := get_last X _
  have wat : ∀ {Y : Store}, (BY row a6 (X ++ Y))[X0.length + 2]? = some (wcell w) := fun {Y} => by
    show (X ++ Y)[X0.length]? = _
    rw [← hX, List.append_assoc, List.getElem?_append_right (Nat.le_refl _), Nat.sub_self]
    rfl
  have ef : ev (lvl T fu (n + 2)) (.frz (.var 5)) (env10 g m (X0.length + 2) (some d) (some (.ref (X.length + 2))) none none) (BY row a6 (X ++ [ocell R])) = .ok (.py (.list (R.map tI))) (BY row a6 (X ++ [.frz (.list (R.map tI))])) := by
    have h := e_frz_at (Δ := lvl T fu (n + 2)) (a := .var 5) (ρ := env10 g m (X0.length + 2) (some d) (some (.ref (X.length + 2))) none none) (st0 := BY row a6 (X ++ [ocell R])) (n := X.length + 2) (l := R.map tI) (e_ref rfl oat (by intro p z; cases z)) oat
    have e : (BY row a6 (X ++ [ocell R])).set (X.length + 2) (.frz (.list (R.map tI))) = BY row a6 (X ++ [.frz (.list (R.map tI))]) := by
      show Cell.tab 0 :: boxC row a6 :: (X ++ [ocell R]).set X.length _ = _
      rw [set_last]
    rw [e] at h
    exact h
  have ew : (X ++ [Cell.frz (.list (R.map tI))]).set X0.length (wcell (w ++ [R.map tI])) = X0 ++ wcell (w ++ [R.map tI]) :: (Z ++ [.frz (.list (R.map tI))]) := by
    rw [← hX, List.append_assoc, List.set_append_right _ _ (Nat.le_refl _), Nat.sub_self]
    rfl
  have sa : ex (lvl T fu (n + 2)) fu (.app (.var 3) (.frz (.var 5))) (env10 g m (X0.length + 2) (some d) (some (.ref (X.length + 2))) none none) (BY row a6 (X ++ [ocell R])) = .go .nx (env10 g m (X0.length + 2) (some d) (some (.ref (X.length + 2))) none none) (BY row a6 (X0 ++ wcell (w ++ [R.map tI]) :: (Z ++ [.frz (.list (R.map tI))]))) := by
    refine s_app (e_ref rfl wat (by intro p z; cases z)) (by unfold isLst; simp only [wat]) ef ?_
    unfold appD
    simp only [wat]
    rw [if_pos (show ((w.map PyData.list).map D.py).length < 16777216 by rw [List.length_map, List.length_map]; omega)]
    show some (Cell.tab 0 :: boxC row a6 :: (X ++ [Cell.frz (.list (R.map tI))]).set X0.length _) = _
    rw [← ew]
    unfold wcell
    rw [List.map_append, List.map_append]
    rfl
  refine ⟨a6, R.map tI, (st_nx s5).trans ((st_nx ((s_for hI).trans e6)).trans ((st_nx sa).trans (st_drop.trans s_nil))), ?_⟩
  have w2 : WF (BY row a6 (X ++ [.frz (.list (R.map tI))])) := w_app (WF.by2 wf) fun _ => rfl
  have w3 := w2.set (n := X0.length + 2) (c := wcell (w ++ [R.map tI])) (pys_wf _)
  have e : (BY row a6 (X ++ [Cell.frz (.list (R.map tI))])).set (X0.length + 2) (wcell (w ++ [R.map tI])) = BY row a6 (X0 ++ wcell (w ++ [R.map tI]) :: (Z ++ [.frz (.list (R.map tI))])) := by
    show Cell.tab 0 :: boxC row a6 :: (X ++ [Cell.frz (.list (R.map tI))]).set X0.length _ = _
    rw [ew]
  rwa [e] at w3
theorem week_ok (wf : WF (BY row a X)) {g : Nat} {m : Int} (hg : g ≤ 1000) (hm : 0 ≤ m) : ∃ (a' : Nat) (w : List (List PD)), lvl T fu (n + 3) 12 [.ref 1, .py (.int g), .py (.int m)] (BY row a X) = .ok (.py (.list (w.map .list))) (BY row a' X) ∧ w.length ≤ 2 := by
  have b2 := dv0_bd (row := row) (a := a) (m := 2) (by omega)
  obtain ⟨c, hc⟩ : ∃ c : Nat, 1 + dv0 row a 2 = c := ⟨(1 + dv0 row a 2).toNat, by omega⟩
  have s3 : ex (lvl T fu (n + 2)) fu (.set 3 (.cell (.lst .nil))) [some (.ref 1), some (.py (.int g)), some (.py (.int m)), none, none, none, none, none] (BY row a X) = .go .nx (env10 g m (X.length + 2) none none none none) (BY row a (X ++ [wcell []])) := s_set (i := 3) (e_cell (st' := BY row a X) (l_lst es_nil (show 0 ≤ 16777216 by omega)))
  have hI : evI (lvl T fu (n + 2)) (.rng (.bin .add (.con (.int 1)) (.call 10 (.cons (.var 0) (.cons (.con (.int 2)) .nil))))) (env10 g m (X.length + 2) none none none none) (BY row a (X ++ [wcell []])) = .ok (rangeD 0 (c : Int)) (BY row (a + 1) (X ++ [wcell []])) := by
    refine i_rng ((e_bin e_con (e_drw0 drw (i := 0) rfl e_con (w_app wf fun _ => rfl) (by omega)) b_add).trans ?_) (fitN (by omega))
    rw [hc]
  obtain ⟨ρ', st', e6, a6, w, Z, rfl, rfl, hw, wf6⟩ := for_inv (f := fun d ρ st => bindT (.nm 4) st d ρ (exs (lvl T fu (n + 2)) fu c12b2)) (fun i ρ' st' => ∃ (a6 : Nat) (w : List (List PD)) (Z : Store), ρ' = env10 g m (X.length + 2) none none none none ∧ st' = BY row a6 (X ++ wcell w :: Z) ∧ w.length = i ∧ WF (BY row a6 (X ++ wcell w :: Z))) (rangeD 0 (c : Int)) 0
    (fun j dd ρ' st' hd hI => by
      rw [Nat.zero_add] at hI ⊢
      obtain ⟨a6, w, Z, rfl, rfl, hw, wf6⟩ := hI
      have hj : j < c := by
        have := (List.getElem?_eq_some_iff.mp hd).1
        rwa [rangeN] at this
      obtain ⟨a7, R, k1, k2⟩ := day_turn (fu := fu) (n := n) wf6 hg hm (by omega) dd
      exact ⟨_, _, bind_nm.trans k1, a7, w ++ [R], _, rfl, rfl, by rw [List.length_append, hw]; rfl, k2⟩)
    (ρ := env10 g m (X.length + 2) none none none none) (st := BY row (a + 1) (X ++ [wcell []])) ⟨a + 1, [], [], rfl, rfl, rfl, w_app (WF.by2 wf) fun _ => rfl⟩
  rw [rangeN, Nat.zero_add] at hw
  have wat : (BY row a6 (X ++ wcell w :: Z))[X.length + 2]? = some (wcell w) := by
    show (X ++ wcell w :: Z)[X.length]? = _
    rw [List.getElem?_append_right (Nat.le_refl _), Nat.sub_self]; rfl
  refine ⟨a6, w, ?_, by omega⟩
  show runFn (lvl T fu (n + 2)) fu 3 8 c12 [.ref 1, .py (.int g), .py (.int m)] (BY row a X) = _
  refine run_ret (ar := 3) (sl := 8) (b := c12) (ρ := env10 g m (X.length + 2) none none none none) (st' := BY row a6 X ++ (.frz (.list (w.map .list)) :: Z)) rfl ?_ (trim_py (st := BY row a6 X) (.frz (.list (w.map .list)) :: Z) (WF.by2 wf))
  unfold c12
  have h := e_frz_at (Δ := lvl T fu (n + 2)) (a := .var 3) (ρ := env10 g m (X.length + 2) none none none none) (st0 := BY row a6 (X ++ wcell w :: Z)) (n := X.length + 2) (l := w.map .list) (e_ref rfl wat (by intro p z; cases z)) wat
  have e : (BY row a6 (X ++ wcell w :: Z)).set (X.length + 2) (.frz (.list (w.map .list))) = BY row a6 X ++ (.frz (.list (w.map .list)) :: Z) := by
    show Cell.tab 0 :: boxC row a6 :: (X ++ wcell w :: Z).set X.length _ = _
    rw [List.set_append_right _ _ (Nat.le_refl _), Nat.sub_self]
    rfl
  rw [e] at h
  exact (st_nx s3).trans ((st_nx ((s_for hI).trans e6)).trans (st_fl (s_ret h) (fun z => by cases z)))
end
end La
set_option maxHeartbeats 1000000
namespace La
open PySem Ev
def POk (g : Nat) (Q : Qs) : Prop := ∀ q ∈ Q, 0 ≤ q.1 ∧ q.1 ≤ 40 ∧ q.2.length = g ∧ ∀ x ∈ q.2, 0 ≤ x ∧ x ≤ 40
abbrev partsD (k : List Int) (Q : Qs) (M : Nat) (w : List (List PD)) (b : Option Int) : PD := .list [lI k, .list (Q.map patT), .int (M : Nat), .list (w.map .list), buD b]
section
variable {fu n a : Nat} {row : List Int} {X : Store}
abbrev pcell (Q : Qs) : Cell := .lst ((Q.map patT).map .py)
theorem pc_wf {b : Nat} (wf : WF (BY row b X)) {a : Nat} {Q : Qs} : WF (BY row a (X ++ [pcell Q])) := w_app (WF.by2 wf) fun _ => pys_wf _
theorem pc_ref {ρ : EnvD} {a : Nat} {Q : Qs} (h : ρ[4]? = some (some (.ref (X.length + 2)))) : ev (lvl T fu n) (.var 4) ρ (BY row a (X ++ [pcell Q])) = .ok (.ref (X.length + 2)) (BY row a (X ++ [pcell Q])) := e_ref h (get_last X _) (by intro p z; cases z)
abbrev env11 (xl : Nat) (g : Nat) (lo : Int) (k : List Int) (x6 : Option D) : EnvD := [some (.ref 1), some (.py (.int g)), some (.py (.int lo)), some (.py (lI k)), some (.ref (xl + 2)), none, x6, none]
theorem pat_turn {b : Nat} (wf : WF (BY row b X)) {g : Nat} {lo : Int} {k : List Int} {Q : Qs} (hg : g ≤ 1000) (hQ : POk g Q) (hl : Q.length ≤ 1000) (d : D) : ∃ a' q, exs (lvl T fu (n + 2)) fu c13b0 ((env11 X.length g lo k none).set 5 (some d)) (BY row a (X ++ [pcell Q])) = .go .nx (env11 X.length g lo k none) (BY row a' (X ++ [pcell (Q ++ [q])])) ∧ POk g (Q ++ [q]) := by
  have b10 := dv0_bd (row := row) (a := a) (m := 10) (by omega)
  refine ⟨a + 1 + g, (dv0 row a 10, cnt row (a + 1) g 2), (st_nx (s_app (st2 := BY row (a + 1 + g) (X ++ [pcell Q])) (pc_ref rfl) (by unfold isLst; simp only [show (BY row a (X ++ [pcell Q]))[X.length + 2]? = some (pcell Q) from get_last X _]) (e_tup (es_cons (e_drw0 drw (i := 0) rfl e_con (pc_wf wf) (by omega)) (es_cons (e_call (es_cons (e_boxY rfl) (es_cons (e_var rfl) (es_cons e_con es_nil))) (counts_ok (m := 2) (pc_wf wf) hg (by omega))) es_nil))) ?_)).trans (st_drop.trans s_nil), fun q hq => ?_⟩
  · refine (app_last' (X := X) (row := row) (a := a + 1 + g) (l := (Q.map patT).map .py) (by rw [List.length_map, List.length_map]; omega)).trans ?_
    unfold pcell
    rw [List.map_append, List.map_append]
    rfl
  · rcases List.mem_append.mp hq with hq | hq
    · exact hQ q hq
    · rw [List.mem_singleton.mp hq]
      refine ⟨b10.1, by show dv0 row a 10 ≤ 40; omega, cnt_len, fun x hx => drL_mem (Pr := fun x => 0 ≤ x ∧ x ≤ 40) (fun i => ?_) _ x hx⟩
      have := dv0_bd (row := row) (a := i) (m := 2 + 1) (by omega)
      omega
theorem parts_ok (wf : WF (BY row a X)) {g : Nat} {lo : Int} (hg : g ≤ 900) (hlo : 0 < lo) : ∃ (k : List Int) (Q : Qs) (M : Nat) (w : List (List PD)) (b : Option Int) (a' : Nat), lvl T fu (n + 4) 13 [.ref 1, .py (.int g), .py (.int lo)] (BY row a X) = .ok (.py (partsD k Q M w b)) (BY row a' X) ∧ k.length = g ∧ POk g Q ∧ 1 ≤ Q.length ∧ Q.length ≤ 3 ∧ 1 ≤ M ∧ M ≤ 2 ∧ w.length ≤ 2 ∧ (∀ i, b = some i → 0 ≤ i) ∧ ∀ x ∈ k, 1 ≤ x ∧ x ≤ lo := by
  have s3 : ex (lvl T fu (n + 3)) fu (.set 3 (.li (.lc (.bin .add (.con (.int 1)) (.call 10 (.cons (.var 0) (.cons (.var 2) .nil)))) (.nm 7) [7] (.rng (.var 1)) .yes))) [some (.ref 1), some (.py (.int g)), some (.py (.int lo)), none, none, none, none, none] (BY row a X) = .go .nx [some (.ref 1), some (.py (.int g)), some (.py (.int lo)), some (.py (lI (drL (fun a => 1 + dv0 row a lo) a g))), none, none, none, none] (BY row (a + g) X) := by
    have hlc := l_draws (Δ := lvl T fu (n + 3)) (elt := .bin .add (.con (.int 1)) (.call 10 (.cons (.var 0) (.cons (.var 2) .nil)))) (i := 7) (it := .rng (.var 1)) (ρ := [some (.ref 1), some (.py (.int g)), some (.py (.int lo)), none, none, none, none, none]) (a := a) (S := fun a => BY row a X) (v := fun a => 1 + dv0 row a lo) (ds := rangeD 0 (g : Int)) (i_rng (e_var rfl) (fitN (by omega))) (fun d' a => e_bin e_con (e_drw0 drw (i := 0) rfl (e_var rfl) (WF.by2 wf) hlo) b_add) (by rw [rangeN]; show g ≤ 16777216; omega)
    rw [rangeN] at hlc
    exact s_set (i := 3) (e_li hlc (pysI _))
  obtain ⟨k, hk⟩ : ∃ k, drL (fun a => 1 + dv0 row a lo) a g = k := ⟨_, rfl⟩
  have hkl : k.length = g := by rw [← hk]; exact drL_len g
  have hkb : ∀ x ∈ k, 1 ≤ x ∧ x ≤ lo := by
    rw [← hk]
    exact drL_mem (f := fun a => 1 + dv0 row a lo) (Pr := fun x => 1 ≤ x ∧ x ≤ lo) (fun a => by have := dv0_bd (row := row) (a := a) hlo; omega) g
  rw [hk] at s3
  obtain ⟨a3, ha3⟩ : ∃ a3, a + g = a3 := ⟨_, rfl⟩
  rw [ha3] at s3
  have s4 : ex (lvl T fu (n + 3)) fu (.set 4 (.cell (.lst .nil))) [some (.ref 1), some (.py (.int g)), some (.py (.int lo)), some (.py (lI k)), none, none, none, none] (BY row a3 X) = .go .nx (env11 X.length g lo k none) (BY row a3 (X ++ [pcell []])) := s_set (i := 4) (e_cell (st' := BY row a3 X) (l_lst es_nil (show 0 ≤ 16777216 by omega)))
  have b3 := dv0_bd (row := row) (a := a3) (m := 3) (by omega)
  obtain ⟨c, hc⟩ : ∃ c : Nat, 1 + dv0 row a3 3 = c := ⟨(1 + dv0 row a3 3).toNat, by omega⟩
  have hI : evI (lvl T fu (n + 3)) (.rng (.bin .add (.con (.int 1)) (.call 10 (.cons (.var 0) (.cons (.con (.int 3)) .nil))))) (env11 X.length g lo k none) (BY row a3 (X ++ [pcell []])) = .ok (rangeD 0 (c : Int)) (BY row (a3 + 1) (X ++ [pcell []])) := by
    refine i_rng ((e_bin e_con (e_drw0 drw (i := 0) rfl e_con (pc_wf wf) (by omega)) b_add).trans ?_) (fitN (by omega))
    rw [hc]
  obtain ⟨ρ', st', e5, Q, a5, rfl, rfl, hQl, hQ⟩ := for_inv (f := fun d ρ st => bindT (.nm 5) st d ρ (exs (lvl T fu (n + 3)) fu c13b0)) (fun i ρ' st' => ∃ (Q : Qs) (a5 : Nat), ρ' = env11 X.length g lo k none ∧ st' = BY row a5 (X ++ [pcell Q]) ∧ Q.length = i ∧ POk g Q) (rangeD 0 (c : Int)) 0
    (fun j d ρ' st' hd hI => by
      rw [Nat.zero_add] at hI ⊢
      obtain ⟨Q, a5, rfl, rfl, hQl, hQ⟩ := hI
      have hj : j < c := by
        have := (List.getElem?_eq_some_iff.mp hd).1
        rwa [rangeN] at this
      obtain ⟨a', q, h1, h2⟩ := pat_turn (fu := fu) (X := X) wf (n := n + 1) (row := row) (a := a5) (g := g) (lo := lo) (k := k) (by omega) hQ (by omega) d
      exact ⟨_, _, bind_nm.trans h1, Q ++ [q], a', rfl, rfl, by rw [List.length_append, hQl]; rfl, h2⟩)
    ⟨[], a3 + 1, rfl, rfl, rfl, fun q hq => by cases hq⟩
  rw [rangeN, Nat.zero_add] at hQl
  have b20 := dv0_bd (row := row) (a := a5) (m := 20) (by omega)
  have cGONE2 := dv0_bd (row := row) (a := a5 + 1) (m := 3) (by omega)
  obtain ⟨b, hb, hb0⟩ : ∃ b : Option Int, ([PyData.none, .none, .int (dv0 row a5 20)] : List PD)[(dv0 row (a5 + 1) 3).toNat]? = some (buD b) ∧ ∀ i, b = some i → 0 ≤ i := by
    have : dv0 row (a5 + 1) 3 = 0 ∨ dv0 row (a5 + 1) 3 = 1 ∨ dv0 row (a5 + 1) 3 = 2 := by omega
    rcases this with h | h | h
    · rw [h]; exact ⟨none, rfl, fun i z => by cases z⟩
    · rw [h]; exact ⟨none, rfl, fun i z => by cases z⟩
    · rw [h]; exact ⟨some (dv0 row a5 20), rfl, fun i z => by cases z; exact b20.1⟩
  have ixb : getix (BY row (a5 + 2) (X ++ [pcell Q])) (.py (.list [.none, .none, .int (dv0 row a5 20)])) (.py (.int (dv0 row (a5 + 1) 3))) = some (.py (buD b)) := by
    obtain ⟨v, hv⟩ : ∃ v : Nat, dv0 row (a5 + 1) 3 = v := ⟨(dv0 row (a5 + 1) 3).toNat, by omega⟩
    rw [hv] at hb ⊢
    rw [Int.toNat_natCast] at hb
    simp only [getix, intOf, Option.bind_some, ixN_nat (List.getElem?_eq_some_iff.mp hb).1, hb, Option.map_some]
  have s6 : ex (lvl T fu (n + 3)) fu (.set 6 (.ix (.li (.lst (.cons (.con .none) (.cons (.con .none) (.cons (.call 10 (.cons (.var 0) (.cons (.con (.int 20)) .nil))) .nil))))) (.call 10 (.cons (.var 0) (.cons (.con (.int 3)) .nil))))) (env11 X.length g lo k none) (BY row a5 (X ++ [pcell Q])) = .go .nx (env11 X.length g lo k (some (.py (buD b)))) (BY row (a5 + 2) (X ++ [pcell Q])) :=
    s_set (i := 6) (e_ix (e_li (ps := [.none, .none, .int (dv0 row a5 20)]) (l_lst (es_cons e_con (es_cons e_con (es_cons (e_drw0 drw (i := 0) rfl e_con (pc_wf wf) (by omega)) es_nil))) (show 3 ≤ 16777216 by omega)) rfl) (e_drw0 drw (i := 0) rfl e_con (pc_wf wf) (by omega)) ixb)
  have b2 := dv0_bd (row := row) (a := a5 + 2) (m := 2) (by omega)
  obtain ⟨M, hM⟩ : ∃ M : Nat, 1 + dv0 row (a5 + 2) 2 = M := ⟨(1 + dv0 row (a5 + 2) 2).toNat, by omega⟩
  have fwf : ∀ {a}, WF (BY row a (X ++ [.frz (.list (Q.map patT))])) := fun {a} => w_app (WF.by2 wf) fun _ => rfl
  have d3 := dv0_bd (row := row) (a := a5 + 3) (m := 3) (by omega)
  have hm0 : 0 ≤ ([1, 2, 3] : List Int).getD (dv0 row (a5 + 3) 3).toNat 0 := by
    have h := at_mem (l := ([1, 2, 3] : List Int)) d3.1 d3.2
    have h2 : ∀ x ∈ ([1, 2, 3] : List Int), 0 ≤ x := by decide
    exact h2 _ h
  obtain ⟨a9, w, ew, hw⟩ := week_ok (fu := fu) (n := n) (row := row) (a := a5 + 4) (X := (X ++ [.frz (.list (Q.map patT))])) fwf (g := g) (by omega) hm0
  have ef : ev (lvl T fu (n + 3)) (.frz (.var 4)) (env11 X.length g lo k (some (.py (buD b)))) (BY row (a5 + 2) (X ++ [pcell Q])) = .ok (.py (.list (Q.map patT))) (BY row (a5 + 2) (X ++ [.frz (.list (Q.map patT))])) := e_frz_pys (st := BY row (a5 + 2) X) (l := Q.map patT) (pc_ref rfl)
  have eM : ev (lvl T fu (n + 3)) (.bin .add (.con (.int 1)) (.call 10 (.cons (.var 0) (.cons (.con (.int 2)) .nil)))) (env11 X.length g lo k (some (.py (buD b)))) (BY row (a5 + 2) (X ++ [.frz (.list (Q.map patT))])) = .ok (.py (.int (M : Nat))) (BY row (a5 + 3) (X ++ [.frz (.list (Q.map patT))])) := by
    refine (e_bin e_con (e_drw0 drw (i := 0) rfl e_con fwf (by omega)) b_add).trans ?_
    rw [hM]
  refine ⟨k, Q, M, w, b, a9, ?_, hkl, hQ, by omega, by omega, by omega, by omega, hw, hb0, hkb⟩
  show runFn (lvl T fu (n + 3)) fu 3 8 c13 [.ref 1, .py (.int g), .py (.int lo)] (BY row a X) = _
  refine run_ret (ar := 3) (sl := 8) (b := c13) (ρ := env11 X.length g lo k (some (.py (buD b)))) (st' := BY row a9 (X ++ [.frz (.list (Q.map patT))])) rfl ?_ (trim_py (st := BY row a9 X) [.frz (.list (Q.map patT))] (WF.by2 wf))
  unfold c13
  refine (st_nx s3).trans ((st_nx s4).trans ((st_nx ((s_for hI).trans e5)).trans ((st_nx s6).trans (st_fl (s_ret (e_li (ps := [lI k, .list (Q.map patT), .int (M : Nat), .list (w.map .list), buD b]) (l_lst (es_cons (e_var rfl) (es_cons ef (es_cons eM (es_cons (e_call (es_cons (e_boxY rfl) (es_cons (e_var rfl) (es_cons (e_ix (e_li (ps := ([1, 2, 3] : List Int).map .int) (l_lst (es_cons e_con (es_cons e_con (es_cons e_con es_nil))) (show 3 ≤ 16777216 by omega)) rfl) (e_drw0 drw (i := 0) rfl e_con fwf (by omega)) (ixInts d3.1 d3.2)) es_nil))) ew) (es_cons (e_var rfl) es_nil))))) (show 5 ≤ 16777216 by omega)) rfl)) (fun z => by cases z)))))
abbrev shp (k : List Int) (Q : Qs) (M : Nat) (w : List (List PD)) (b : Option Int) : List (Str × PD) := shopF (k.map .int) (Q.map patT) (M : Nat) w (buD b)
end
end La
set_option maxHeartbeats 1000000
namespace Sk
/-- one good's row, issued oldest first -/
def isr : List Int → Int → List Int
  | [], _ => []
  | c :: r, m => (c - if m < c then m else c) :: isr r (m - if m < c then m else c)
def addL : List Int → Int → List Int
  | [], _ => []
  | [c], m => [c + m]
  | c :: d :: r, m => c :: addL (d :: r) m
def sf (r : List Int) (p : Nat) : Int := (r.drop p).sum
def night (r : List Int) : List Int := r.drop 1 ++ [0]
def nn (r : List Int) : Prop := ∀ x ∈ r, 0 ≤ x
theorem nn_tail {c : Int} {r : List Int} (h : nn (c :: r)) : nn r := fun x hx => h x (List.mem_cons_of_mem _ hx)
theorem sum_nn : ∀ {r : List Int}, nn r → 0 ≤ r.sum
  | [], _ => by simp
  | c :: r, h => by
    have h1 := sum_nn (nn_tail h)
    have h2 := h c List.mem_cons_self
    rw [List.sum_cons]
    omega
theorem sf_zero (r : List Int) : sf r 0 = r.sum := rfl
theorem sf_succ (c : Int) (r : List Int) (p : Nat) : sf (c :: r) (p + 1) = sf r p := rfl
theorem sf_nil (p : Nat) : sf [] p = 0 := by unfold sf; simp
theorem sf_le : ∀ {r : List Int} (p : Nat), nn r → 0 ≤ sf r p ∧ sf r p ≤ r.sum
  | [], p, _ => by rw [sf_nil]; simp
  | c :: r, 0, h => ⟨sum_nn h, Int.le_refl _⟩
  | c :: r, p + 1, h => by
    have h1 := sf_le p (nn_tail h)
    have h2 := h c List.mem_cons_self
    rw [sf_succ, List.sum_cons]
    omega
theorem isr_len : ∀ (r : List Int) (m : Int), (isr r m).length = r.length
  | [], _ => rfl
  | c :: r, m => by show (isr r _).length + 1 = _; rw [isr_len r]; rfl
theorem isr_nn : ∀ {r : List Int} {m : Int}, nn r → 0 ≤ m → nn (isr r m)
  | [], _, _, _ => fun x hx => by cases hx
  | c :: r, m, h, hm => fun x hx => by
    have h2 := h c List.mem_cons_self
    rcases List.mem_cons.mp hx with e | e
    · rw [e]; split <;> omega
    · exact isr_nn (nn_tail h) (by split <;> omega) x e
theorem sf_isr : ∀ {r : List Int} {m : Int} (p : Nat), nn r → 0 ≤ m → m ≤ r.sum → sf (isr r m) p = min (sf r p) (r.sum - m)
  | [], m, p, _, h0, h1 => by
    have h2 : m ≤ 0 := by simpa using h1
    show sf [] p = _
    rw [sf_nil, List.sum_nil]; omega
  | c :: r, m, p, h, h0, h1 => by
    have hc := h c List.mem_cons_self
    have hr := sum_nn (nn_tail h)
    rw [List.sum_cons] at h1 ⊢
    have hm1 : 0 ≤ m - (if m < c then m else c) := by split <;> omega
    have hm2 : m - (if m < c then m else c) ≤ r.sum := by split <;> omega
    cases p with
    | zero =>
      have ih := sf_isr 0 (nn_tail h) hm1 hm2
      rw [sf_zero, sf_zero] at ih
      show ((c - if m < c then m else c) :: isr r _).sum = min (c :: r).sum _
      rw [List.sum_cons, List.sum_cons, ih]
      omega
    | succ p =>
      have ih := sf_isr p (nn_tail h) hm1 hm2
      have hl := sf_le p (nn_tail h)
      show sf (isr r _) p = min (sf r p) _
      rw [ih]
      split <;> omega
/-- better: piece by piece as many that keep as long -/
def bet (A B : List Int) : Prop := A.length = B.length ∧ ∀ p, sf B p ≤ sf A p
theorem bet_refl (A : List Int) : bet A A := ⟨rfl, fun _ => Int.le_refl _⟩
theorem bet_trans {A B C : List Int} (h : bet A B) (h' : bet B C) : bet A C := ⟨h.1.trans h'.1, fun p => Int.le_trans (h'.2 p) (h.2 p)⟩
theorem bet_isr {A B : List Int} {m : Int} (h : bet A B) (hA : nn A) (hB : nn B) (h0 : 0 ≤ m) (h1 : m ≤ B.sum) : bet (isr A m) (isr B m) := by
  have ht := h.2 0
  rw [sf_zero, sf_zero] at ht
  refine ⟨by rw [isr_len, isr_len, h.1], fun p => ?_⟩
  rw [sf_isr p hA h0 (by omega), sf_isr p hB h0 h1]
  have := h.2 p
  omega
theorem addL_len : ∀ (r : List Int) (m : Int), (addL r m).length = r.length
  | [], _ => rfl
  | [_], _ => rfl
  | c :: d :: r, m => by show (addL (d :: r) m).length + 1 = _; rw [addL_len]; rfl
theorem addL_nn : ∀ {r : List Int} {m : Int}, nn r → 0 ≤ m → nn (addL r m)
  | [], _, _, _ => fun x hx => by cases hx
  | [c], m, h, hm => fun x hx => by
    have := h c List.mem_cons_self
    rw [List.mem_singleton.mp hx]; omega
  | c :: d :: r, m, h, hm => fun x hx => by
    rcases List.mem_cons.mp hx with e | e
    · rw [e]; exact h c List.mem_cons_self
    · exact addL_nn (nn_tail h) hm x e
theorem sf_addL : ∀ (r : List Int) (m : Int) (p : Nat), sf (addL r m) p = sf r p + if p < r.length then m else 0
  | [], _, p => by show sf [] p = _; rw [sf_nil]; simp
  | [c], m, 0 => by show ([c + m] : List Int).sum = ([c] : List Int).sum + _; simp
  | [c], m, p + 1 => by show sf [] p = sf [] p + _; rw [sf_nil]; simp
  | c :: d :: r, m, 0 => by
    have ih := sf_addL (d :: r) m 0
    rw [sf_zero, sf_zero, if_pos (by simp)] at ih
    show (c :: addL (d :: r) m).sum = (c :: d :: r).sum + _
    rw [List.sum_cons, List.sum_cons (a := c), ih, if_pos (by simp)]
    omega
  | c :: d :: r, m, p + 1 => by
    have ih := sf_addL (d :: r) m p
    show sf (addL (d :: r) m) p = sf (d :: r) p + _
    rw [ih]
    by_cases h : p < (d :: r).length
    · rw [if_pos h, if_pos (by simpa using h)]
    · rw [if_neg h, if_neg (by simpa using h)]
theorem bet_addL {A B : List Int} {m : Int} (h : bet A B) : bet (addL A m) (addL B m) := by
  refine ⟨by rw [addL_len, addL_len, h.1], fun p => ?_⟩
  rw [sf_addL, sf_addL, h.1]
  have := h.2 p
  omega
theorem addL_sum {r : List Int} {m : Int} (h : 0 < r.length) : (addL r m).sum = r.sum + m := by
  have := sf_addL r m 0
  rwa [sf_zero, sf_zero, if_pos h] at this
theorem addL_eq : ∀ {r : List Int} {m : Int}, 0 < r.length → addL r m = r.take (r.length - 1) ++ [r.getD (r.length - 1) 0 + m]
  | [], _, h => by simp at h
  | [c], m, _ => rfl
  | c :: d :: r, m, _ => by
    have ih := addL_eq (r := d :: r) (m := m) (by simp)
    show c :: addL (d :: r) m = _
    rw [ih]
    rfl
theorem night_len {r : List Int} (h : 0 < r.length) : (night r).length = r.length := by
  unfold night
  rw [List.length_append, List.length_drop]
  show r.length - 1 + 1 = _
  omega
theorem sf_night : ∀ (r : List Int) (p : Nat), 0 < r.length → sf (night r) p = sf r (p + 1)
  | [], p, h => by simp at h
  | c :: r, p, _ => by
    rw [sf_succ]
    show ((r ++ [0]).drop p).sum = (r.drop p).sum
    by_cases hp : p ≤ r.length
    · rw [List.drop_append_of_le_length hp, List.sum_append]
      simp
    · rw [List.drop_eq_nil_of_le (by rw [List.length_append]; show r.length + 1 ≤ p; omega), List.drop_eq_nil_of_le (by omega)]
theorem bet_night {A B : List Int} (h : bet A B) (hA : 0 < A.length) : bet (night A) (night B) := by
  have hB : 0 < B.length := by rw [← h.1]; exact hA
  refine ⟨by rw [night_len hA, night_len hB, h.1], fun p => ?_⟩
  rw [sf_night _ _ hA, sf_night _ _ hB]
  exact h.2 _
theorem sf_set : ∀ {r : List Int} {p : Nat} {v : Int} (q : Nat), p < r.length → sf (r.set p v) q = sf r q + if q ≤ p then v - r.getD p 0 else 0
  | [], p, _, _, h => by simp at h
  | c :: r, 0, v, 0, _ => by
    show (v :: r).sum = (c :: r).sum + _
    rw [List.sum_cons, List.sum_cons, if_pos (Nat.le_refl _)]
    show v + r.sum = c + r.sum + (v - c)
    omega
  | c :: r, 0, v, q + 1, _ => by
    show sf r q = sf r q + _
    rw [if_neg (by omega)]; omega
  | c :: r, p + 1, v, 0, h => by
    have ih := sf_set (r := r) (p := p) (v := v) 0 (by simpa using h)
    rw [sf_zero, sf_zero, if_pos (Nat.zero_le _)] at ih
    show (c :: r.set p v).sum = (c :: r).sum + _
    rw [List.sum_cons, List.sum_cons, ih, if_pos (Nat.zero_le _)]
    show c + (r.sum + (v - r.getD p 0)) = c + r.sum + (v - r.getD p 0)
    omega
  | c :: r, p + 1, v, q + 1, h => by
    have ih := sf_set (r := r) (p := p) (v := v) q (by simpa using h)
    show sf (r.set p v) q = sf r q + _
    rw [ih]
    by_cases hq : q ≤ p
    · rw [if_pos hq, if_pos (by omega)]; rfl
    · rw [if_neg hq, if_neg (by omega)]
theorem nn_set {r : List Int} {p : Nat} {v : Int} (h : nn r) (hv : 0 ≤ v) : nn (r.set p v) := fun x hx => by
  rcases List.mem_or_eq_of_mem_set hx with e | e
  · exact h x e
  · rw [e]; exact hv
theorem getD_nn {r : List Int} {p : Nat} (h : nn r) : 0 ≤ r.getD p 0 := by
  rw [List.getD_eq_getElem?_getD]
  cases e : r[p]? with
  | none => exact Int.le_refl 0
  | some x => exact h x (List.mem_of_getElem? e)
/-- a piece more, or one that keeps longer -/
theorem bet_more {A B : List Int} {p : Nat} (h : bet A B) (hp : p < A.length) : bet (A.set p (A.getD p 0 + 1)) B := by
  refine ⟨by rw [List.length_set, h.1], fun q => ?_⟩
  rw [sf_set q hp]
  have := h.2 q
  split <;> omega
theorem getD_set_ne {r : List Int} {p q : Nat} {v : Int} (h : p ≠ q) : (r.set p v).getD q 0 = r.getD q 0 := by
  rw [List.getD_eq_getElem?_getD, List.getD_eq_getElem?_getD, List.getElem?_set_ne h]
theorem bet_move {A B : List Int} {p : Nat} (h : bet A B) (hp : p + 1 < A.length) : bet ((A.set p (A.getD p 0 - 1)).set (p + 1) ((A.set p (A.getD p 0 - 1)).getD (p + 1) 0 + 1)) B := by
  refine ⟨by rw [List.length_set, List.length_set, h.1], fun q => ?_⟩
  rw [sf_set q (by rw [List.length_set]; exact hp), sf_set q (by omega)]
  have := h.2 q
  split <;> split <;> omega
end Sk
set_option maxHeartbeats 1000000
namespace La
open PySem Ev
theorem rangeZ (z : Int) : rangeD 0 z = (List.range z.toNat).map fun (i : Nat) => .py (.int i) := by
  unfold rangeD
  rw [Int.sub_zero]
  exact List.map_congr_left fun i _ => by rw [Int.zero_add]
theorem fitZ {z : Int} (h1 : -1000000 ≤ z) (h2 : z ≤ 1000000) : fit z = true := by
  unfold fit
  rw [decide_eq_true (show -(2 ^ 62 : Int) ≤ z by omega), decide_eq_true (show z < (2 ^ 62 : Int) by omega)]; rfl

theorem ixTI {st : Store} {l : List Int} {i : Nat} (h : i < l.length) : getix st (.py (tI l)) (.py (.int i)) = some (.py (.int (l.getD i 0))) := by
  simp only [getix, tI, intOf, Option.bind_some, List.length_map, ixN_nat h, List.getElem?_map]
  simp [List.getD_eq_getElem?_getD, List.getElem?_eq_getElem h]
theorem ixPL {st : Store} {l : List PD} {i : Nat} {p : PD} (h : l[i]? = some p) : getix st (.py (.list l)) (.py (.int i)) = some (.py p) := by
  have hi : i < l.length := (List.getElem?_eq_some_iff.mp h).1
  simp only [getix, intOf, Option.bind_some, ixN_nat hi, h, Option.map_some]
section
variable {fu n : Nat} {st : Store} {k : List Int} {Q : Qs} {M : Nat} {w : List (List PD)} {b : Option Int} {c : List Int}
theorem ix_parts {i : Nat} {p : PD} (h : [lI k, .list (Q.map patT), .int (M : Nat), .list (w.map .list), buD b][i]? = some p) : getix st (.py (partsD k Q M w b)) (.py (.int i)) = some (.py p) := ixPL h
theorem tupR {st : Store} {k : Nat} {l : List Int} (h : st[k]? = some (lstI l)) : bi st .tuple [.ref k] = some (.py (tI l)) := by
  have e : Ev.listOf st (.ref k) = some (l.map fun i => .py (.int i)) := by simp only [Ev.listOf, h]
  simp only [bi, seqPD, seqOf, e, Option.bind_some, pysI, Option.map_some]
theorem l_ref {Δ : Dn} {ρ : EnvD} {i : Nat} {l : List Int} (h : ρ[i]? = some (some (.ref st.length))) : ev Δ (.var i) ρ (st ++ [lstI l]) = .ok (.ref st.length) (st ++ [lstI l]) := e_ref h (get_last _ _) (by intro p z; cases z)
theorem l_push {Δ : Dn} {ρ : EnvD} {i : Nat} {l : List Int} {e : E} {z : Int} (h : ρ[i]? = some (some (.ref st.length))) (hl : l.length ≤ 10000) (he : ev Δ e ρ (st ++ [lstI l]) = .ok (.py (.int z)) (st ++ [lstI l])) : ex Δ fu (.app (.var i) e) ρ (st ++ [lstI l]) = .go .nx ρ (st ++ [lstI (l ++ [z])]) :=
  s_app (l_ref h) isLst_last he (app_last (show l.length < 16777216 by omega))
end
abbrev stD (S : List (List Int)) : PD := .tuple (S.map tI)
/-- a comprehension whose turns change the store -/
theorem lc_ex {α β : Type} {f : D → Store → Rs (Option D)} (e : α → D) (em : β → D) (Sx : Store → Prop) (Rl : α → β → Prop) : ∀ (xs : List α) (acc : List D) (st : Store), Sx st → (∀ x ∈ xs, ∀ st, Sx st → ∃ y st', f (e x) st = .ok (some (em y)) st' ∧ Sx st' ∧ Rl x y) → acc.length + xs.length ≤ line →
    ∃ (ys : List β) (st' : Store), lcLoop f acc (xs.map e) st = .ok (acc ++ ys.map em) st' ∧ Sx st' ∧ ys.length = xs.length ∧ ∀ (i : Nat) (x : α) (y : β), xs[i]? = some x → ys[i]? = some y → Rl x y
  | [], acc, st, h0, _, _ => ⟨[], st, by simp [lcLoop], h0, rfl, fun i x y h => by simp at h⟩
  | x :: xs, acc, st, h0, h, hl => by
    obtain ⟨y, st1, e1, h1, r1⟩ := h x List.mem_cons_self st h0
    rw [List.length_cons] at hl
    obtain ⟨ys, st2, e2, h2, l2, r2⟩ := lc_ex e em Sx Rl xs (acc ++ [em y]) st1 h1 (fun z hz => h z (List.mem_cons_of_mem _ hz)) (by rw [List.length_append]; show acc.length + 1 + _ ≤ _; omega)
    refine ⟨y :: ys, st2, ?_, h2, by rw [List.length_cons, List.length_cons, l2], fun i a b ha hb => ?_⟩
    · rw [List.map_cons]
      show (f (e x) st).bind _ = _
      rw [e1, Rs.bind_ok]
      simp only
      rw [if_pos (by omega), e2]
      simp
    · cases i with
      | zero => cases ha; cases hb; exact r1
      | succ i => exact r2 i a b ha hb
theorem run_nx {Δ : Dn} {fu ar sl : Nat} {b : Ss} {ds : List D} {st st' : Store} {ρ : EnvD} (hl : ds.length = ar) (h : exs Δ fu b (ds.map some ++ List.replicate (sl - ar) none) st = .go .nx ρ st') {st2 : Store} (ht : trim st.length (.py .none) st' = st2) : runFn Δ fu ar sl b ds st = .ok (.py .none) st2 := by
  unfold runFn
  rw [if_pos hl, h]
  simp only
  rw [ht]
theorem s_expr {Δ : Dn} {fu : Nat} {e : E} {ρ : EnvD} {st st' : Store} {d : D} (h : ev Δ e ρ st = .ok d st') : ex Δ fu (.expr e) ρ st = .go .nx ρ st' := by
  unfold ex
  rw [h]; rfl
theorem tupP {st : Store} {k : Nat} {l : List PD} (h : st[k]? = some (.lst (l.map .py))) : bi st .tuple [.ref k] = some (.py (.tuple l)) := by
  have e : seqPD st (.ref k) = some l := by
    unfold seqPD
    have : seqOf st (.ref k) = some (l.map .py) := by simp only [seqOf, Ev.listOf, h]
    rw [this, Option.bind_some, pys_map]
  simp only [bi, e, Option.map_some]
theorem sl_fromT {st : Store} {l : List Int} {j : Nat} (h : j ≤ l.length) : slcD st (.py (tI l)) (some (j : Int)) none = some (.py (tI (l.drop j))) := by
  show some (D.py (.tuple (cut (l.map PyData.int) (some (j : Int)) none))) = _
  unfold cut
  rw [HT.sIx_nat, HT.sIx_none, List.length_map, Nat.min_eq_left h, List.take_of_length_le (by simp), ← List.map_drop]
theorem sl_last {st : Store} {l : List Int} (h : 0 < l.length) : slcD st (.py (tI l)) none (some (-1)) = some (.py (tI (l.take (l.length - 1)))) := by
  show some (D.py (.tuple (cut (l.map PyData.int) none (some (-1))))) = _
  unfold cut
  rw [HT.sIx_none]
  have e : HT.sIx (l.map PyData.int).length (l.map PyData.int).length (some (-1)) = l.length - 1 := by
    unfold HT.sIx
    rw [List.length_map]
    simp only
    rw [if_pos (by omega)]
    omega
  rw [e, Nat.sub_zero, List.drop_zero, ← List.map_take]
theorem ix_last {st : Store} {l : List Int} (h : 0 < l.length) : getix st (.py (tI l)) (.py (.int (-1))) = some (.py (.int (l.getD (l.length - 1) 0))) := by
  have e : ixN (l.map PyData.int).length (-1) = some (l.length - 1) := by
    rw [List.length_map]
    show L2.ixN l.length (-1) = _
    unfold L2.ixN
    rw [if_neg (by omega), if_pos (by omega)]
    exact congrArg some (by omega)
  simp only [getix, tI, intOf, Option.bind_some, e, List.getElem?_map]
  rw [List.getD_eq_getElem?_getD, List.getElem?_eq_getElem (show l.length - 1 < l.length by omega)]
  rfl
theorem ixSt {st : Store} {S : List (List Int)} {i : Nat} (h : i < S.length) : getix st (.py (stD S)) (.py (.int (i : Nat))) = some (.py (tI (S.getD i []))) := by
  simp only [getix, intOf, Option.bind_some, List.length_map, ixN_nat h, List.getElem?_map]
  rw [List.getD_eq_getElem?_getD, List.getElem?_eq_getElem h]; rfl
section
variable {fu n : Nat} {st : Store} {k : List Int} {Q : Qs} {M : Nat} {w : List (List PD)} {b : Option Int} {c : List Int} {S A B : List (List Int)} {o : List Int}
theorem len_tI {l : List Int} : bi st .len [.py (tI l)] = some (.py (.int l.length)) := by
  unfold tI
  rw [n_lenT, List.length_map]
theorem i_st {Δ : Dn} {ρ : EnvD} {i : Nat} (h : ρ[i]? = some (some (.py (stD S)))) : evI Δ (.e (.var i)) ρ st = .ok (S.map fun r => .py (tI r)) st := (i_t (l := S.map tI) (e_var h)).trans (by rw [List.map_map]; rfl)
theorem amounts_ok (wf : WF st) (hl : S.length ≤ 1000) : lvl T fu (n + 1) 1 [.py (stD S)] st = .ok (.py (tI (S.map List.sum))) st := by
  show runFn (lvl T fu n) fu 1 2 c1 [.py (stD S)] st = _
  refine run_ret (ar := 1) (sl := 2) (b := c1) (ρ := [some (.py (stD S)), none]) (st' := st) rfl ?_ (trim_py0 wf)
  unfold c1
  refine st_fl (s_ret (e_bi (es_cons (e_li (l_lcm S (fun r => .py (tI r)) (fun r => .py (.int r.sum)) (i_st rfl) (fun r _ => e_bi (es_cons (e_var rfl) es_nil) (n_sumT r)) (show S.length ≤ 16777216 by omega)) (pysM (fun r : List Int => PyData.int r.sum) S)) es_nil) ?_)) (fun z => by cases z)
  rw [n_tupL]
  unfold tI
  rw [List.map_map]
  rfl
/-- one row, oldest first -/
theorem isr_loop {r0 : List Int} {m0 : Int} : ∀ (r acc : List Int) (m : Int), acc.length + r.length ≤ 1000 → ∃ m', forLoop (fun d ρ st => bindT (.nm 4) st d ρ (exs (lvl T fu n) fu c2b0)) (r.map fun c => .py (.int c)) [some (.py (tI r0)), some (.py (.int m0)), some (.ref st.length), some (.py (.int m)), none, none] (st ++ [lstI acc]) = .go .nx [some (.py (tI r0)), some (.py (.int m0)), some (.ref st.length), some (.py (.int m')), none, none] (st ++ [lstI (acc ++ Sk.isr r m)])
  | [], acc, m, _ => ⟨m, by rw [show Sk.isr [] m = [] from rfl, List.append_nil]; rfl⟩
  | c :: r, acc, m, hl => by
    rw [List.length_cons] at hl
    obtain ⟨m', e⟩ := isr_loop (r0 := r0) (m0 := m0) r (acc ++ [c - if m < c then m else c]) (m - if m < c then m else c) (by rw [List.length_append]; show acc.length + 1 + _ ≤ _; omega)
    refine ⟨m', ?_⟩
    have s5 := s_set (Δ := lvl T fu n) (fu := fu) (i := 5) (ρ := [some (.py (tI r0)), some (.py (.int m0)), some (.ref st.length), some (.py (.int m)), some (.py (.int c)), none]) (st := st ++ [lstI acc]) (e := .bi .min2 (.cons (.var 4) (.cons (.var 3) .nil))) (e_bi (es_cons (e_var rfl) (es_cons (e_var rfl) es_nil)) n_min2)
    have s3 := s_aug (Δ := lvl T fu n) (fu := fu) (i := 3) (op := .sub) (ρ := [some (.py (tI r0)), some (.py (.int m0)), some (.ref st.length), some (.py (.int m)), some (.py (.int c)), some (.py (.int (if m < c then m else c)))]) (st := st ++ [lstI acc]) (a := .var 5) rfl (e_var rfl) rfl
    have sp := l_push (Δ := lvl T fu n) (fu := fu) (st := st) (ρ := [some (.py (tI r0)), some (.py (.int m0)), some (.ref st.length), some (.py (.int (m - if m < c then m else c))), some (.py (.int c)), some (.py (.int (if m < c then m else c)))]) (i := 2) (l := acc) (e := .bin .sub (.var 4) (.var 5)) rfl (by omega) (e_bin (e_var rfl) (e_var rfl) b_sub)
    rw [List.map_cons]
    show (bindT (.nm 4) (st ++ [lstI acc]) (.py (.int c)) [some (.py (tI r0)), some (.py (.int m0)), some (.ref st.length), some (.py (.int m)), none, none] (exs (lvl T fu n) fu c2b0)).turn _ = _
    have hb : bindT (.nm 4) (st ++ [lstI acc]) (.py (.int c)) [some (.py (tI r0)), some (.py (.int m0)), some (.ref st.length), some (.py (.int m)), none, none] (exs (lvl T fu n) fu c2b0) = .go .nx [some (.py (tI r0)), some (.py (.int m0)), some (.ref st.length), some (.py (.int (m - if m < c then m else c))), none, none] (st ++ [lstI (acc ++ [c - if m < c then m else c])]) :=
      bind_nm.trans ((st_nx s5).trans ((st_nx s3).trans ((st_nx sp).trans (st_drop.trans s_nil))))
    rw [hb]
    show forLoop _ (r.map fun c => .py (.int c)) [some (.py (tI r0)), some (.py (.int m0)), some (.ref st.length), some (.py (.int (m - if m < c then m else c))), none, none] (st ++ [lstI (acc ++ [c - if m < c then m else c])]) = _
    rw [e, List.append_assoc]
    rfl
theorem issued_row_ok {r : List Int} {m : Int} (wf : WF st) (hl : r.length ≤ 1000) : lvl T fu (n + 1) 2 [.py (tI r), .py (.int m)] st = .ok (.py (tI (Sk.isr r m))) st := by
  show runFn (lvl T fu n) fu 2 6 c2 [.py (tI r), .py (.int m)] st = _
  obtain ⟨m', e⟩ := isr_loop (fu := fu) (n := n) (st := st) (r0 := r) (m0 := m) r [] m (by simpa using hl)
  have s2 : ex (lvl T fu n) fu (.set 2 (.cell (.lst .nil))) [some (.py (tI r)), some (.py (.int m)), none, none, none, none] st = .go .nx [some (.py (tI r)), some (.py (.int m)), some (.ref st.length), none, none, none] (st ++ [lstI []]) := s_set (i := 2) (e_cell (l_lst es_nil (show 0 ≤ 16777216 by omega)))
  have s3 : ex (lvl T fu n) fu (.set 3 (.var 1)) [some (.py (tI r)), some (.py (.int m)), some (.ref st.length), none, none, none] (st ++ [lstI []]) = .go .nx [some (.py (tI r)), some (.py (.int m)), some (.ref st.length), some (.py (.int m)), none, none] (st ++ [lstI []]) := s_set (i := 3) (e_var rfl)
  have hI : evI (lvl T fu n) (.e (.var 0)) [some (.py (tI r)), some (.py (.int m)), some (.ref st.length), some (.py (.int m)), none, none] (st ++ [lstI []]) = .ok (r.map fun c => .py (.int c)) (st ++ [lstI []]) := (i_t (l := r.map .int) (e_var rfl)).trans (by rw [List.map_map]; rfl)
  refine run_ret (ar := 2) (sl := 6) (b := c2) (ρ := [some (.py (tI r)), some (.py (.int m)), some (.ref st.length), some (.py (.int m')), none, none]) (st' := st ++ [lstI (Sk.isr r m)]) rfl ?_ (trim_py _ wf)
  unfold c2
  exact (st_nx s2).trans ((st_nx s3).trans ((st_nx ((s_for hI).trans e)).trans (st_fl (s_ret (e_bi (es_cons (l_ref rfl) es_nil) (tupR (get_last _ _)))) (fun z => by cases z))))
/-- an order that can be met -/
theorem check_ok (wf : WF st) (hl : S.length ≤ 1000) (ho : o.length = S.length) (h : ∀ i, i < S.length → o.getD i 0 ≤ (S.getD i []).sum) : lvl T fu (n + 2) 3 [.py (stD S), .py (tI o)] st = .ok (.py .none) st := by
  show runFn (lvl T fu (n + 1)) fu 2 5 c3 [.py (stD S), .py (tI o)] st = _
  have hI : evI (lvl T fu (n + 1)) (.ezip (.call 1 (.cons (.var 0) .nil)) (.var 1)) [some (.py (stD S)), some (.py (tI o)), none, none, none] st = .ok (enumD (zipD (((S.map List.sum).map .int).map .py) ((o.map .int).map .py))) st := by
    unfold evI
    rw [e_call (es_cons (e_var rfl) es_nil) (amounts_ok (n := n) wf hl), Rs.bind_ok, e_var rfl, Rs.bind_ok]
    simp only [seqOf_t]
  obtain ⟨ρ', st', e, rfl, rfl⟩ := for_inv (f := fun d ρ st => bindT (.two (.nm 2) (.two (.nm 3) (.nm 4))) st d ρ (exs (lvl T fu (n + 1)) fu c3b1)) (fun i ρ' st' => ρ' = [some (.py (stD S)), some (.py (tI o)), none, none, none] ∧ st' = st) (enumD (zipD (((S.map List.sum).map .int).map .py) ((o.map .int).map .py))) 0
    (fun i d ρ' st' hd hI => by
      obtain ⟨rfl, rfl⟩ := hI
      obtain ⟨d1, e1, rfl⟩ := enumD_at hd
      obtain ⟨x, y, e2, e3, rfl⟩ := zipD_at e1
      rw [List.getElem?_map, List.getElem?_map, List.getElem?_map] at e2
      rw [List.getElem?_map, List.getElem?_map] at e3
      cases hr : S[i]? with
      | none => rw [hr] at e2; cases e2
      | some r =>
        cases hm : o[i]? with
        | none => rw [hm] at e3; cases e3
        | some m =>
          rw [hr] at e2
          rw [hm] at e3
          cases e2
          cases e3
          have hi := (List.getElem?_eq_some_iff.mp hr).1
          have hle := h i hi
          rw [List.getD_eq_getElem?_getD, List.getD_eq_getElem?_getD, hr, hm] at hle
          simp only [Option.getD_some] at hle
          have hb : bindT (.two (.nm 2) (.two (.nm 3) (.nm 4))) st' (mkTup [.py (.int (i : Nat)), mkTup [.py (.int r.sum), .py (.int m)]]) [some (.py (stD S)), some (.py (tI o)), none, none, none] (exs (lvl T fu (n + 1)) fu c3b1) = exs (lvl T fu (n + 1)) fu c3b1 [some (.py (stD S)), some (.py (tI o)), some (.py (.int (i : Nat))), some (.py (.int r.sum)), some (.py (.int m))] st' := rfl
          have t1 : evT (lvl T fu (n + 1)) (.v (.cmp .lt (.var 3) (.var 4))) [some (.py (stD S)), some (.py (tI o)), some (.py (.int (i : Nat))), some (.py (.int r.sum)), some (.py (.int m))] st' = .ok false st' := by
            refine t_b ((e_cmp (e_var rfl) (e_var rfl) c_lt).trans ?_)
            rw [decide_eq_false (by omega)]
          exact ⟨_, _, hb.trans ((st_nx ((s_iff t1).trans s_nil)).trans (st_drop.trans s_nil)), rfl, rfl⟩)
    (ρ := [some (.py (stD S)), some (.py (tI o)), none, none, none]) (st := st) ⟨rfl, rfl⟩
  refine run_nx (ar := 2) (sl := 5) (b := c3) (ρ := [some (.py (stD S)), some (.py (tI o)), none, none, none]) (st' := st') rfl ?_ (trim_py0 wf)
  unfold c3
  exact (st_nx ((s_for hI).trans e)).trans s_nil
def iss (S : List (List Int)) (o : List Int) : List (List Int) := (S.zip o).map fun q => Sk.isr q.1 q.2
theorem i_zipS {Δ : Dn} {ρ : EnvD} {i : Nat} {a : E} (h : ρ[i]? = some (some (.py (stD S)))) (ha : ev Δ a ρ st = .ok (.py (tI o)) st) : evI Δ (.zip (.var i) a) ρ st = .ok ((S.zip o).map fun q => mkTup [.py (tI q.1), .py (.int q.2)]) st := by
  rw [i_zip (e_var h) ha (fun n z => by cases z) (fun n z => by cases z) seqOf_t seqOf_t, zipD_py, List.zip_map, List.map_map]
  rfl
theorem issue_ok (wf : WF st) (hl : S.length ≤ 1000) (hr : ∀ r ∈ S, r.length ≤ 1000) (ho : o.length = S.length) (h : ∀ i, i < S.length → o.getD i 0 ≤ (S.getD i []).sum) : lvl T fu (n + 3) 4 [.py (stD S), .py (tI o)] st = .ok (.py (stD (iss S o))) st := by
  show runFn (lvl T fu (n + 2)) fu 2 4 c4 [.py (stD S), .py (tI o)] st = _
  refine run_ret (ar := 2) (sl := 4) (b := c4) (ρ := [some (.py (stD S)), some (.py (tI o)), none, none]) (st' := st) rfl ?_ (trim_py0 wf)
  unfold c4
  refine (st_nx (s_expr (e_call (es_cons (e_var rfl) (es_cons (e_var rfl) es_nil)) (check_ok (n := n) wf hl ho h)))).trans (st_fl (s_ret (e_bi (es_cons (e_li (l_lcm2 (S.zip o) (fun q => .py (tI q.1)) (fun q => .py (.int q.2)) (fun q => .py (tI (Sk.isr q.1 q.2))) (i_zipS rfl (e_var rfl)) (fun q _ => pair_seq) (fun q hq => e_call (es_cons (e_var rfl) (es_cons (e_var rfl) es_nil)) (issued_row_ok (n := n + 1) wf (hr q.1 (List.of_mem_zip hq).1))) ?_) (pysM (fun q : List Int × Int => tI (Sk.isr q.1 q.2)) _)) es_nil) ?_)) (fun z => by cases z))
  · rw [List.length_zip]
    exact Nat.le_trans (Nat.min_le_left _ _) (by show S.length ≤ 16777216; omega)
  · rw [n_tupL]
    unfold iss
    rw [show stD ((S.zip o).map fun q => Sk.isr q.1 q.2) = .tuple ((S.zip o).map fun q => tI (Sk.isr q.1 q.2)) by show PyData.tuple (List.map tI _) = _; rw [List.map_map]; rfl]
end
theorem frz_list {j : Nat} {st : Store} {m : Nat} {l : List PD} (h : st[m]? = some (.lst (l.map .py))) : frzD (j + 1) st (.ref m) = some (.list l, st.set m (.frz (.list l))) := by
  have go : ∀ (l : List PD) (acc : List PD) (s : Store), (l.map D.py).foldlM (fun (p : List PD × Store) d => (frzD j p.2 d).map fun q => (p.1 ++ [q.1], q.2)) (acc, s) = some (acc ++ l, s) := by
    intro l
    induction l with
    | nil => intro acc s; simp
    | cons d l ih =>
      intro acc s
      rw [List.map_cons, List.foldlM_cons]
      have : frzD j s (.py d) = some (d, s) := by cases j <;> rfl
      rw [this]
      simp only [Option.map_some]
      show List.foldlM _ (acc ++ [d], s) (l.map D.py) = _
      rw [ih]
      simp
  unfold frzD
  simp only [h]
  rw [go l [] st]
  simp
/-- lists of a list -/
def RC (R : List (List Int)) : Store := R.map fun r => lstI r
def FC (R : List (List Int)) : Store := R.map fun r => .frz (lI r)
theorem frz_fold {j : Nat} : ∀ (R : List (List Int)) (pre post : Store) (acc : List PD), ((List.range R.length).map fun i => D.ref (pre.length + i)).foldlM (fun (p : List PD × Store) d => (frzD (j + 1) p.2 d).map fun q => (p.1 ++ [q.1], q.2)) (acc, pre ++ RC R ++ post) = some (acc ++ R.map lI, pre ++ FC R ++ post)
  | [], pre, post, acc => by
    show some (acc, _) = some (acc ++ [], _)
    rw [List.append_nil]
    rfl
  | r :: R, pre, post, acc => by
    have ih := frz_fold (j := j) R (pre ++ [.frz (lI r)]) post (acc ++ [lI r])
    rw [List.length_cons, List.range_succ_eq_map, List.map_cons, List.foldlM_cons]
    have e0 : (pre ++ RC (r :: R) ++ post)[pre.length + 0]? = some (.lst ((r.map .int).map .py)) := by
      show (pre ++ (lstI r :: RC R) ++ post)[pre.length + 0]? = _
      rw [List.append_assoc, Nat.add_zero, List.getElem?_append_right (Nat.le_refl _), Nat.sub_self]
      show some (lstI r) = _
      rw [List.map_map]
      rfl
    rw [frz_list e0]
    simp only [Option.map_some]
    have e1 : (pre ++ RC (r :: R) ++ post).set (pre.length + 0) (.frz (.list (r.map .int))) = (pre ++ [.frz (lI r)]) ++ RC R ++ post := by
      show (pre ++ (lstI r :: RC R) ++ post).set (pre.length + 0) _ = _
      rw [List.append_assoc, Nat.add_zero, List.set_append_right _ _ (Nat.le_refl _), Nat.sub_self]
      simp
    rw [e1]
    have e2 : ((List.range R.length).map Nat.succ).map (fun i => D.ref (pre.length + i)) = (List.range R.length).map fun i => D.ref ((pre ++ [Cell.frz (lI r)]).length + i) := by
      rw [List.map_map]
      refine List.map_congr_left fun i _ => ?_
      show D.ref (pre.length + (i + 1)) = D.ref ((pre ++ [Cell.frz (lI r)]).length + i)
      rw [List.length_append]
      congr 1
      show pre.length + (i + 1) = pre.length + 1 + i
      omega
    rw [e2]
    show List.foldlM _ (acc ++ [lI r], _) _ = _
    rw [ih, List.append_assoc]
    show some (acc ++ ([lI r] ++ R.map lI), (pre ++ [.frz (lI r)]) ++ FC R ++ post) = some (acc ++ (lI r :: R.map lI), pre ++ (.frz (lI r) :: FC R) ++ post)
    rw [List.append_assoc pre]
    rfl
def OC (b g : Nat) : Cell := .lst ((List.range g).map fun i => D.ref (b + i))
/-- rows that change: the lists, the list of them -/
def RS (X : Store) (R : List (List Int)) : Store := X ++ RC R ++ [OC (X.length + 2) R.length]
section
variable {fu n a : Nat} {row : List Int} {X : Store} {R : List (List Int)} {i g : Nat}
theorem RC_len : (RC R).length = R.length := by unfold RC; rw [List.length_map]
theorem RS_len : (RS X R).length = X.length + R.length + 1 := by
  unfold RS
  rw [List.length_append, List.length_append, RC_len]
  rfl
theorem by_get {Y : Store} (m : Nat) : (BY row a Y)[m + 2]? = Y[m]? := rfl
theorem by_set {Y : Store} (m : Nat) (c : Cell) : (BY row a Y).set (m + 2) c = BY row a (Y.set m c) := rfl
theorem RS_in (h : i < R.length) : (BY row a (RS X R))[X.length + 2 + i]? = some (lstI (R.getD i [])) := by
  rw [show X.length + 2 + i = (X.length + i) + 2 by omega, by_get]
  unfold RS
  rw [List.append_assoc, List.getElem?_append_right (by omega), show X.length + i - X.length = i by omega, List.getElem?_append_left (by rw [RC_len]; exact h)]
  unfold RC
  rw [List.getElem?_map, List.getD_eq_getElem?_getD, List.getElem?_eq_getElem h]
  rfl
theorem RS_out : (BY row a (RS X R))[X.length + 2 + R.length]? = some (OC (X.length + 2) R.length) := by
  rw [show X.length + 2 + R.length = (X.length + R.length) + 2 by omega, by_get]
  unfold RS
  rw [List.getElem?_append_right (by rw [List.length_append, RC_len]; omega), List.length_append, RC_len, Nat.sub_self]
  rfl
theorem RS_set (h : i < R.length) (r : List Int) : (BY row a (RS X R)).set (X.length + 2 + i) (lstI r) = BY row a (RS X (R.set i r)) := by
  rw [show X.length + 2 + i = (X.length + i) + 2 by omega, by_set]
  congr 2
  unfold RS
  rw [List.append_assoc, List.set_append_right _ _ (by omega), show X.length + i - X.length = i by omega, List.set_append_left _ _ (by rw [RC_len]; exact h), List.length_set, List.append_assoc]
  congr 2
  unfold RC
  rw [List.map_set]
theorem RS_wf {b : Nat} (wf : WF (BY row b X)) : WF (BY row a (RS X R)) := by
  have h1 : ∀ (L : List (List Int)) (Y : Store), WF (BY row b Y) → WF (BY row b (Y ++ RC L)) := by
    intro L
    induction L with
    | nil => intro Y h; show WF (BY row b (Y ++ [])); rw [List.append_nil]; exact h
    | cons r L ih =>
      intro Y h
      have h2 : WF (BY row b (Y ++ [lstI r])) := w_app h fun m => by
        show (r.map fun i => D.py (.int i)).all _ = true
        rw [List.all_eq_true]
        intro p hp
        obtain ⟨x, _, rfl⟩ := List.mem_map.mp hp
        rfl
      have h3 := ih _ h2
      rw [List.append_assoc] at h3
      exact h3
  have h4 := h1 R X wf
  have h5 : WF (BY row b (X ++ RC R ++ [OC (X.length + 2) R.length])) := by
    refine WF.app (c := OC (X.length + 2) R.length) h4 ?_
    show ((List.range R.length).map fun i => D.ref (X.length + 2 + i)).all _ = true
    rw [List.all_eq_true]
    intro d hd
    obtain ⟨i, hi, rfl⟩ := List.mem_map.mp hd
    have := List.mem_range.mp hi
    show decide (X.length + 2 + i < (BY row b (X ++ RC R)).length + 1) = true
    refine decide_eq_true ?_
    show X.length + 2 + i < (X ++ RC R).length + 1 + 1 + 1
    rw [List.length_append, RC_len]
    omega
  exact WF.by2 h5
theorem ix_out (h : i < R.length) : getix (BY row a (RS X R)) (.ref (X.length + 2 + R.length)) (.py (.int (i : Nat))) = some (.ref (X.length + 2 + i)) := by
  simp only [getix, RS_out]
  unfold OC
  simp only [intOf, Option.bind_some, List.length_map, List.length_range, ixN_nat h, List.getElem?_map, List.getElem?_range h, Option.map_some]
theorem ix_in {p : Nat} (h : i < R.length) (hp : p < (R.getD i []).length) : getix (BY row a (RS X R)) (.ref (X.length + 2 + i)) (.py (.int (p : Nat))) = some (.py (.int ((R.getD i []).getD p 0))) := by
  simp only [getix, RS_in h, intOf, Option.bind_some, List.length_map, ixN_nat hp, List.getElem?_map]
  rw [List.getElem?_eq_getElem hp, List.getD_eq_getElem?_getD (l := R.getD i []), List.getElem?_eq_getElem hp]
  rfl
theorem st_in {p : Nat} {v : Int} (h : i < R.length) (hp : p < (R.getD i []).length) : setix (BY row a (RS X R)) (.ref (X.length + 2 + i)) (.py (.int (p : Nat))) (.py (.int v)) = some (BY row a (RS X (R.set i ((R.getD i []).set p v)))) := by
  simp only [setix, RS_in h, intOf, Option.bind_some, List.length_map, ixN_nat hp, Option.map_some]
  rw [← RS_set h]
  congr 2
  show Cell.lst _ = Cell.lst _
  rw [List.map_set]
theorem len_out {st : Store} {m : Nat} {ds : List D} (h : st[m]? = some (.lst ds)) : bi st .len [.ref m] = some (.py (.int ds.length)) := by
  simp only [bi, h]
theorem e_out {ρ : EnvD} {v : Nat} (h : ρ[v]? = some (some (.ref (X.length + 2 + R.length)))) : ev (lvl T fu n) (.var v) ρ (BY row a (RS X R)) = .ok (.ref (X.length + 2 + R.length)) (BY row a (RS X R)) := e_ref h RS_out (by intro p z; cases z)
theorem e_in {ρ : EnvD} {v u : Nat} (h : ρ[v]? = some (some (.ref (X.length + 2 + R.length)))) (hu : ρ[u]? = some (some (.py (.int (i : Nat))))) (hi : i < R.length) : ev (lvl T fu n) (.ix (.var v) (.var u)) ρ (BY row a (RS X R)) = .ok (.ref (X.length + 2 + i)) (BY row a (RS X R)) := e_ix (e_out h) (e_var hu) (ix_out hi)
theorem frz_rows : frzD 6 (BY row a (RS X R)) (.ref (X.length + 2 + R.length)) = some (.list (R.map lI), BY row a (X ++ FC R ++ [.frz (.list (R.map lI))])) := by
  have h := frz_fold (j := 4) R (BY row a X) [OC (X.length + 2) R.length] []
  rw [List.nil_append] at h
  have e : (BY row a (RS X R))[X.length + 2 + R.length]? = some (.lst ((List.range R.length).map fun i => D.ref (X.length + 2 + i))) := RS_out
  unfold frzD
  simp only [e]
  have h' : ((List.range R.length).map fun i => D.ref (X.length + 2 + i)).foldlM (fun (p : List PD × Store) d => (frzD 5 p.2 d).map fun q => (p.1 ++ [q.1], q.2)) (([] : List PD), BY row a (RS X R)) = some (R.map lI, BY row a (X ++ FC R ++ [OC (X.length + 2) R.length])) := h
  rw [h']
  simp only [Option.map_some]
  rw [show X.length + 2 + R.length = (X.length + R.length) + 2 by omega, by_set]
  congr 3
  have hl : (X ++ FC R).length = X.length + R.length := by rw [List.length_append]; unfold FC; rw [List.length_map]
  rw [← hl, List.set_append_right _ _ (Nat.le_refl _), Nat.sub_self]
  rfl
theorem FS_wf {b : Nat} {d : PD} (wf : WF (BY row b X)) : WF (BY row a (X ++ FC R ++ [.frz d])) := by
  have h1 : ∀ (L : List (List Int)) (Y : Store), WF (BY row b Y) → WF (BY row b (Y ++ FC L)) := by
    intro L
    induction L with
    | nil => intro Y h; show WF (BY row b (Y ++ [])); rw [List.append_nil]; exact h
    | cons r L ih =>
      intro Y h
      have h2 : WF (BY row b (Y ++ [.frz (lI r)])) := w_app h fun m => rfl
      have h3 := ih _ h2
      rw [List.append_assoc] at h3
      exact h3
  exact WF.by2 (w_app (h1 R X wf) fun m => rfl)
end
/-- a drawn stock -/
def StOk (k : List Int) (m : Int) (S : List (List Int)) : Prop := S.length = k.length ∧ ∀ i, i < k.length → ((S.getD i []).length : Int) = k.getD i 0 ∧ ∀ x ∈ S.getD i [], 0 ≤ x ∧ x ≤ m
section
variable {fu n a : Nat} {row : List Int} {X : Store} {k : List Int} {Q : Qs} {M : Nat} {w : List (List PD)} {b : Option Int}
theorem stock_elt {m : Int} {z : Nat} {p : D} (wf : WF (BY row a X)) (hm : 0 ≤ m) (hz : z ≤ 100) : ev (lvl T fu (n + 1)) (.bi .tuple (.cons (.li (.lc (.call 10 (.cons (.var 0) (.cons (.bin .add (.var 2) (.con (.int 1))) .nil))) (.nm 4) [4] (.rng (.var 3)) .yes)) .nil)) [some (.ref 1), some p, some (.py (.int m)), some (.py (.int (z : Nat))), none] (BY row a X) = .ok (.py (tI (drL (fun a => dv0 row a (m + 1)) a z))) (BY row (a + z) X) := by
  have hl := l_draws (Δ := lvl T fu (n + 1)) (elt := .call 10 (.cons (.var 0) (.cons (.bin .add (.var 2) (.con (.int 1))) .nil))) (i := 4) (it := .rng (.var 3)) (ρ := [some (.ref 1), some p, some (.py (.int m)), some (.py (.int (z : Nat))), none]) (a := a) (S := fun a => BY row a X) (v := fun a => dv0 row a (m + 1)) (ds := rangeD 0 (z : Int)) (i_rng (e_var rfl) (fitN (by omega))) (fun d' a => e_drw0 drw (i := 0) rfl (e_bin (e_var rfl) e_con b_add) (WF.by2 wf) (by omega)) (by rw [rangeN]; show z ≤ 16777216; omega)
  rw [rangeN] at hl
  exact e_bi (es_cons (e_li hl (pysI _)) es_nil) n_tupL
theorem turn_ev {Δ : Dn} {elt : E} {i : Nat} {ρ : EnvD} {d x : D} {st st' : Store} (h : ev Δ elt ((wipe ρ [i]).set i (some d)) st = .ok x st') : lcTurn (ev Δ elt) (evT Δ .yes) (.nm i) (wipe ρ [i]) d st = .ok (some x) st' := by
  unfold lcTurn
  simp only [asg]
  rw [t_yes]
  simp only [Rs.noex_ok, Rs.bind_ok, if_true]
  rw [h]; rfl
theorem stock_ok (wf : WF (BY row a X)) {m : Int} (hm : 0 ≤ m) (hk : ∀ x ∈ k, 1 ≤ x ∧ x ≤ 4) (hkl : k.length ≤ 100) : ∃ (S : List (List Int)) (a' : Nat), lvl T fu (n + 2) 19 [.ref 1, .py (partsD k Q M w b), .py (.int m)] (BY row a X) = .ok (.py (stD S)) (BY row a' X) ∧ StOk k m S := by
  have hI : evI (lvl T fu (n + 1)) (.e (.ix (.var 1) (.con (.int 0)))) [some (.ref 1), some (.py (partsD k Q M w b)), some (.py (.int m)), none, none] (BY row a X) = .ok (k.map fun x => .py (.int x)) (BY row a X) :=
    (i_e (l := k.map .int) (e_ix (e_var rfl) e_con (ix_parts (i := 0) rfl))).trans (by rw [List.map_map]; rfl)
  obtain ⟨S, st', e, ⟨a', rfl⟩, hl, hr⟩ := lc_ex (f := lcTurn (ev (lvl T fu (n + 1)) (.bi .tuple (.cons (.li (.lc (.call 10 (.cons (.var 0) (.cons (.bin .add (.var 2) (.con (.int 1))) .nil))) (.nm 4) [4] (.rng (.var 3)) .yes)) .nil))) (evT (lvl T fu (n + 1)) .yes) (.nm 3) (wipe [some (.ref 1), some (.py (partsD k Q M w b)), some (.py (.int m)), none, none] [3])) (fun x : Int => D.py (.int x)) (fun r : List Int => D.py (tI r)) (fun st => ∃ a, st = BY row a X) (fun x r => (r.length : Int) = x ∧ ∀ y ∈ r, 0 ≤ y ∧ y ≤ m) k [] (BY row a X) ⟨a, rfl⟩
    (fun x hx st ⟨a1, h⟩ => by
      subst h
      have hx4 := hk x hx
      obtain ⟨z, rfl⟩ : ∃ z : Nat, x = (z : Int) := ⟨x.toNat, by omega⟩
      refine ⟨drL (fun a => dv0 row a (m + 1)) a1 z, _, turn_ev (stock_elt (n := n) (WF.by2 wf) hm (by omega)), ⟨a1 + z, rfl⟩, by rw [drL_len], drL_mem (f := fun a => dv0 row a (m + 1)) (Pr := fun y => 0 ≤ y ∧ y ≤ m) (fun a => by have := dv0_bd (row := row) (a := a) (m := m + 1) (by omega); omega) z⟩)
    (by show 0 + k.length ≤ 16777216; omega)
  rw [List.nil_append] at e
  refine ⟨S, a', ?_, hl, fun i hi => ?_⟩
  · show runFn (lvl T fu (n + 1)) fu 3 5 c19 [.ref 1, .py (partsD k Q M w b), .py (.int m)] (BY row a X) = _
    refine run_ret (ar := 3) (sl := 5) (b := c19) (ρ := [some (.ref 1), some (.py (partsD k Q M w b)), some (.py (.int m)), none, none]) (st' := BY row a' X) rfl ?_ (trim_py0 (st := BY row a' X) (WF.by2 wf))
    unfold c19
    refine st_fl (s_ret (e_bi (es_cons (e_li (l_lc hI e) (pysM (fun r : List Int => tI r) S)) es_nil) n_tupL)) (fun z => by cases z)
  · have h1 : k[i]? = some (k.getD i 0) := by rw [List.getD_eq_getElem?_getD, List.getElem?_eq_getElem hi]; rfl
    have h2 : S[i]? = some (S.getD i []) := by rw [List.getD_eq_getElem?_getD, List.getElem?_eq_getElem (by omega)]; rfl
    exact hr i _ _ h1 h2
end
end La
set_option maxHeartbeats 1000000
namespace La
open PySem Ev
def betB (r l : List Int) : Bool := (List.range r.length).all fun p => !decide (Sk.sf r p < Sk.sf l p)
def betBs (A B : List (List Int)) : Bool := (A.zip B).all fun q => betB q.1 q.2
theorem find_none {α : Type} {p : α → Bool} {l : List α} (h : (l.all fun x => !p x) = true) : l.find? p = none := by
  rw [List.find?_eq_none]
  intro x hx hp
  have := List.all_eq_true.mp h x hx
  rw [hp] at this
  cases this
theorem find_some {α : Type} {p : α → Bool} {l : List α} (h : (l.all fun x => !p x) = false) : ∃ x, l.find? p = some x := by
  cases hf : l.find? p with
  | some x => exact ⟨x, rfl⟩
  | none =>
    rw [List.find?_eq_none] at hf
    have : (l.all fun x => !p x) = true := by
      rw [List.all_eq_true]
      intro x hx
      have := hf x hx
      cases hp : p x with
      | true => exact absurd hp this
      | false => rfl
    rw [h] at this
    cases this
section
variable {fu n : Nat} {st : Store} {k : List Int} {Q : Qs} {M : Nat} {w : List (List PD)} {b : Option Int} {c : List Int} {S A B : List (List Int)} {o r l : List Int}
theorem sum_ge {Δ : Dn} {ρ : EnvD} {a b : E} {p : Nat} {i : Nat} (ha : ev Δ a ρ st = .ok (.py (tI r)) st) (hb : ev Δ b ρ st = .ok (.py (tI l)) st) (hi : ρ[i]? = some (some (.py (.int (p : Nat))))) (h1 : p ≤ r.length) (h2 : p ≤ l.length) :
    evT Δ (.v (.cmp .lt (.bi .sum (.cons (.sl a (.so (.var i)) .no) .nil)) (.bi .sum (.cons (.sl b (.so (.var i)) .no) .nil)))) ρ st = .ok (decide (Sk.sf r p < Sk.sf l p)) st :=
  t_b (e_cmp (e_bi (es_cons (e_slice ha (o_so (e_var hi)) o_no (sl_fromT h1)) es_nil) (n_sumT _)) (e_bi (es_cons (e_slice hb (o_so (e_var hi)) o_no (sl_fromT h2)) es_nil) (n_sumT _)) c_lt)
theorem is_better_ok (wf : WF st) (hr : ∀ q ∈ A.zip B, q.1.length = q.2.length ∧ q.1.length ≤ 1000) : lvl T fu (n + 1) 7 [.py (stD A), .py (stD B)] st = .ok (.py (.bool (betBs A B))) st := by
  show runFn (lvl T fu n) fu 2 5 c7 [.py (stD A), .py (stD B)] st = _
  have inner : ∀ q ∈ A.zip B, (betB q.1 q.2 = false → ∃ ρ', exs (lvl T fu n) fu c7b2 [some (.py (stD A)), some (.py (stD B)), some (.py (tI q.1)), some (.py (tI q.2)), none] st = .go (.rt (.py (.bool false))) ρ' st) ∧
      (betB q.1 q.2 = true → exs (lvl T fu n) fu c7b2 [some (.py (stD A)), some (.py (stD B)), some (.py (tI q.1)), some (.py (tI q.2)), none] st = .go .nx [some (.py (stD A)), some (.py (stD B)), none, none, none] st) := fun q hq => by
    obtain ⟨hl, h1⟩ := hr q hq
    have hI : evI (lvl T fu n) (.rng (.bi .len (.cons (.var 2) .nil))) [some (.py (stD A)), some (.py (stD B)), some (.py (tI q.1)), some (.py (tI q.2)), none] st = .ok ((List.range q.1.length).map fun (i : Nat) => .py (.int i)) st := by
      rw [i_rng (j := (q.1.length : Int)) (e_bi (es_cons (e_var rfl) es_nil) len_tI) (fitN (by omega)), rangeZ, Int.toNat_natCast]
    obtain ⟨k1, k2⟩ := for_first (f := fun d ρ st => bindT (.nm 4) st d ρ (exs (lvl T fu n) fu c7b1)) (st := st) (fun (p : Nat) => D.py (.int p)) (fun p => decide (Sk.sf q.1 p < Sk.sf q.2 p)) (fun _ => .py (.bool false)) (fun ρ => ρ = [some (.py (stD A)), some (.py (stD B)), some (.py (tI q.1)), some (.py (tI q.2)), none]) (List.range q.1.length) _ rfl
      (fun p hp ρ hρ => by
        subst hρ
        have hp' := List.mem_range.mp hp
        have t1 := sum_ge (Δ := lvl T fu n) (ρ := [some (.py (stD A)), some (.py (stD B)), some (.py (tI q.1)), some (.py (tI q.2)), some (.py (.int (p : Nat)))]) (st := st) (a := .var 2) (b := .var 3) (i := 4) (p := p) (r := q.1) (l := q.2) (e_var rfl) (e_var rfl) rfl (by omega) (by omega)
        refine ⟨fun h => ?_, fun h => ?_⟩
        · rw [h] at t1
          exact ⟨_, bind_nm.trans (st_fl ((s_ift t1).trans (st_fl (s_ret e_con) (fun z => by cases z))) (fun z => by cases z))⟩
        · rw [h] at t1
          exact ⟨_, bind_nm.trans ((st_nx ((s_iff t1).trans s_nil)).trans (st_drop.trans s_nil)), rfl⟩)
    refine ⟨fun h => ?_, fun h => ?_⟩
    · obtain ⟨x, hx⟩ := find_some (p := fun p => decide (Sk.sf q.1 p < Sk.sf q.2 p)) h
      obtain ⟨ρ', e⟩ := k1 x hx
      exact ⟨_, st_fl ((s_for hI).trans e) (fun z => by cases z)⟩
    · obtain ⟨ρ', e, rfl⟩ := k2 (find_none (p := fun p => decide (Sk.sf q.1 p < Sk.sf q.2 p)) h)
      exact (st_nx ((s_for hI).trans e)).trans (st_drop.trans s_nil)
  have hI : evI (lvl T fu n) (.zip (.var 0) (.var 1)) [some (.py (stD A)), some (.py (stD B)), none, none, none] st = .ok ((A.zip B).map fun q => mkTup [.py (tI q.1), .py (tI q.2)]) st := by
    rw [i_zip (e_var rfl) (e_var rfl) (fun n z => by cases z) (fun n z => by cases z) seqOf_t seqOf_t, zipD_py, List.zip_map, List.map_map]
    rfl
  obtain ⟨k1, k2⟩ := for_first (f := fun d ρ st => bindT (.two (.nm 2) (.nm 3)) st d ρ (exs (lvl T fu n) fu c7b2)) (st := st) (fun q : List Int × List Int => mkTup [.py (tI q.1), .py (tI q.2)]) (fun q => !betB q.1 q.2) (fun _ => .py (.bool false)) (fun ρ => ρ = [some (.py (stD A)), some (.py (stD B)), none, none, none]) (A.zip B) _ rfl
    (fun q hq ρ hρ => by
      subst hρ
      obtain ⟨i1, i2⟩ := inner q hq
      have hb : bindT (.two (.nm 2) (.nm 3)) st (mkTup [.py (tI q.1), .py (tI q.2)]) [some (.py (stD A)), some (.py (stD B)), none, none, none] (exs (lvl T fu n) fu c7b2) = exs (lvl T fu n) fu c7b2 [some (.py (stD A)), some (.py (stD B)), some (.py (tI q.1)), some (.py (tI q.2)), none] st := rfl
      refine ⟨fun h => ?_, fun h => ?_⟩
      · obtain ⟨ρ', e⟩ := i1 (by simpa using h)
        exact ⟨ρ', hb.trans e⟩
      · exact ⟨_, hb.trans (i2 (by simpa using h)), rfl⟩)
  cases hb : betBs A B with
  | true =>
    obtain ⟨ρ', e, rfl⟩ := k2 (find_none (p := fun q : List Int × List Int => !betB q.1 q.2) (by unfold betBs at hb; simpa using hb))
    refine run_ret (ar := 2) (sl := 5) (b := c7) (ρ := [some (.py (stD A)), some (.py (stD B)), none, none, none]) (st' := st) rfl ?_ (trim_py0 wf)
    unfold c7
    exact (st_nx ((s_for hI).trans e)).trans (st_fl (s_ret e_con) (fun z => by cases z))
  | false =>
    obtain ⟨x, hx⟩ := find_some (p := fun q : List Int × List Int => !betB q.1 q.2) (l := A.zip B) (by unfold betBs at hb; simpa using hb)
    obtain ⟨ρ', e⟩ := k1 x hx
    refine run_ret (ar := 2) (sl := 5) (b := c7) (ρ := ρ') (st' := st) rfl ?_ (trim_py0 wf)
    unfold c7
    exact st_fl ((s_for hI).trans e) (fun z => by cases z)
theorem zip_getD {i : Nat} (h : A.length = B.length) (hi : i < A.length) : (A.zip B)[i]? = some (A.getD i [], B.getD i []) := by
  rw [List.getElem?_zip_eq_some]
  refine ⟨?_, ?_⟩
  · show A[i]? = some (A.getD i [])
    rw [List.getD_eq_getElem?_getD, List.getElem?_eq_getElem hi]; rfl
  · show B[i]? = some (B.getD i [])
    rw [List.getD_eq_getElem?_getD, List.getElem?_eq_getElem (show i < B.length by omega)]; rfl
theorem betBs_range (h : A.length = B.length) : betBs A B = (List.range A.length).all fun i => betB (A.getD i []) (B.getD i []) := by
  unfold betBs
  rw [Bool.eq_iff_iff, List.all_eq_true, List.all_eq_true]
  constructor
  · intro q i hi
    exact q _ (List.mem_of_getElem? (zip_getD h (List.mem_range.mp hi)))
  · intro q x hx
    obtain ⟨i, hi⟩ := List.getElem?_of_mem hx
    have hl : i < A.length := by
      have := (List.getElem?_eq_some_iff.mp hi).1
      rw [List.length_zip] at this
      omega
    rw [zip_getD h hl] at hi
    cases hi
    exact q i (List.mem_range.mpr hl)
/-- the law's comparing answers alike -/
theorem law_better_ok (wf : WF st) (hAB : A.length = B.length) (hA : A.length ≤ 1000) (hr : ∀ q ∈ A.zip B, q.1.length = q.2.length ∧ q.1.length ≤ 1000) : lvl T fu (n + 1) 25 [.py (stD A), .py (stD B)] st = .ok (.py (.bool (betBs A B))) st := by
  show runFn (lvl T fu n) fu 2 4 c25 [.py (stD A), .py (stD B)] st = _
  have inner : ∀ g, g < A.length → (betB (A.getD g []) (B.getD g []) = false → ∃ ρ', exs (lvl T fu n) fu c25b2 [some (.py (stD A)), some (.py (stD B)), some (.py (.int (g : Nat))), none] st = .go (.rt (.py (.bool false))) ρ' st) ∧
      (betB (A.getD g []) (B.getD g []) = true → exs (lvl T fu n) fu c25b2 [some (.py (stD A)), some (.py (stD B)), some (.py (.int (g : Nat))), none] st = .go .nx [some (.py (stD A)), some (.py (stD B)), none, none] st) := fun g hg => by
    obtain ⟨hl, h1⟩ := hr _ (List.mem_of_getElem? (zip_getD hAB hg))
    simp only at hl h1
    have hI : evI (lvl T fu n) (.rng (.bi .len (.cons (.ix (.var 0) (.var 2)) .nil))) [some (.py (stD A)), some (.py (stD B)), some (.py (.int (g : Nat))), none] st = .ok ((List.range (A.getD g []).length).map fun (i : Nat) => .py (.int i)) st := by
      rw [i_rng (j := ((A.getD g []).length : Int)) (e_bi (es_cons (e_ix (e_var rfl) (e_var rfl) (ixSt hg)) es_nil) len_tI) (fitN (by omega)), rangeZ, Int.toNat_natCast]
    obtain ⟨k1, k2⟩ := for_first (f := fun d ρ st => bindT (.nm 3) st d ρ (exs (lvl T fu n) fu c25b1)) (st := st) (fun (p : Nat) => D.py (.int p)) (fun p => decide (Sk.sf (A.getD g []) p < Sk.sf (B.getD g []) p)) (fun _ => .py (.bool false)) (fun ρ => ρ = [some (.py (stD A)), some (.py (stD B)), some (.py (.int (g : Nat))), none]) (List.range (A.getD g []).length) _ rfl
      (fun p hp ρ hρ => by
        subst hρ
        have hp' := List.mem_range.mp hp
        have t1 := sum_ge (Δ := lvl T fu n) (ρ := [some (.py (stD A)), some (.py (stD B)), some (.py (.int (g : Nat))), some (.py (.int (p : Nat)))]) (st := st) (a := .ix (.var 0) (.var 2)) (b := .ix (.var 1) (.var 2)) (i := 3) (p := p) (r := A.getD g []) (l := B.getD g []) (e_ix (e_var rfl) (e_var rfl) (ixSt hg)) (e_ix (e_var rfl) (e_var rfl) (ixSt (by omega))) rfl (by omega) (by omega)
        refine ⟨fun h => ?_, fun h => ?_⟩
        · rw [h] at t1
          exact ⟨_, bind_nm.trans (st_fl ((s_ift t1).trans (st_fl (s_ret e_con) (fun z => by cases z))) (fun z => by cases z))⟩
        · rw [h] at t1
          exact ⟨_, bind_nm.trans ((st_nx ((s_iff t1).trans s_nil)).trans (st_drop.trans s_nil)), rfl⟩)
    refine ⟨fun h => ?_, fun h => ?_⟩
    · obtain ⟨x, hx⟩ := find_some (p := fun p => decide (Sk.sf (A.getD g []) p < Sk.sf (B.getD g []) p)) h
      obtain ⟨ρ', e⟩ := k1 x hx
      exact ⟨_, st_fl ((s_for hI).trans e) (fun z => by cases z)⟩
    · obtain ⟨ρ', e, rfl⟩ := k2 (find_none (p := fun p => decide (Sk.sf (A.getD g []) p < Sk.sf (B.getD g []) p)) h)
      exact (st_nx ((s_for hI).trans e)).trans (st_drop.trans s_nil)
  have hI : evI (lvl T fu n) (.rng (.bi .len (.cons (.var 0) .nil))) [some (.py (stD A)), some (.py (stD B)), none, none] st = .ok ((List.range A.length).map fun (i : Nat) => .py (.int i)) st := by
    rw [i_rng (j := (A.length : Int)) (e_bi (es_cons (e_var rfl) es_nil) (by rw [n_lenT, List.length_map])) (fitN (by omega)), rangeZ, Int.toNat_natCast]
  obtain ⟨k1, k2⟩ := for_first (f := fun d ρ st => bindT (.nm 2) st d ρ (exs (lvl T fu n) fu c25b2)) (st := st) (fun (p : Nat) => D.py (.int p)) (fun g => !betB (A.getD g []) (B.getD g [])) (fun _ => .py (.bool false)) (fun ρ => ρ = [some (.py (stD A)), some (.py (stD B)), none, none]) (List.range A.length) _ rfl
    (fun g hg ρ hρ => by
      subst hρ
      obtain ⟨i1, i2⟩ := inner g (List.mem_range.mp hg)
      refine ⟨fun h => ?_, fun h => ?_⟩
      · obtain ⟨ρ', e⟩ := i1 (by simpa using h)
        exact ⟨ρ', bind_nm.trans e⟩
      · exact ⟨_, bind_nm.trans (i2 (by simpa using h)), rfl⟩)
  cases hb : betBs A B with
  | true =>
    rw [betBs_range hAB] at hb
    obtain ⟨ρ', e, rfl⟩ := k2 (find_none (p := fun g => !betB (A.getD g []) (B.getD g [])) (by simpa using hb))
    refine run_ret (ar := 2) (sl := 4) (b := c25) (ρ := [some (.py (stD A)), some (.py (stD B)), none, none]) (st' := st) rfl ?_ (trim_py0 wf)
    unfold c25
    exact (st_nx ((s_for hI).trans e)).trans (st_fl (s_ret e_con) (fun z => by cases z))
  | false =>
    rw [betBs_range hAB] at hb
    obtain ⟨x, hx⟩ := find_some (p := fun g => !betB (A.getD g []) (B.getD g [])) (l := List.range A.length) (by simpa using hb)
    obtain ⟨ρ', e⟩ := k1 x hx
    refine run_ret (ar := 2) (sl := 4) (b := c25) (ρ := ρ') (st' := st) rfl ?_ (trim_py0 wf)
    unfold c25
    exact st_fl ((s_for hI).trans e) (fun z => by cases z)
end
end La
set_option maxHeartbeats 1000000
namespace La
open PySem Ev
def ext (M : Nat) (r : List Int) : List (List Int) := (List.range ((M : Int) - r.sum + 1).toNat).map fun (x : Nat) => r ++ [(x : Int)]
def chs (M : Nat) : Nat → List (List Int)
  | 0 => [[]]
  | j + 1 => (chs M j).flatMap (ext M)
theorem mem_chs {M : Nat} : ∀ {j : Nat} {r : List Int}, r ∈ chs M j ↔ r.length = j ∧ (∀ x ∈ r, 0 ≤ x) ∧ r.sum ≤ M
  | 0, r => by
    unfold chs
    rw [List.mem_singleton]
    constructor
    · rintro rfl
      exact ⟨rfl, (fun x hx => by cases hx), by simp⟩
    · rintro ⟨h, _⟩
      exact List.length_eq_zero_iff.mp h
  | j + 1, r => by
    unfold chs
    rw [List.mem_flatMap]
    constructor
    · rintro ⟨s, hs, hr⟩
      obtain ⟨h1, h2, h3⟩ := mem_chs.mp hs
      obtain ⟨x, hx, rfl⟩ := List.mem_map.mp hr
      have hx' := List.mem_range.mp hx
      refine ⟨by rw [List.length_append, h1]; rfl, fun y hy => ?_, by rw [List.sum_append]; simp; omega⟩
      rcases List.mem_append.mp hy with hy | hy
      · exact h2 y hy
      · rw [List.mem_singleton.mp hy]; omega
    · rintro ⟨h1, h2, h3⟩
      have hne : r ≠ [] := fun e => by rw [e] at h1; simp at h1
      have e := List.dropLast_concat_getLast hne
      have hl := h2 _ (List.getLast_mem hne)
      have hs : r.sum = r.dropLast.sum + r.getLast hne := by
        conv => lhs; rw [← e]
        rw [List.sum_append]; simp
      refine ⟨r.dropLast, (mem_chs (j := j)).mpr ⟨by rw [List.length_dropLast]; omega, fun x hx => h2 x (List.dropLast_subset r hx), by omega⟩, List.mem_map.mpr ⟨(r.getLast hne).toNat, List.mem_range.mpr (by omega), ?_⟩⟩
      rw [Int.toNat_of_nonneg hl]
      exact e
theorem sum_le_len {l : List Nat} {k : Nat} (h : ∀ x ∈ l, x ≤ k) : l.sum ≤ l.length * k := by
  induction l with
  | nil => simp
  | cons a r ih =>
    have h1 := h a List.mem_cons_self
    have h2 := ih fun x hx => h x (List.mem_cons_of_mem _ hx)
    rw [List.sum_cons, List.length_cons, Nat.add_mul]
    omega
theorem nn_sum : ∀ {r : List Int}, (∀ x ∈ r, 0 ≤ x) → 0 ≤ r.sum
  | [], _ => by simp
  | a :: r, h => by
    have h1 := h a List.mem_cons_self
    have h2 := nn_sum (r := r) fun x hx => h x (List.mem_cons_of_mem _ hx)
    rw [List.sum_cons]; omega
theorem ext_len {M : Nat} {r : List Int} (h : ∀ x ∈ r, 0 ≤ x) : (ext M r).length ≤ M + 1 := by
  have := nn_sum h
  unfold ext
  rw [List.length_map, List.length_range]
  omega
theorem chs_len (M : Nat) : ∀ j, (chs M j).length ≤ (M + 1) ^ j
  | 0 => Nat.le_refl 1
  | j + 1 => by
    unfold chs
    rw [List.length_flatMap, Nat.pow_succ]
    have h := sum_le_len (l := (chs M j).map fun r => (ext M r).length) (k := M + 1) fun x hx => by
      obtain ⟨r, hr, rfl⟩ := List.mem_map.mp hx
      exact ext_len (mem_chs.mp hr).2.1
    rw [List.length_map] at h
    exact Nat.le_trans h (Nat.mul_le_mul_right _ (chs_len M j))
theorem flat_len (M j i : Nat) : (((chs M j).take i).flatMap (ext M)).length ≤ (M + 1) ^ (j + 1) := by
  have h : ((chs M j).flatMap (ext M)).length ≤ (M + 1) ^ (j + 1) := chs_len M (j + 1)
  refine Nat.le_trans ?_ h
  conv => rhs; rw [← List.take_append_drop i (chs M j), List.flatMap_append, List.length_append]
  omega
def rowsP : Nat → Nat → List (List Int)
  | 0, _ => [[]]
  | L + 1, M => (List.range (M + 1)).flatMap fun (x : Nat) => (rowsP L (M - x)).map fun r => (x : Int) :: r
theorem fm_congr {α β : Type} {f g : α → List β} : ∀ {l : List α}, (∀ x ∈ l, f x = g x) → l.flatMap f = l.flatMap g
  | [], _ => rfl
  | a :: l, h => by rw [List.flatMap_cons, List.flatMap_cons, h a List.mem_cons_self, fm_congr fun x hx => h x (List.mem_cons_of_mem _ hx)]
theorem ext_cons {M x : Nat} (hx : x ≤ M) (r : List Int) : ext M ((x : Int) :: r) = (ext (M - x) r).map fun s => (x : Int) :: s := by
  unfold ext
  rw [List.sum_cons, List.map_map, show ((M : Int) - ((x : Int) + r.sum) + 1).toNat = (((M - x : Nat) : Int) - r.sum + 1).toNat by omega]
  rfl
theorem chs_rows : ∀ (L M : Nat), chs M L = rowsP L M := by
  have step : ∀ (L M : Nat), chs M (L + 1) = (List.range (M + 1)).flatMap fun (x : Nat) => (chs (M - x) L).map fun r => (x : Int) :: r := by
    intro L
    induction L with
    | zero =>
      intro M
      show [[]].flatMap (ext M) = _
      rw [List.flatMap_cons, List.flatMap_nil, List.append_nil]
      unfold ext
      rw [show ((M : Int) - List.sum [] + 1).toNat = M + 1 by simp]
      induction List.range (M + 1) with
      | nil => rfl
      | cons a l ih => rw [List.map_cons, List.flatMap_cons, ih]; rfl
    | succ L ih =>
      intro M
      show (chs M (L + 1)).flatMap (ext M) = _
      rw [ih M, List.flatMap_assoc]
      refine fm_congr fun x hx => ?_
      have hx' : x ≤ M := by have := List.mem_range.mp hx; omega
      show ((chs (M - x) L).map fun r => (x : Int) :: r).flatMap (ext M) = ((chs (M - x) L).flatMap (ext (M - x))).map fun r => (x : Int) :: r
      rw [List.flatMap_map, List.map_flatMap]
      exact fm_congr fun r _ => ext_cons hx' r
  intro L
  induction L with
  | zero => intro M; rfl
  | succ L ih =>
    intro M
    rw [step L M]
    show _ = (List.range (M + 1)).flatMap fun (x : Nat) => (rowsP L (M - x)).map fun r => (x : Int) :: r
    exact fm_congr fun x _ => by rw [ih (M - x)]
theorem rows_len (L M : Nat) : (rowsP L M).length ≤ (M + 1) ^ L := by
  rw [← chs_rows]
  exact chs_len M L
theorem mem_rows {L M : Nat} {r : List Int} : r ∈ rowsP L M ↔ r.length = L ∧ (∀ x ∈ r, 0 ≤ x) ∧ r.sum ≤ M := by
  rw [← chs_rows]
  exact mem_chs
theorem alk_ints : ∀ r s : List Int, PySem.W.alikeAll (r.map .int) (s.map .int) = true
  | [], s => by cases s <;> rfl
  | a :: r, [] => rfl
  | a :: r, b :: s => by
    rw [List.map_cons, List.map_cons]
    unfold PySem.W.alikeAll
    rw [alk_ints r s]; rfl
section
variable {fu n : Nat} {st : Store}
theorem rows_of_ok (wf : WF st) : ∀ (L M : Nat), L ≤ 4 → M ≤ 10 → lvl T fu (n + L + 1) 0 [.py (.int (L : Nat)), .py (.int (M : Nat))] st = .ok (.py (.list ((rowsP L M).map tI))) st
  | 0, M, _, _ => by
    show runFn (lvl T fu n) fu 2 5 c0 [.py (.int ((0 : Nat) : Int)), .py (.int (M : Nat))] st = _
    refine run_ret (ar := 2) (sl := 5) (b := c0) (ρ := [some (.py (.int 0)), some (.py (.int (M : Nat))), none, none, none]) rfl ?_ (trim_py0 wf)
    unfold c0
    exact st_fl ((s_ift (t_b (e_cmp (e_var rfl) e_con (c_eqI (i := 0) (j := 0))))).trans (st_fl (s_ret (e_li (ps := [.tuple []]) (l_lst (es_cons (e_tup es_nil) es_nil) (show 1 ≤ 16777216 by omega)) rfl)) (fun z => by cases z))) (fun z => by cases z)
  | L + 1, M, hL, hM => by
    have ih := fun M' h => rows_of_ok wf L M' (by omega) h
    show runFn (lvl T fu (n + L + 1)) fu 2 5 c0 [.py (.int ((L + 1 : Nat) : Int)), .py (.int (M : Nat))] st = _
    have hpow : ∀ M', M' ≤ 10 → (rowsP L M').length ≤ 14641 := fun M' h => by
      have h1 := rows_len L M'
      have h2 : (M' + 1) ^ L ≤ 11 ^ L := Nat.pow_le_pow_left (by omega) _
      have h3 : 11 ^ L ≤ 11 ^ 4 := Nat.pow_le_pow_right (by omega) (by omega)
      exact Nat.le_trans h1 (Nat.le_trans h2 (Nat.le_trans h3 (by decide)))
    have t0 : evT (lvl T fu (n + L + 1)) (.v (.cmp .eq (.var 0) (.con (.int 0)))) [some (.py (.int ((L + 1 : Nat) : Int))), some (.py (.int (M : Nat))), none, none, none] st = .ok false st := by
      have h := t_b (e_cmp (Δ := lvl T fu (n + L + 1)) (ρ := [some (.py (.int ((L + 1 : Nat) : Int))), some (.py (.int (M : Nat))), none, none, none]) (st := st) (op := .eq) (e_var (i := 0) rfl) (e_con (p := .int 0)) c_eqI)
      rwa [decide_eq_false (show ¬ ((L + 1 : Nat) : Int) = 0 by omega)] at h
    obtain ⟨ρ', st', e, rfl, rfl⟩ := for_inv (f := fun d ρ st => bindT (.nm 3) st d ρ (exs (lvl T fu (n + L + 1)) fu c0b1)) (fun i ρ' st' => ρ' = [some (.py (.int ((L + 1 : Nat) : Int))), some (.py (.int (M : Nat))), some (.py (.list (((List.range i).flatMap fun (x : Nat) => (rowsP L (M - x)).map fun r => (x : Int) :: r).map tI))), none, none] ∧ st' = st) (rangeD 0 ((M + 1 : Nat) : Int)) 0
      (fun i dd ρ' st' hd hI => by
        rw [Nat.zero_add] at hI ⊢
        obtain ⟨rfl, rfl⟩ := hI
        obtain ⟨hi', rfl⟩ := rangeD_at hd
        have hi : i ≤ M := by omega
        have z : (0 + (i : Int)) = (i : Int) := Int.zero_add _
        rw [z]
        have hflat : ((List.range i).flatMap fun (x : Nat) => (rowsP L (M - x)).map fun r => (x : Int) :: r).length ≤ i * 14641 := by
          rw [List.length_flatMap]
          have h := sum_le_len (l := (List.range i).map fun x => ((rowsP L (M - x)).map fun r => (x : Int) :: r).length) (k := 14641) fun y hy => by
            obtain ⟨x, _, rfl⟩ := List.mem_map.mp hy
            rw [List.length_map]
            exact hpow _ (by omega)
          rwa [List.length_map, List.length_range] at h
        refine ⟨_, _, bind_nm.trans ((st_nx (s_set (i := 2) (d := .py (.list (((List.range (i + 1)).flatMap fun (x : Nat) => (rowsP L (M - x)).map fun r => (x : Int) :: r).map tI))) ?_)).trans (st_drop.trans s_nil)), rfl, rfl⟩
        have hM' : ((M : Nat) : Int) - (i : Int) = ((M - i : Nat) : Int) := by omega
        have hcall : ev (lvl T fu (n + L + 1)) (.call 0 (.cons (.bin .sub (.var 0) (.con (.int 1))) (.cons (.bin .sub (.var 1) (.var 3)) .nil))) [some (.py (.int ((L + 1 : Nat) : Int))), some (.py (.int (M : Nat))), some (.py (.list (((List.range i).flatMap fun (x : Nat) => (rowsP L (M - x)).map fun r => (x : Int) :: r).map tI))), some (.py (.int (i : Nat))), none] st' = .ok (.py (.list ((rowsP L (M - i)).map tI))) st' := by
          refine e_call (es_cons (e_bin (e_var rfl) e_con b_sub) (es_cons (e_bin (e_var rfl) (e_var rfl) b_sub) es_nil)) ?_
          rw [hM', show ((L + 1 : Nat) : Int) - 1 = (L : Int) by omega]
          exact ih (M - i) (by omega)
        refine e_bin (e_var rfl) (e_li (l_lcm (rowsP L (M - i)) (fun r => .py (tI r)) (fun r => .py (tI ((i : Int) :: r))) ((i_e hcall).trans (by rw [List.map_map]; rfl)) (fun r hr => ?_) (Nat.le_trans (hpow _ (by omega)) (by show 14641 ≤ 16777216; omega))) (pysM (fun r : List Int => tI ((i : Int) :: r)) _)) ?_
        · have hlr := (mem_rows.mp hr).1
          exact e_bin (e_tup (es_cons (e_var rfl) es_nil)) (e_var rfl) (b_tadd (x := [.int (i : Nat)]) (y := r.map .int) (by rw [List.length_map]; show 1 + r.length ≤ 16777216; omega))
        · refine (b_ladd ?_).trans ?_
          · rw [List.length_map, List.length_map]
            have := hpow (M - i) (by omega)
            show _ ≤ 16777216
            omega
          · rw [List.range_succ, List.flatMap_append, List.flatMap_cons, List.flatMap_nil, List.append_nil, List.map_append, List.map_map]
            rfl)
      (ρ := [some (.py (.int ((L + 1 : Nat) : Int))), some (.py (.int (M : Nat))), some (.py (.list [])), none, none]) (st := st) ⟨rfl, rfl⟩
    rw [rangeN, Nat.zero_add] at e
    refine run_ret (ar := 2) (sl := 5) (b := c0) (ρ := [some (.py (.int ((L + 1 : Nat) : Int))), some (.py (.int (M : Nat))), some (.py (.list ((rowsP (L + 1) M).map tI))), none, none]) rfl ?_ (trim_py0 wf)
    unfold c0
    exact (st_nx ((s_iff t0).trans s_nil)).trans ((st_nx (s_set (i := 2) (d := .py (.list [])) (e_li (l_lst es_nil (show 0 ≤ 16777216 by omega)) rfl))).trans ((st_nx ((s_for (i_rng (j := ((M + 1 : Nat) : Int)) (e_bin (e_var rfl) e_con b_add) (fitN (by omega)))).trans e)).trans (st_fl (s_ret (e_var rfl)) (fun z => by cases z))))
end
end La
set_option maxHeartbeats 1000000
namespace La
open PySem Ev
def tks : List Int → Int → List (List Int)
  | [], _ => [[]]
  | c :: r, s => (List.range (min c s + 1).toNat).flatMap fun (x : Nat) => (tks r (s - (x : Int))).map fun t => (x : Int) :: t
def wysT (r : List Int) (m : Int) : List (List Int) := (tks r m).filter fun t => decide (t.sum = m)
def wy (r t : List Int) : List Int := (t.zip r).map fun p => p.2 - p.1
def ways (r : List Int) (m : Int) : List (List Int) := (wysT r m).map (wy r)
theorem fm_cut {α : Type} {g : Nat → List α} : ∀ {n k : Nat}, k ≤ n → (∀ x, k ≤ x → x < n → g x = []) → (List.range n).flatMap g = (List.range k).flatMap g
  | 0, k, h, _ => by rw [show k = 0 by omega]
  | n + 1, k, h, hz => by
    by_cases e : k = n + 1
    · rw [e]
    · rw [List.range_succ, List.flatMap_append, List.flatMap_cons, List.flatMap_nil, List.append_nil, hz n (by omega) (by omega), List.append_nil]
      exact fm_cut (by omega) fun x h1 h2 => hz x h1 (by omega)
theorem filter_fm {α β : Type} (p : β → Bool) (f : α → List β) : ∀ l : List α, (l.flatMap f).filter p = l.flatMap fun x => (f x).filter p
  | [] => rfl
  | a :: l => by rw [List.flatMap_cons, List.filter_append, filter_fm p f l, List.flatMap_cons]
theorem filter_cons (p : List Int → Bool) (x : Int) (l : List (List Int)) : (l.map fun t => x :: t).filter p = (l.filter fun t => p (x :: t)).map fun t => x :: t := by
  induction l with
  | nil => rfl
  | cons a l ih =>
    rw [List.map_cons, List.filter_cons, List.filter_cons, ih]
    split <;> rfl
/-- the program's choice of ways is the law's -/
theorem rows_ways : ∀ (r : List Int) (M : Nat), Sk.nn r → (rowsP r.length M).filter (fun t => decide (t.sum = (M : Int)) && (t.zip r).all fun p => decide (p.1 ≤ p.2)) = wysT r M
  | [], M, _ => by
    show ([[]] : List (List Int)).filter _ = ([[]] : List (List Int)).filter _
    refine List.filter_congr fun t ht => ?_
    simp
  | c :: r, M, h => by
    have hc := h c List.mem_cons_self
    show ((List.range (M + 1)).flatMap fun (x : Nat) => (rowsP r.length (M - x)).map fun t => (x : Int) :: t).filter _ = ((List.range (min c (M : Int) + 1).toNat).flatMap fun (x : Nat) => (tks r ((M : Int) - (x : Int))).map fun t => (x : Int) :: t).filter _
    rw [filter_fm, filter_fm]
    rw [fm_cut (k := (min c (M : Int) + 1).toNat) (by omega) fun x h1 h2 => ?_]
    · refine fm_congr fun x hx => ?_
      have hx' := List.mem_range.mp hx
      rw [filter_cons, filter_cons]
      congr 1
      have e := rows_ways r (M - x) (Sk.nn_tail h)
      rw [show ((M : Int) - (x : Int)) = ((M - x : Nat) : Int) by omega]
      unfold wysT at e
      refine Eq.trans ?_ (e.trans ?_)
      · refine List.filter_congr fun t ht => ?_
        rw [List.sum_cons, List.zip_cons_cons, List.all_cons, decide_eq_true (show (x : Int) ≤ c by omega), Bool.true_and]
        congr 1
        exact decide_eq_decide.mpr (by omega)
      · refine List.filter_congr fun t ht => ?_
        rw [List.sum_cons]
        exact decide_eq_decide.mpr (by omega)
    · rw [filter_cons]
      refine List.map_eq_nil_iff.mpr (List.filter_eq_nil_iff.mpr fun t ht => ?_)
      rw [List.zip_cons_cons, List.all_cons, decide_eq_false (show ¬ (x : Int) ≤ c by omega)]
      simp
theorem tks_mem : ∀ {r : List Int} {s : Int} {t : List Int}, 0 ≤ s → Sk.nn r → t ∈ tks r s → t.length = r.length ∧ t.sum ≤ s ∧ ∀ p ∈ t.zip r, 0 ≤ p.1 ∧ p.1 ≤ p.2
  | [], s, t, h0, _, h => by
    cases List.mem_singleton.mp h
    exact ⟨rfl, by simpa using h0, (fun p hp => by cases hp)⟩
  | c :: r, s, t, h0, hn, h => by
    obtain ⟨x, hx, h1⟩ := List.mem_flatMap.mp h
    obtain ⟨t', ht, rfl⟩ := List.mem_map.mp h1
    have hx' := List.mem_range.mp hx
    obtain ⟨k1, k2, k3⟩ := tks_mem (r := r) (s := s - x) (by omega) (Sk.nn_tail hn) ht
    refine ⟨by rw [List.length_cons, List.length_cons, k1], by rw [List.sum_cons]; omega, fun p hp => ?_⟩
    rcases List.mem_cons.mp hp with e | e
    · rw [e]; exact ⟨by show 0 ≤ (x : Int); omega, by show (x : Int) ≤ c; omega⟩
    · exact k3 p e
theorem wy_len {r t : List Int} (h : t.length = r.length) : (wy r t).length = r.length := by
  unfold wy
  rw [List.length_map, List.length_zip]
  omega
theorem wy_facts : ∀ {r t : List Int}, t.length = r.length → (∀ p ∈ t.zip r, 0 ≤ p.1 ∧ p.1 ≤ p.2) → Sk.nn (wy r t) ∧ (wy r t).sum = r.sum - t.sum ∧ ∀ p, Sk.sf (wy r t) p ≤ Sk.sf r p
  | [], [], _, _ => ⟨(fun x hx => by cases hx), rfl, fun p => Int.le_refl _⟩
  | [], _ :: _, h, _ => by cases h
  | _ :: _, [], h, _ => by cases h
  | c :: r, x :: t, h, hp => by
    have hx := hp (x, c) List.mem_cons_self
    obtain ⟨k1, k2, k3⟩ := wy_facts (r := r) (t := t) (Nat.succ.inj h) fun p hq => hp p (List.mem_cons_of_mem _ hq)
    have e : wy (c :: r) (x :: t) = (c - x) :: wy r t := rfl
    have hs : (wy (c :: r) (x :: t)).sum = (c :: r).sum - (x :: t).sum := by rw [e, List.sum_cons, List.sum_cons, List.sum_cons, k2]; omega
    refine ⟨fun y hy => ?_, hs, fun p => ?_⟩
    · rw [e] at hy
      rcases List.mem_cons.mp hy with q | q
      · rw [q]; have := hx.2; simp only at this; omega
      · exact k1 y q
    · cases p with
      | zero =>
        show (wy (c :: r) (x :: t)).sum ≤ (c :: r).sum
        have k0 := k3 0
        rw [Sk.sf_zero, Sk.sf_zero] at k0
        have := hx.1
        simp only at this
        rw [e, List.sum_cons, List.sum_cons]
        omega
      | succ p => exact k3 p
/-- oldest first is better than any way -/
theorem way_bet {r w : List Int} {m : Int} (h0 : 0 ≤ m) (h1 : m ≤ r.sum) (hn : Sk.nn r) (h : w ∈ ways r m) : w.length = r.length ∧ Sk.bet (Sk.isr r m) w := by
  obtain ⟨t, ht, rfl⟩ := List.mem_map.mp h
  obtain ⟨h2, h3⟩ := List.mem_filter.mp ht
  have h3' : t.sum = m := of_decide_eq_true h3
  obtain ⟨k1, _, k3⟩ := tks_mem h0 hn h2
  obtain ⟨f1, f2, f3⟩ := wy_facts k1 k3
  refine ⟨wy_len k1, by rw [Sk.isr_len, wy_len k1], fun p => ?_⟩
  rw [Sk.sf_isr p hn h0 h1]
  have := (Sk.sf_le p f1).2
  have := f3 p
  omega
theorem isr_way : ∀ {r : List Int} {m : Int}, Sk.nn r → 0 ≤ m → m ≤ r.sum → Sk.isr r m ∈ ways r m := by
  have go : ∀ {r : List Int} {m : Int}, Sk.nn r → 0 ≤ m → m ≤ r.sum → ∃ t ∈ tks r m, t.sum = m ∧ wy r t = Sk.isr r m := by
    intro r
    induction r with
    | nil => intro m _ h0 h1; exact ⟨[], List.mem_singleton.mpr rfl, by rw [List.sum_nil] at h1 ⊢; omega, rfl⟩
    | cons c r ih =>
      intro m hn h0 h1
      have hc := hn c List.mem_cons_self
      rw [List.sum_cons] at h1
      obtain ⟨t, t1, t2, t3⟩ := ih (m := m - if m < c then m else c) (Sk.nn_tail hn) (by split <;> omega) (by have := Sk.sum_nn (Sk.nn_tail hn); split <;> omega)
      obtain ⟨x, hx⟩ : ∃ x : Nat, (x : Int) = if m < c then m else c := ⟨(if m < c then m else c).toNat, by split <;> omega⟩
      refine ⟨(x : Int) :: t, List.mem_flatMap.mpr ⟨x, List.mem_range.mpr (by split at hx <;> omega), List.mem_map.mpr ⟨t, by rw [hx]; exact t1, rfl⟩⟩, by rw [List.sum_cons, t2]; omega, ?_⟩
      show (c - (x : Int)) :: wy r t = (c - if m < c then m else c) :: Sk.isr r _
      rw [t3, hx]
  intro r m hn h0 h1
  obtain ⟨t, t1, t2, t3⟩ := go hn h0 h1
  exact List.mem_map.mpr ⟨t, List.mem_filter.mpr ⟨t1, decide_eq_true t2⟩, t3⟩
theorem tks_len : ∀ {r : List Int} {s : Int}, (∀ x ∈ r, x ≤ 2) → (tks r s).length ≤ 3 ^ r.length
  | [], _, _ => Nat.le_refl 1
  | c :: r, s, h => by
    have hc := h c List.mem_cons_self
    show ((List.range (min c s + 1).toNat).flatMap fun (x : Nat) => (tks r (s - (x : Int))).map fun t => (x : Int) :: t).length ≤ 3 ^ (r.length + 1)
    rw [List.length_flatMap]
    have q := sum_le_len (l := (List.range (min c s + 1).toNat).map fun (x : Nat) => ((tks r (s - (x : Int))).map fun t => (x : Int) :: t).length) (k := 3 ^ r.length) fun y hy => by
      obtain ⟨x, _, rfl⟩ := List.mem_map.mp hy
      rw [List.length_map]
      exact tks_len fun z hz => h z (List.mem_cons_of_mem _ hz)
    rw [List.length_map, List.length_range] at q
    have : (min c s + 1).toNat * 3 ^ r.length ≤ 3 * 3 ^ r.length := Nat.mul_le_mul_right _ (by omega)
    rw [Nat.pow_succ]
    omega
theorem ways_len {r : List Int} {m : Int} (h : ∀ x ∈ r, x ≤ 2) : (ways r m).length ≤ 3 ^ r.length := by
  unfold ways wysT
  rw [List.length_map]
  exact Nat.le_trans (List.length_filter_le _ _) (tks_len h)
def stp (F : List (List (List Int))) (q : List Int × Int) : List (List (List Int)) := F.flatMap fun f => (ways q.1 q.2).map fun l => f ++ [l]
def allS (S : List (List Int)) (o : List Int) : List (List (List Int)) := (S.zip o).foldl stp [[]]
def Wy : List (List Int × Int) → List (List Int) → Prop
  | [], [] => True
  | q :: Z, w :: g => w ∈ ways q.1 q.2 ∧ Wy Z g
  | _, _ => False
theorem mem_fold : ∀ {Z : List (List Int × Int)} {F : List (List (List Int))} {f : List (List Int)}, f ∈ Z.foldl stp F ↔ ∃ a ∈ F, ∃ g, Wy Z g ∧ f = a ++ g
  | [], F, f => by
    constructor
    · intro h; exact ⟨f, h, [], trivial, by rw [List.append_nil]⟩
    · rintro ⟨a, ha, g, hg, rfl⟩
      cases g with
      | nil => rw [List.append_nil]; exact ha
      | cons _ _ => exact hg.elim
  | q :: Z, F, f => by
    rw [List.foldl_cons, mem_fold]
    constructor
    · rintro ⟨a, ha, g, hg, rfl⟩
      obtain ⟨b, hb, h2⟩ := List.mem_flatMap.mp ha
      obtain ⟨l, hl, rfl⟩ := List.mem_map.mp h2
      exact ⟨b, hb, l :: g, ⟨hl, hg⟩, by rw [List.append_assoc]; rfl⟩
    · rintro ⟨a, ha, g, hg, rfl⟩
      cases g with
      | nil => exact hg.elim
      | cons l g => exact ⟨a ++ [l], List.mem_flatMap.mpr ⟨a, ha, List.mem_map.mpr ⟨l, hg.1, rfl⟩⟩, g, hg.2, by rw [List.append_assoc]; rfl⟩
theorem mem_all {S : List (List Int)} {o : List Int} {f : List (List Int)} : f ∈ allS S o ↔ Wy (S.zip o) f := by
  unfold allS
  rw [mem_fold]
  constructor
  · rintro ⟨a, ha, g, hg, rfl⟩
    cases List.mem_singleton.mp ha
    exact hg
  · intro h; exact ⟨[], List.mem_singleton.mpr rfl, f, h, rfl⟩
def Zok (Z : List (List Int × Int)) : Prop := ∀ q ∈ Z, Sk.nn q.1 ∧ 0 ≤ q.2 ∧ q.2 ≤ q.1.sum
theorem Zok.tl {q : List Int × Int} {Z : List (List Int × Int)} (h : Zok (q :: Z)) : Zok Z := fun p hp => h p (List.mem_cons_of_mem _ hp)
theorem wy_iss : ∀ {Z : List (List Int × Int)}, Zok Z → Wy Z (Z.map fun q => Sk.isr q.1 q.2)
  | [], _ => trivial
  | q :: Z, h => ⟨isr_way (h q List.mem_cons_self).1 (h q List.mem_cons_self).2.1 (h q List.mem_cons_self).2.2, wy_iss h.tl⟩
theorem wy_len2 : ∀ {Z : List (List Int × Int)} {f : List (List Int)}, Wy Z f → f.length = Z.length
  | [], [], _ => rfl
  | _ :: _, _ :: _, h => congrArg Nat.succ (wy_len2 h.2)
  | [], _ :: _, h => h.elim
  | _ :: _, [], h => h.elim
theorem betB_of {r l : List Int} (h : Sk.bet r l) : betB r l = true := by
  unfold betB
  rw [List.all_eq_true]
  intro p _
  rw [decide_eq_false (show ¬ Sk.sf r p < Sk.sf l p by have := h.2 p; omega)]
  rfl
theorem wy_bet : ∀ {Z : List (List Int × Int)} {f : List (List Int)}, Zok Z → Wy Z f → (((Z.map fun q => Sk.isr q.1 q.2).zip f).all fun q => betB q.1 q.2) = true ∧ ∀ p ∈ Z.zip f, p.2.length = p.1.1.length
  | [], [], _, _ => ⟨rfl, (fun p hp => by cases hp)⟩
  | q :: Z, w :: f, h, hw => by
    have hq := h q List.mem_cons_self
    obtain ⟨k1, k2⟩ := way_bet hq.2.1 hq.2.2 hq.1 hw.1
    obtain ⟨i1, i2⟩ := wy_bet h.tl hw.2
    refine ⟨?_, fun p hp => ?_⟩
    · rw [List.map_cons, List.zip_cons_cons, List.all_cons, i1, betB_of k2]; rfl
    · rcases List.mem_cons.mp hp with e | e
      · rw [e]; exact k1
      · exact i2 p e
  | [], _ :: _, _, h => h.elim
  | _ :: _, [], _, h => h.elim
theorem fold_len {k : Nat} : ∀ {Z : List (List Int × Int)} {F : List (List (List Int))}, (∀ q ∈ Z, (ways q.1 q.2).length ≤ k) → (Z.foldl stp F).length ≤ F.length * k ^ Z.length
  | [], F, _ => by simp
  | q :: Z, F, h => by
    rw [List.foldl_cons]
    have h1 := fold_len (F := stp F q) fun p hp => h p (List.mem_cons_of_mem _ hp)
    have h2 : (stp F q).length ≤ F.length * k := by
      unfold stp
      rw [List.length_flatMap]
      have := sum_le_len (l := F.map fun f => ((ways q.1 q.2).map fun l => f ++ [l]).length) (k := k) fun y hy => by
        obtain ⟨x, _, rfl⟩ := List.mem_map.mp hy
        rw [List.length_map]
        exact h q List.mem_cons_self
      rwa [List.length_map] at this
    refine Nat.le_trans h1 (Nat.le_trans (Nat.mul_le_mul_right _ h2) ?_)
    rw [List.length_cons, Nat.pow_succ, Nat.mul_assoc, Nat.mul_comm k]
    exact Nat.le_refl _
end La
set_option maxHeartbeats 1000000
namespace La
open PySem Ev
theorem e_allZ {Δ : Dn} {ρ : EnvD} {st st1 st' : Store} {j : Nat} {a b : E} {l m : List Int} (h1 : ev Δ a ρ st = .ok (.py (tI l)) st1) (h2 : ev Δ b ρ st1 = .ok (.py (tI m)) st') (ht : st'[j]? = some (.tab j)) : ev Δ (.allZ j a b) ρ st = .ok (.py (.bool ((l.zip m).all fun p => decide (p.1 ≤ p.2)))) st' := by
  unfold ev
  rw [h1, Rs.bind_ok, h2, Rs.bind_ok]
  unfold tI
  simp only [intsOf_map, ht, if_true]
theorem lc_go {α : Type} {f : D → Store → Rs (Option D)} {st : Store} (e g : α → D) : ∀ (l : List α) (acc : List D), (∀ y ∈ l, f (e y) st = .ok (some (g y)) st) → acc.length + l.length ≤ line → lcLoop f acc (l.map e) st = .ok (acc ++ l.map g) st
  | [], acc, _, _ => by rw [List.map_nil, List.map_nil, List.append_nil]; rfl
  | y :: l, acc, h, hl => by
    rw [List.length_cons] at hl
    show (f (e y) st).bind _ = _
    rw [h y List.mem_cons_self, Rs.bind_ok]
    simp only
    rw [if_pos (by omega), lc_go e g l (acc ++ [g y]) (fun z hz => h z (List.mem_cons_of_mem _ hz)) (by rw [List.length_append]; show acc.length + 1 + _ ≤ _; omega), List.append_assoc]
    rfl
theorem l_lc2 {α β : Type} {Δ : Dn} {elt : E} {i j : Nat} {it it1 : It} {ρ : EnvD} {st : Store} (xs : List α) (e : α → D) (ys : α → List β) (e1 : β → D) (g : α → β → D) (hI : evI Δ it ρ st = .ok (xs.map e) st) (hI1 : ∀ x ∈ xs, evI Δ it1 ((wipe ρ [i, j]).set i (some (e x))) st = .ok ((ys x).map e1) st)
    (hE : ∀ x ∈ xs, ∀ y ∈ ys x, ev Δ elt ((wipe ((wipe ρ [i, j]).set i (some (e x))) [j]).set j (some (e1 y))) st = .ok (g x y) st) (hl : (xs.flatMap fun x => (ys x).map (g x)).length ≤ line) : evL Δ (.lc2 elt (.nm i) [i, j] it (.nm j) [j] it1) ρ st = .ok (xs.flatMap fun x => (ys x).map (g x)) st := by
  unfold evL
  rw [hI, Rs.bind_ok]
  have go : ∀ (f : D → List D → Store → Rs (List D)) (zs : List α) (acc : List D), (∀ x ∈ zs, ∀ acc : List D, acc.length + (ys x).length ≤ line → f (e x) acc st = .ok (acc ++ (ys x).map (g x)) st) → acc.length + (zs.flatMap fun x => (ys x).map (g x)).length ≤ line →
      lcOut f acc (zs.map e) st = .ok (acc ++ zs.flatMap fun x => (ys x).map (g x)) st := by
    intro f zs
    induction zs with
    | nil => intro acc _ _; rw [List.flatMap_nil, List.append_nil]; rfl
    | cons x zs ih =>
      intro acc h hl
      rw [List.flatMap_cons, List.length_append, List.length_map] at hl
      rw [List.map_cons]
      show (f (e x) acc st).bind _ = _
      rw [h x List.mem_cons_self acc (by omega), Rs.bind_ok, ih (acc ++ (ys x).map (g x)) (fun z hz => h z (List.mem_cons_of_mem _ hz)) (by rw [List.length_append, List.length_map]; omega), List.flatMap_cons, List.append_assoc]
  refine (go _ xs [] (fun x hx acc hacc => ?_) (by simpa using hl)).trans (by rw [List.nil_append])
  simp only [asg]
  rw [hI1 x hx]
  simp only [Rs.noex_ok, Rs.bind_ok]
  refine lc_go e1 (g x) (ys x) acc (fun y hy => ?_) hacc
  unfold lcTurn
  simp only [asg]
  simp only [Rs.noex_ok, Rs.bind_ok, if_true]
  rw [hE x hx y hy]; rfl
section
variable {fu n : Nat} {st : Store} {S : List (List Int)} {o r : List Int}
theorem app_lastD {st : Store} {l : List D} {z : D} (h : l.length < line) : appD (st ++ [.lst l]) (.ref st.length) z = some (st ++ [.lst (l ++ [z])]) := by
  simp only [appD, get_last]
  rw [if_pos h]
  simp
abbrev oC (R : List (List Int)) : Cell := .lst ((R.map tI).map .py)
theorem o_ref {Δ : Dn} {ρ : EnvD} {i : Nat} {R : List (List Int)} (h : ρ[i]? = some (some (.ref st.length))) : ev Δ (.var i) ρ (st ++ [oC R]) = .ok (.ref st.length) (st ++ [oC R]) := e_ref h (get_last _ _) (by intro p z; cases z)
theorem o_push {Δ : Dn} {ρ : EnvD} {i : Nat} {R : List (List Int)} {e : E} {t : List Int} (h : ρ[i]? = some (some (.ref st.length))) (hl : R.length ≤ 1000000) (he : ev Δ e ρ (st ++ [oC R]) = .ok (.py (tI t)) (st ++ [oC R])) : ex Δ fu (.app (.var i) e) ρ (st ++ [oC R]) = .go .nx ρ (st ++ [oC (R ++ [t])]) := by
  have := s_app (fu := fu) (o_ref h) isLst_last he (app_lastD (show ((R.map tI).map D.py).length < 16777216 by rw [List.length_map, List.length_map]; omega))
  rw [this]
  unfold oC
  rw [List.map_append, List.map_append]
  rfl
theorem wy_ev {Δ : Dn} {t : List Int} {x1 x2 : Option D} (hl : t.length ≤ 1000) : ev Δ (.bi .tuple (.cons (.li (.lc (.bin .sub (.var 5) (.var 4)) (.two (.nm 4) (.nm 5)) [4, 5] (.zip (.var 3) (.var 0)) .yes)) .nil)) [some (.py (tI r)), x1, x2, some (.py (tI t)), none, none] st = .ok (.py (tI (wy r t))) st := by
  have hI : evI Δ (.zip (.var 3) (.var 0)) [some (.py (tI r)), x1, x2, some (.py (tI t)), none, none] st = .ok ((t.zip r).map fun q => mkTup [.py (.int q.1), .py (.int q.2)]) st := by
    rw [i_zip (e_var rfl) (e_var rfl) (fun n z => by cases z) (fun n z => by cases z) seqOf_t seqOf_t, zipD_py, List.zip_map, List.map_map]
    rfl
  have e1 := l_lcm2 (Δ := Δ) (elt := .bin .sub (.var 5) (.var 4)) (i := 4) (j := 5) (t.zip r) (fun q => .py (.int q.1)) (fun q => .py (.int q.2)) (fun q => .py (.int (q.2 - q.1))) hI (fun q _ => rfl) (fun q _ => e_bin (e_var rfl) (e_var rfl) b_sub) (by rw [List.length_zip]; show _ ≤ 16777216; omega)
  refine e_bi (es_cons (e_li e1 (pysM (fun q : Int × Int => PyData.int (q.2 - q.1)) (t.zip r))) es_nil) ?_
  rw [n_tupL]
  unfold tI wy
  rw [List.map_map]
  rfl
abbrev okT (r : List Int) (M : Nat) (t : List Int) : Bool := decide (t.sum = (M : Int)) && (t.zip r).all fun p => decide (p.1 ≤ p.2)
theorem isrs_loop {M : Nat} (ht : st[0]? = some (.tab 0)) (hr : r.length ≤ 4) : ∀ (l acc : List (List Int)), (∀ t ∈ l, t.length ≤ 1000) → acc.length + l.length ≤ 1000000 →
    forLoop (fun d ρ st => bindT (.nm 3) st d ρ (exs (lvl T fu n) fu c5b1)) (l.map fun t => .py (tI t)) [some (.py (tI r)), some (.py (.int (M : Nat))), some (.ref st.length), none, none, none] (st ++ [oC acc]) =
      .go .nx [some (.py (tI r)), some (.py (.int (M : Nat))), some (.ref st.length), none, none, none] (st ++ [oC (acc ++ (l.filter (okT r M)).map (wy r))])
  | [], acc, _, _ => by rw [List.filter_nil, List.map_nil, List.map_nil, List.append_nil]; rfl
  | t :: l, acc, hl, hlen => by
    rw [List.length_cons] at hlen
    have h0 : (st ++ [oC acc])[0]? = some (.tab 0) := by
      rw [List.getElem?_append_left (List.getElem?_eq_some_iff.mp ht).1]; exact ht
    have tt : evT (lvl T fu n) (.and (.v (.cmp .eq (.bi .sum (.cons (.var 3) .nil)) (.var 1))) (.v (.allZ 0 (.var 3) (.var 0)))) [some (.py (tI r)), some (.py (.int (M : Nat))), some (.ref st.length), some (.py (tI t)), none, none] (st ++ [oC acc]) = .ok (okT r M t) (st ++ [oC acc]) :=
      t_and (t_b (e_cmp (e_bi (es_cons (e_var rfl) es_nil) (n_sumT t)) (e_var rfl) c_eqI)) (fun _ => t_b (e_allZ (e_var rfl) (e_var rfl) h0)) (fun _ => rfl)
    have turn : bindT (.nm 3) (st ++ [oC acc]) (.py (tI t)) [some (.py (tI r)), some (.py (.int (M : Nat))), some (.ref st.length), none, none, none] (exs (lvl T fu n) fu c5b1) =
        .go .nx [some (.py (tI r)), some (.py (.int (M : Nat))), some (.ref st.length), none, none, none] (st ++ [oC (acc ++ if okT r M t = true then [wy r t] else [])]) := by
      refine bind_nm.trans ?_
      cases hk : okT r M t with
      | false =>
        rw [hk] at tt
        rw [if_neg Bool.false_ne_true, List.append_nil]
        exact (st_nx ((s_iff tt).trans s_nil)).trans (st_drop.trans s_nil)
      | true =>
        rw [hk] at tt
        rw [if_pos rfl]
        exact (st_nx ((s_ift tt).trans ((st_nx (o_push (i := 2) rfl (by omega) (wy_ev (hl t List.mem_cons_self)))).trans s_nil))).trans (st_drop.trans s_nil)
    rw [List.map_cons]
    show (bindT (.nm 3) (st ++ [oC acc]) (.py (tI t)) _ (exs (lvl T fu n) fu c5b1)).turn _ = _
    rw [turn]
    show forLoop _ (l.map fun t => .py (tI t)) _ _ = _
    rw [isrs_loop ht hr l _ (fun x hx => hl x (List.mem_cons_of_mem _ hx)) (by rw [List.length_append]; split <;> simp <;> omega), List.append_assoc, List.filter_cons]
    split <;> rfl
theorem issued_rows_ok {M : Nat} (wf : WF st) (ht : st[0]? = some (.tab 0)) (hn : Sk.nn r) (hr : r.length ≤ 4) (hM : M ≤ 10) : lvl T fu (n + r.length + 2) 5 [.py (tI r), .py (.int (M : Nat))] st = .ok (.py (.list ((ways r M).map tI))) st := by
  show runFn (lvl T fu (n + r.length + 1)) fu 2 6 c5 [.py (tI r), .py (.int (M : Nat))] st = _
  have w2 : WF (st ++ [oC []]) := WF.app wf rfl
  have s2 : ex (lvl T fu (n + r.length + 1)) fu (.set 2 (.cell (.lst .nil))) [some (.py (tI r)), some (.py (.int (M : Nat))), none, none, none, none] st = .go .nx [some (.py (tI r)), some (.py (.int (M : Nat))), some (.ref st.length), none, none, none] (st ++ [oC []]) := s_set (i := 2) (e_cell (l_lst es_nil (show 0 ≤ 16777216 by omega)))
  have hI : evI (lvl T fu (n + r.length + 1)) (.e (.call 0 (.cons (.bi .len (.cons (.var 0) .nil)) (.cons (.var 1) .nil)))) [some (.py (tI r)), some (.py (.int (M : Nat))), some (.ref st.length), none, none, none] (st ++ [oC []]) = .ok ((rowsP r.length M).map fun t => .py (tI t)) (st ++ [oC []]) := by
    refine (i_e (e_call (es_cons (e_bi (es_cons (e_var rfl) es_nil) len_tI) (es_cons (e_var rfl) es_nil)) (rows_of_ok w2 r.length M hr hM))).trans ?_
    rw [List.map_map]; rfl
  have hlen : (rowsP r.length M).length ≤ 14641 := by
    have h1 := rows_len r.length M
    have h2 : (M + 1) ^ r.length ≤ 11 ^ r.length := Nat.pow_le_pow_left (by omega) _
    have h3 : 11 ^ r.length ≤ 11 ^ 4 := Nat.pow_le_pow_right (by omega) hr
    exact Nat.le_trans h1 (Nat.le_trans h2 (Nat.le_trans h3 (by decide)))
  have e := isrs_loop (fu := fu) (n := n + r.length + 1) (st := st) (r := r) (M := M) ht hr (rowsP r.length M) [] (fun t h => by rw [(mem_rows.mp h).1]; omega) (by simp; omega)
  rw [List.nil_append] at e
  rw [rows_ways r M hn] at e
  refine run_ret (ar := 2) (sl := 6) (b := c5) (ρ := [some (.py (tI r)), some (.py (.int (M : Nat))), some (.ref st.length), none, none, none]) (st' := st ++ [.frz (.list ((ways r M).map tI))]) rfl ?_ (trim_py _ wf)
  unfold c5
  exact (st_nx s2).trans ((st_nx ((s_for hI).trans e)).trans (st_fl (s_ret (e_frz_pys (o_ref rfl))) (fun z => by cases z)))
end
end La
set_option maxHeartbeats 1000000
namespace La
open PySem Ev
theorem alk_rows : ∀ R S : List (List Int), PySem.W.alikeAll (R.map tI) (S.map tI) = true
  | [], S => by cases S <;> rfl
  | a :: R, [] => rfl
  | a :: R, b :: S => by
    rw [List.map_cons, List.map_cons]
    unfold PySem.W.alikeAll
    rw [alk_rows R S, Bool.and_true]
    unfold tI PySem.W.alike
    exact alk_ints a b
theorem shaped_st (R : List (List Int)) : SeqAt.shaped (stD R) = true := by
  have h := shaped_tIs R
  unfold SeqAt.shaped at h ⊢
  exact h
theorem dep_rows : ∀ R : List (List Int), PyData.depthAll (R.map tI) ≤ 1
  | [] => Nat.zero_le _
  | r :: R => by
    show max (tI r).depth (PyData.depthAll (R.map tI)) ≤ 1
    refine Nat.max_le.mpr ⟨?_, dep_rows R⟩
    unfold tI
    simp only [PyData.depth, depthAll_ints]
    exact Nat.le_refl 1
theorem lay_rows (R : List (List Int)) : PyData.canLayAll0 (R.map tI) = true ∧ PyData.depthAll (R.map tI) ≤ 2 := by
  have h := shaped_tIs R
  unfold SeqAt.shaped at h
  exact ⟨(Bool.and_eq_true_iff.mp h).1, by have := dep_rows R; omega⟩
theorem lay_sts : ∀ F : List (List (List Int)), PyData.canLayAll0 (F.map stD) = true ∧ PyData.depthAll (F.map stD) ≤ 3
  | [] => ⟨rfl, by simp [PyData.depthAll]⟩
  | f :: F => by
    obtain ⟨h1, h2⟩ := lay_sts F
    obtain ⟨k1, k2⟩ := lay_rows f
    rw [List.map_cons]
    refine ⟨?_, ?_⟩
    · show ((stD f).canLay0 && PyData.canLayAll0 (F.map stD)) = true
      rw [h1, Bool.and_true]
      exact k1
    · show max (stD f).depth (PyData.depthAll (F.map stD)) ≤ 3
      refine Nat.max_le.mpr ⟨?_, h2⟩
      show PyData.depthAll (f.map tI) + 1 ≤ 3
      omega
theorem shaped_sts (F : List (List (List Int))) : SeqAt.shaped (.list (F.map stD)) = true := by
  obtain ⟨h1, h2⟩ := lay_sts F
  unfold SeqAt.shaped
  rw [Bool.and_eq_true]
  refine ⟨h1, decide_eq_true ?_⟩
  show PyData.depthAll (F.map stD) + 1 ≤ 64
  omega
noncomputable def sF (F : List (List (List Int))) : List PD := if (F.map stD).length < 2 then F.map stD else (F.map stD).mergeSort (PySem.W.dataLe false id)
theorem srt_sts {F : List (List (List Int))} (h : ∀ f ∈ F, 0 < f.length) : srtP (F.map stD) = some (.list (sF F)) := by
  unfold srtP sF
  by_cases hl : (F.map stD).length < 2
  · rw [if_pos hl, if_pos hl]
  rw [if_neg hl, if_neg hl]
  have h1 : alkB (F.map stD) = true := by
    unfold alkB
    rw [List.all_eq_true]
    intro a ha
    obtain ⟨a, _, rfl⟩ := List.mem_map.mp ha
    show (true && _) = true
    rw [Bool.true_and, List.all_eq_true]
    intro b hb
    obtain ⟨b, _, rfl⟩ := List.mem_map.mp hb
    unfold PySem.W.alike
    exact alk_rows a b
  have h2 : srtB (F.map stD) = true := by
    unfold srtB
    refine Bool.or_eq_true_iff.mpr (.inl ?_)
    rw [List.all_eq_true]
    intro a ha
    obtain ⟨a', ha', rfl⟩ := List.mem_map.mp ha
    have := h a' ha'
    cases a' with
    | nil => exact absurd this (Nat.lt_irrefl 0)
    | cons x r => rfl
  have h3 : (F.map stD).all SeqAt.shaped = true := by
    rw [List.all_eq_true]
    intro a ha
    obtain ⟨a, _, rfl⟩ := List.mem_map.mp ha
    exact shaped_st a
  have h4 : PyData.depthAll (F.map stD) ≤ 64 := by
    have := (lay_sts F).2
    omega
  rw [h1, h2, h3, decide_eq_true h4, Bool.and_self, Bool.and_self, Bool.and_self, if_pos rfl]
theorem sF_mem {F : List (List (List Int))} {p : PD} : p ∈ sF F ↔ ∃ f ∈ F, stD f = p := by
  unfold sF
  split
  · exact List.mem_map
  · rw [(List.mergeSort_perm _ _).mem_iff]
    exact List.mem_map
theorem lift_st {P : List (List Int) → Prop} : ∀ {l : List PD}, (∀ p ∈ l, ∃ f, P f ∧ stD f = p) → ∃ G : List (List (List Int)), (∀ g ∈ G, P g) ∧ G.map stD = l
  | [], _ => ⟨[], (fun g hg => by cases hg), rfl⟩
  | p :: l, h => by
    obtain ⟨f, h1, h2⟩ := h p List.mem_cons_self
    obtain ⟨G, h3, h4⟩ := lift_st fun q hq => h q (List.mem_cons_of_mem _ hq)
    refine ⟨f :: G, fun g hg => ?_, by rw [List.map_cons, h2, h4]⟩
    rcases List.mem_cons.mp hg with e | e
    · rw [e]; exact h1
    · exact h3 g e
theorem sF_all (F : List (List (List Int))) : ∃ G : List (List (List Int)), (∀ g ∈ G, g ∈ F) ∧ G.map stD = sF F := lift_st fun p hp => let ⟨f, h1, h2⟩ := sF_mem.mp hp; ⟨f, h1, h2⟩
theorem n_srtS {st : Store} {F : List (List (List Int))} (h : ∀ f ∈ F, 0 < f.length) : bi st .sorted [.py (.list (F.map stD))] = some (.py (.list (sF F))) := by
  show ((Ev.listOf st (.py (.list (F.map stD)))).bind pys).bind (fun l => (srtP l).map D.py) = _
  rw [show Ev.listOf st (.py (.list (F.map stD))) = some ((F.map stD).map D.py) from rfl, Option.bind_some, pys_map, Option.bind_some, srt_sts h]
  rfl
section
variable {fu n : Nat} {st : Store} {S : List (List Int)} {o r : List Int}
abbrev zOk (q : List Int × Int) : Prop := Sk.nn q.1 ∧ q.1.length ≤ 4 ∧ (∀ x ∈ q.1, x ≤ 2) ∧ 0 ≤ q.2 ∧ q.2 ≤ 10
theorem ways3 {q : List Int × Int} (h : zOk q) : (ways q.1 q.2).length ≤ 81 := by
  have h1 := ways_len (r := q.1) (m := q.2) h.2.2.1
  have h2 : 3 ^ q.1.length ≤ 3 ^ 4 := Nat.pow_le_pow_right (by omega) h.2.1
  omega
theorem iss_turn (wf : WF st) (ht : st[0]? = some (.tab 0)) {F : List (List (List Int))} {q : List Int × Int} (hq : zOk q) (hF : F.length ≤ 100000) (hf : ∀ f ∈ F, f.length ≤ 1000) :
    bindT (.two (.nm 3) (.nm 4)) st (mkTup [.py (tI q.1), .py (.int q.2)]) [some (.py (stD S)), some (.py (tI o)), some (.py (.list (F.map stD))), none, none, none, none] (exs (lvl T fu (n + 7)) fu c6b0) =
      .go .nx [some (.py (stD S)), some (.py (tI o)), some (.py (.list ((stp F q).map stD))), none, none, none, none] st := by
  have hb : bindT (.two (.nm 3) (.nm 4)) st (mkTup [.py (tI q.1), .py (.int q.2)]) [some (.py (stD S)), some (.py (tI o)), some (.py (.list (F.map stD))), none, none, none, none] (exs (lvl T fu (n + 7)) fu c6b0) = exs (lvl T fu (n + 7)) fu c6b0 [some (.py (stD S)), some (.py (tI o)), some (.py (.list (F.map stD))), some (.py (tI q.1)), some (.py (.int q.2)), none, none] st := rfl
  rw [hb]
  obtain ⟨M, hM⟩ : ∃ M : Nat, q.2 = (M : Int) := ⟨q.2.toNat, by have := hq.2.2.2.1; omega⟩
  have hM10 : M ≤ 10 := by have := hq.2.2.2.2; omega
  have hcall : ∀ {ρ : EnvD}, ρ[3]? = some (some (.py (tI q.1))) → ρ[4]? = some (some (.py (.int q.2))) → evI (lvl T fu (n + 7)) (.e (.call 5 (.cons (.var 3) (.cons (.var 4) .nil)))) ρ st = .ok ((ways q.1 q.2).map fun l => .py (tI l)) st := fun {ρ} h3 h4 => by
    have e := issued_rows_ok (fu := fu) (n := n + (5 - q.1.length)) (st := st) (r := q.1) (M := M) wf ht hq.1 hq.2.1 hM10
    rw [show n + (5 - q.1.length) + q.1.length + 2 = n + 7 by have := hq.2.1; omega] at e
    rw [← hM] at e
    refine (i_e (e_call (es_cons (e_var h3) (es_cons (e_var h4) es_nil)) e)).trans ?_
    rw [List.map_map]; rfl
  have hlen : (stp F q).length ≤ 8100000 := by
    have := fold_len (k := 81) (Z := [q]) (F := F) fun p hp => by rw [List.mem_singleton.mp hp]; exact ways3 hq
    rw [List.foldl_cons, List.foldl_nil] at this
    show (stp F q).length ≤ 8100000
    simp only [List.length_singleton, Nat.pow_one] at this
    omega
  have hl2 : (F.flatMap fun f => (ways q.1 q.2).map fun l => D.py (stD (f ++ [l]))) = ((stp F q).map stD).map D.py := by
    unfold stp
    rw [List.map_map, List.map_flatMap]
    refine fm_congr fun f _ => ?_
    rw [List.map_map]
    rfl
  have e1 := l_lc2 (Δ := lvl T fu (n + 7)) (elt := .bin .add (.var 5) (.tup (.cons (.var 6) .nil))) (i := 5) (j := 6) (it := .e (.var 2)) (it1 := .e (.call 5 (.cons (.var 3) (.cons (.var 4) .nil)))) (ρ := [some (.py (stD S)), some (.py (tI o)), some (.py (.list (F.map stD))), some (.py (tI q.1)), some (.py (.int q.2)), none, none]) (st := st)
    F (fun f => .py (stD f)) (fun _ => ways q.1 q.2) (fun l => .py (tI l)) (fun f l => .py (stD (f ++ [l]))) ((i_e (l := F.map stD) (e_var rfl)).trans (by rw [List.map_map]; rfl)) (fun f _ => hcall rfl rfl)
    (fun f hfm l _ => e_bin (e_var rfl) (e_tup (es_cons (e_var rfl) es_nil)) (by
      refine (b_tadd (x := f.map tI) (y := [tI l]) (by rw [List.length_map]; have := hf f hfm; show f.length + 1 ≤ 16777216; omega)).trans ?_
      show some (D.py (.tuple (f.map tI ++ [tI l]))) = some (D.py (.tuple ((f ++ [l]).map tI)))
      rw [List.map_append]
      rfl)) (by rw [hl2, List.length_map, List.length_map]; show _ ≤ 16777216; omega)
  rw [hl2] at e1
  exact (st_nx (s_set (i := 2) (e_li e1 (pys_map _)))).trans (st_drop.trans s_nil)
theorem iss_loop (wf : WF st) (ht : st[0]? = some (.tab 0)) : ∀ (Z : List (List Int × Int)) (F : List (List (List Int))), (∀ q ∈ Z, zOk q) → F.length * 81 ^ Z.length ≤ 8100000 → (∀ f ∈ F, f.length + Z.length ≤ 1000) →
    forLoop (fun d ρ st => bindT (.two (.nm 3) (.nm 4)) st d ρ (exs (lvl T fu (n + 7)) fu c6b0)) (Z.map fun q => mkTup [.py (tI q.1), .py (.int q.2)]) [some (.py (stD S)), some (.py (tI o)), some (.py (.list (F.map stD))), none, none, none, none] st =
      .go .nx [some (.py (stD S)), some (.py (tI o)), some (.py (.list ((Z.foldl stp F).map stD))), none, none, none, none] st
  | [], F, _, _, _ => rfl
  | q :: Z, F, hz, hF, hf => by
    rw [List.length_cons, Nat.pow_succ] at hF
    have h81 : 1 ≤ 81 ^ Z.length := Nat.one_le_pow _ _ (by omega)
    have hF1 : F.length ≤ 100000 := by
      have : F.length * 81 ≤ F.length * (81 ^ Z.length * 81) := Nat.mul_le_mul_left _ (by omega)
      omega
    have hs : (stp F q).length ≤ F.length * 81 := by
      have := fold_len (k := 81) (Z := [q]) (F := F) fun p hp => by rw [List.mem_singleton.mp hp]; exact ways3 (hz q List.mem_cons_self)
      simpa using this
    rw [List.map_cons, List.foldl_cons]
    show (bindT (.two (.nm 3) (.nm 4)) st (mkTup [.py (tI q.1), .py (.int q.2)]) _ (exs (lvl T fu (n + 7)) fu c6b0)).turn _ = _
    rw [iss_turn wf ht (hz q List.mem_cons_self) hF1 (fun f h => by have := hf f h; omega)]
    refine iss_loop wf ht Z (stp F q) (fun p hp => hz p (List.mem_cons_of_mem _ hp)) ?_ (fun f h => ?_)
    · refine Nat.le_trans (Nat.mul_le_mul_right _ hs) ?_
      rw [Nat.mul_assoc, Nat.mul_comm 81]
      exact hF
    · obtain ⟨a, ha, h2⟩ := List.mem_flatMap.mp h
      obtain ⟨l, _, rfl⟩ := List.mem_map.mp h2
      have := hf a ha
      rw [List.length_cons] at this
      rw [List.length_append]
      show a.length + 1 + _ ≤ _
      omega
theorem issues_ok (wf : WF st) (ht : st[0]? = some (.tab 0)) (hS1 : 1 ≤ S.length) (hS : S.length ≤ 3) (ho : o.length = S.length) (hz : ∀ q ∈ S.zip o, zOk q) (h : ∀ i, i < S.length → o.getD i 0 ≤ (S.getD i []).sum) :
    lvl T fu (n + 8) 6 [.py (stD S), .py (tI o)] st = .ok (.py (.list (sF (allS S o)))) st := by
  show runFn (lvl T fu (n + 7)) fu 2 7 c6 [.py (stD S), .py (tI o)] st = _
  have s1 := s_expr (fu := fu) (ρ := [some (.py (stD S)), some (.py (tI o)), none, none, none, none, none]) (e_call (f := 3) (es_cons (e_var (i := 0) rfl) (es_cons (e_var (i := 1) rfl) es_nil)) (check_ok (fu := fu) (n := n + 5) (S := S) (o := o) wf (by omega) ho h))
  have hlz : (S.zip o).length = S.length := by rw [List.length_zip]; omega
  have e := iss_loop (fu := fu) (n := n) (S := S) (o := o) wf ht (S.zip o) [[]] hz (by
    rw [hlz]
    have : 81 ^ S.length ≤ 81 ^ 3 := Nat.pow_le_pow_right (by omega) hS
    simp only [List.length_singleton]
    omega) (fun f hf => by rw [List.mem_singleton.mp hf, hlz]; show 0 + _ ≤ _; omega)
  have hlen : ∀ f ∈ allS S o, 0 < f.length := fun f hf => by
    have := wy_len2 (mem_all.mp hf)
    omega
  refine run_ret (ar := 2) (sl := 7) (b := c6) (ρ := [some (.py (stD S)), some (.py (tI o)), some (.py (.list ((allS S o).map stD))), none, none, none, none]) (st' := st) rfl ?_ (trim_py0 wf)
  unfold c6
  exact (st_nx s1).trans ((st_nx (s_set (i := 2) (d := .py (.list [.tuple []])) (e_li (ps := [.tuple []]) (l_lst (es_cons (e_tup es_nil) es_nil) (show 1 ≤ 16777216 by omega)) rfl))).trans ((st_nx ((s_for (i_zipS rfl (e_var rfl))).trans e)).trans (st_fl (s_ret (e_bi (es_cons (e_var rfl) es_nil) (n_srtS hlen))) (fun z => by cases z))))
end
end La
set_option maxHeartbeats 1000000
namespace La
open PySem Ev
def stE (c m : Int) (p : List Int) : List (List Int) := (List.range (min c (m - p.sum) + 1).toNat).map fun (x : Nat) => p ++ [(x : Int)]
theorem fold_tks (m : Int) : ∀ (r : List Int) (P : List (List Int)), r.foldl (fun P c => P.flatMap (stE c m)) P = P.flatMap fun p => (tks r (m - p.sum)).map fun t => p ++ t
  | [], P => by
    rw [List.foldl_nil]
    induction P with
    | nil => rfl
    | cons a P ih => rw [List.flatMap_cons, ← ih]; show a :: P = [a ++ []] ++ P; rw [List.append_nil]; rfl
  | c :: r, P => by
    rw [List.foldl_cons, fold_tks m r, List.flatMap_assoc]
    refine fm_congr fun p _ => ?_
    show (stE c m p).flatMap _ = ((List.range (min c (m - p.sum) + 1).toNat).flatMap fun (x : Nat) => (tks r (m - p.sum - (x : Int))).map fun t => (x : Int) :: t).map fun t => p ++ t
    unfold stE
    rw [List.flatMap_map, List.map_flatMap]
    refine fm_congr fun x _ => ?_
    rw [List.map_map, List.sum_append]
    have e : m - (p.sum + ([(x : Int)] : List Int).sum) = m - p.sum - (x : Int) := by simp; omega
    rw [e]
    refine List.map_congr_left fun t _ => ?_
    show p ++ [(x : Int)] ++ t = p ++ ((x : Int) :: t)
    rw [List.append_assoc]; rfl
theorem stE_len {c m : Int} {p : List Int} (hc : c ≤ 2) : (stE c m p).length ≤ 3 := by
  unfold stE
  rw [List.length_map, List.length_range]
  omega
theorem stP_len {c m : Int} (hc : c ≤ 2) (P : List (List Int)) : (P.flatMap (stE c m)).length ≤ P.length * 3 := by
  rw [List.length_flatMap]
  have := sum_le_len (l := P.map fun p => (stE c m p).length) (k := 3) fun y hy => by
    obtain ⟨x, _, rfl⟩ := List.mem_map.mp hy
    exact stE_len hc
  rwa [List.length_map] at this
section
variable {fu n : Nat} {st : Store} {r : List Int} {m : Int}
abbrev envT (r : List Int) (m : Int) (P : List (List Int)) (d3 d4 : Option D) : EnvD := [some (.py (tI r)), some (.py (.int m)), some (.py (.list (P.map tI))), d3, d4, none, none]
theorem take_in {c : Int} {P0 : List (List Int)} (hc : c ≤ 2) (hc0 : 0 ≤ c) : ∀ (P acc : List (List Int)), acc.length + P.length * 3 ≤ 1000000 → (∀ p ∈ P, p.length ≤ 1000 ∧ p.sum ≤ m) →
    forLoop (fun d ρ st => bindT (.nm 5) st d ρ (exs (lvl T fu n) fu c26b0)) (P.map fun p => .py (tI p)) (envT r m P0 (some (.py (.int c))) (some (.py (.list (acc.map tI))))) st =
      .go .nx (envT r m P0 (some (.py (.int c))) (some (.py (.list ((acc ++ P.flatMap (stE c m)).map tI))))) st
  | [], acc, _, _ => by rw [List.flatMap_nil, List.append_nil]; rfl
  | p :: P, acc, hl, hp => by
    rw [List.length_cons] at hl
    have hs := stE_len (c := c) (m := m) (p := p) hc
    have hpl := (hp p List.mem_cons_self).1
    have hps := (hp p List.mem_cons_self).2
    have turn : bindT (.nm 5) st (.py (tI p)) (envT r m P0 (some (.py (.int c))) (some (.py (.list (acc.map tI))))) (exs (lvl T fu n) fu c26b0) = .go .nx (envT r m P0 (some (.py (.int c))) (some (.py (.list ((acc ++ stE c m p).map tI))))) st := by
      refine bind_nm.trans ?_
      have hI : evI (lvl T fu n) (.rng (.bin .add (.bi .min2 (.cons (.var 3) (.cons (.bin .sub (.var 1) (.bi .sum (.cons (.var 5) .nil))) .nil))) (.con (.int 1)))) [some (.py (tI r)), some (.py (.int m)), some (.py (.list (P0.map tI))), some (.py (.int c)), some (.py (.list (acc.map tI))), some (.py (tI p)), none] st = .ok ((List.range (min c (m - p.sum) + 1).toNat).map fun (i : Nat) => .py (.int i)) st := by
        refine (i_rng (e_bin (e_bi (es_cons (e_var rfl) (es_cons (e_bin (e_var rfl) (e_bi (es_cons (e_var rfl) es_nil) (n_sumT p)) b_sub) es_nil)) n_min2) e_con b_add) (fitZ (by split <;> omega) (by split <;> omega))).trans ?_
        rw [rangeZ, show (if m - p.sum < c then m - p.sum else c) = min c (m - p.sum) by split <;> omega]
      have e1 := l_lcm (Δ := lvl T fu n) (elt := .bin .add (.var 5) (.tup (.cons (.var 6) .nil))) (i := 6) (List.range (min c (m - p.sum) + 1).toNat) (fun (i : Nat) => .py (.int i)) (fun (i : Nat) => .py (tI (p ++ [(i : Int)]))) hI (fun x _ => e_bin (e_var rfl) (e_tup (es_cons (e_var rfl) es_nil)) (by
        refine (b_tadd (x := p.map .int) (y := [.int (x : Nat)]) (by rw [List.length_map]; show p.length + 1 ≤ 16777216; omega)).trans ?_
        unfold tI
        rw [List.map_append]; rfl)) (by rw [List.length_range]; show _ ≤ 16777216; omega)
      refine (st_nx (s_set (i := 4) (e_bin (e_var rfl) (e_li e1 (pysM (fun i : Nat => tI (p ++ [(i : Int)])) _)) ((b_ladd ?_).trans ?_)))).trans (st_drop.trans s_nil)
      · rw [List.length_map, List.length_map, List.length_range]
        show _ ≤ 16777216
        omega
      · unfold stE
        rw [List.map_append, List.map_map]
        rfl
    rw [List.map_cons]
    show (bindT (.nm 5) st (.py (tI p)) _ (exs (lvl T fu n) fu c26b0)).turn _ = _
    rw [turn]
    show forLoop _ (P.map fun p => .py (tI p)) _ _ = _
    rw [take_in hc hc0 P (acc ++ stE c m p) (by rw [List.length_append]; omega) (fun q hq => hp q (List.mem_cons_of_mem _ hq)), List.flatMap_cons, List.append_assoc]
theorem take_out : ∀ (cs : List Int) (P : List (List Int)) , (∀ c ∈ cs, c ≤ 2 ∧ 0 ≤ c) → P.length * 3 ^ cs.length ≤ 1000 → (∀ p ∈ P, p.length + cs.length ≤ 1000 ∧ p.sum ≤ m) →
    forLoop (fun d ρ st => bindT (.nm 3) st d ρ (exs (lvl T fu n) fu c26b1)) (cs.map fun c => .py (.int c)) (envT r m P none none) st =
      .go .nx (envT r m (cs.foldl (fun P c => P.flatMap (stE c m)) P) none none) st
  | [], P, _, _, _ => rfl
  | c :: cs, P, hc, hl, hp => by
    rw [List.length_cons, Nat.pow_succ] at hl
    have h1 : 1 ≤ 3 ^ cs.length := Nat.one_le_pow _ _ (by omega)
    have hPl : P.length ≤ 1000 := by
      have : P.length * 1 ≤ P.length * (3 ^ cs.length * 3) := Nat.mul_le_mul_left _ (by omega)
      omega
    have hs := stP_len (c := c) (m := m) (hc c List.mem_cons_self).1 P
    have e := take_in (fu := fu) (n := n) (st := st) (r := r) (m := m) (P0 := P) (hc c List.mem_cons_self).1 (hc c List.mem_cons_self).2 P [] (by simp; omega) (fun p h => by have := hp p h; omega)
    rw [List.nil_append] at e
    have hI : evI (lvl T fu n) (.e (.var 2)) (envT r m P (some (.py (.int c))) (some (.py (.list [])))) st = .ok (P.map fun p => .py (tI p)) st := (i_e (l := P.map tI) (e_var rfl)).trans (by rw [List.map_map]; rfl)
    have turn : bindT (.nm 3) st (.py (.int c)) (envT r m P none none) (exs (lvl T fu n) fu c26b1) = .go .nx (envT r m (P.flatMap (stE c m)) none none) st :=
      bind_nm.trans ((st_nx (s_set (i := 4) (d := .py (.list [])) (e_li (l_lst es_nil (show 0 ≤ 16777216 by omega)) rfl))).trans ((st_nx ((s_for hI).trans e)).trans ((st_nx (s_set (i := 2) (e_var rfl))).trans (st_drop.trans s_nil))))
    rw [List.map_cons, List.foldl_cons]
    show (bindT (.nm 3) st (.py (.int c)) _ (exs (lvl T fu n) fu c26b1)).turn _ = _
    rw [turn]
    refine take_out cs (P.flatMap (stE c m)) (fun x hx => hc x (List.mem_cons_of_mem _ hx)) ?_ (fun q hq => ?_)
    · refine Nat.le_trans (Nat.mul_le_mul_right _ hs) ?_
      rw [Nat.mul_assoc, Nat.mul_comm 3]
      exact hl
    · obtain ⟨p, h3, h4⟩ := List.mem_flatMap.mp hq
      obtain ⟨x, hx, rfl⟩ := List.mem_map.mp h4
      have hx' := List.mem_range.mp hx
      have := hp p h3
      rw [List.length_cons] at this
      rw [List.length_append, List.sum_append]
      refine ⟨?_, ?_⟩
      · show p.length + 1 + _ ≤ _
        omega
      · simp
        omega
theorem takes_ok (wf : WF st) (hr : r.length ≤ 4) (hm : 0 ≤ m) (hc : ∀ c ∈ r, c ≤ 2 ∧ 0 ≤ c) : lvl T fu (n + 1) 26 [.py (tI r), .py (.int m)] st = .ok (.py (.list ((wysT r m).map tI))) st := by
  show runFn (lvl T fu n) fu 2 7 c26 [.py (tI r), .py (.int m)] st = _
  have e := take_out (fu := fu) (n := n) (st := st) (r := r) (m := m) r [[]] hc (by
    have : 3 ^ r.length ≤ 3 ^ 4 := Nat.pow_le_pow_right (by omega) hr
    simp only [List.length_singleton]
    omega) (fun p hp => by rw [List.mem_singleton.mp hp]; exact ⟨by show 0 + _ ≤ _; omega, by simpa using hm⟩)
  rw [fold_tks] at e
  have e0 : (([[]] : List (List Int)).flatMap fun p => (tks r (m - p.sum)).map fun t => p ++ t) = tks r m := by
    rw [List.flatMap_cons, List.flatMap_nil, List.append_nil]
    rw [show m - ([] : List Int).sum = m by simp]
    exact (List.map_congr_left fun t _ => List.nil_append t).trans (List.map_id _)
  rw [e0] at e
  have hI : evI (lvl T fu n) (.e (.var 0)) (envT r m [[]] none none) st = .ok (r.map fun c => .py (.int c)) st := (i_t (l := r.map .int) (e_var rfl)).trans (by rw [List.map_map]; rfl)
  have hl : (tks r m).length ≤ 81 := Nat.le_trans (tks_len fun x hx => (hc x hx).1) (Nat.pow_le_pow_right (n := 3) (by omega) hr)
  have hI2 : evI (lvl T fu n) (.e (.var 2)) (envT r m (tks r m) none none) st = .ok ((tks r m).map fun p => .py (tI p)) st := (i_e (l := (tks r m).map tI) (e_var rfl)).trans (by rw [List.map_map]; rfl)
  have e3 := l_lcf (Δ := lvl T fu n) (elt := .var 5) (i := 5) (t := .v (.cmp .eq (.bi .sum (.cons (.var 5) .nil)) (.var 1))) (tks r m) (fun p => .py (tI p)) (fun p => .py (tI p)) (fun t => decide (t.sum = m)) hI2 (fun t _ => t_b (e_cmp (e_bi (es_cons (e_var rfl) es_nil) (n_sumT t)) (e_var rfl) c_eqI)) (fun t _ _ => e_var rfl) (by show _ ≤ 16777216; omega)
  refine run_ret (ar := 2) (sl := 7) (b := c26) (ρ := envT r m (tks r m) none none) (st' := st) rfl ?_ (trim_py0 wf)
  unfold c26
  exact (st_nx (s_set (i := 2) (d := .py (.list [.tuple []])) (e_li (ps := [.tuple []]) (l_lst (es_cons (e_tup es_nil) es_nil) (show 1 ≤ 16777216 by omega)) rfl))).trans ((st_nx ((s_for hI).trans e)).trans (st_fl (s_ret (e_li e3 (pysM (fun t : List Int => tI t) _))) (fun z => by cases z)))
end
end La
set_option maxHeartbeats 1000000
namespace La
open PySem Ev
abbrev sC (G : List (List (List Int))) : Cell := .lst ((G.map stD).map .py)
section
variable {fu n : Nat} {st : Store} {S : List (List Int)} {o : List Int} {ns : List Int}
theorem s_ref {Δ : Dn} {ρ : EnvD} {i : Nat} {R : List (List (List Int))} (h : ρ[i]? = some (some (.ref st.length))) : ev Δ (.var i) ρ (st ++ [sC R]) = .ok (.ref st.length) (st ++ [sC R]) := e_ref h (get_last _ _) (by intro p z; cases z)
theorem s_push {Δ : Dn} {ρ : EnvD} {i : Nat} {R : List (List (List Int))} {e : E} {t : List (List Int)} (h : ρ[i]? = some (some (.ref st.length))) (hl : R.length ≤ 1000000) (he : ev Δ e ρ (st ++ [sC R]) = .ok (.py (stD t)) (st ++ [sC R])) : ex Δ fu (.app (.var i) e) ρ (st ++ [sC R]) = .go .nx ρ (st ++ [sC (R ++ [t])]) := by
  have := s_app (fu := fu) (s_ref h) isLst_last he (app_lastD (show ((R.map stD).map D.py).length < 16777216 by rw [List.length_map, List.length_map]; omega))
  rw [this]
  unfold sC
  rw [List.map_append, List.map_append]
  rfl
abbrev envL (ns : List Int) (d2 : Option D) (S : List (List Int)) (o : List Int) (d5 d6 d7 d8 d9 d10 d11 d12 : Option D) : EnvD := [some (.scr ns), some (.ref 1), d2, some (.py (stD S)), some (.py (tI o)), d5, d6, d7, d8, d9, d10, d11, d12, none, none]
theorem wy_range {r t : List Int} (h : t.length = r.length) : ((List.range t.length).map fun k => r.getD k 0 - t.getD k 0) = wy r t := by
  show _ = (t.zip r).map fun p => p.2 - p.1
  refine List.ext_getElem (by rw [List.length_map, List.length_range, List.length_map, List.length_zip]; omega) fun i h1 h2 => ?_
  rw [List.getElem_map, List.getElem_map, List.getElem_range, List.getElem_zip]
  rw [List.length_map, List.length_range] at h1
  rw [List.getD_eq_getElem?_getD, List.getD_eq_getElem?_getD, List.getElem?_eq_getElem (show i < r.length by omega), List.getElem?_eq_getElem h1]
  rfl
/-- one way of a good behind one stock so far -/
theorem due_one {d2 d5 : Option D} {i : Nat} {f : List (List Int)} (hi : i < S.length) (hf : f.length ≤ 1000) {t : List Int} (ht : t.length = (S.getD i []).length) (hl : t.length ≤ 1000) {acc : List (List (List Int))} :
    ev (lvl T fu n) (.bin .add (.var 11) (.tup (.cons (.bi .tuple (.cons (.li (.lc (.bin .sub (.ix (.ix (.var 3) (.var 6)) (.var 14)) (.ix (.var 12) (.var 14))) (.nm 14) [14] (.rng (.bi .len (.cons (.var 12) .nil))) .yes)) .nil)) .nil))) (envL ns d2 S o d5 (some (.py (.int (i : Nat)))) none none none (some (.ref st.length)) (some (.py (stD f))) (some (.py (tI t)))) (st ++ [sC acc]) =
      .ok (.py (stD (f ++ [wy (S.getD i []) t]))) (st ++ [sC acc]) := by
  have hI : evI (lvl T fu n) (.rng (.bi .len (.cons (.var 12) .nil))) (envL ns d2 S o d5 (some (.py (.int (i : Nat)))) none none none (some (.ref st.length)) (some (.py (stD f))) (some (.py (tI t)))) (st ++ [sC acc]) = .ok ((List.range t.length).map fun (k : Nat) => .py (.int k)) (st ++ [sC acc]) := by
    rw [i_rng (j := (t.length : Int)) (e_bi (es_cons (e_var rfl) es_nil) len_tI) (fitN (by omega)), rangeZ, Int.toNat_natCast]
  have e1 := l_lcm (Δ := lvl T fu n) (elt := .bin .sub (.ix (.ix (.var 3) (.var 6)) (.var 14)) (.ix (.var 12) (.var 14))) (i := 14) (List.range t.length) (fun (k : Nat) => .py (.int k)) (fun (k : Nat) => .py (.int ((S.getD i []).getD k 0 - t.getD k 0))) hI (fun k hk => e_bin (e_ix (e_ix (e_var rfl) (e_var rfl) (ixSt hi)) (e_var rfl) (ixTI (by have := List.mem_range.mp hk; omega))) (e_ix (e_var rfl) (e_var rfl) (ixTI (List.mem_range.mp hk))) b_sub) (by rw [List.length_range]; show _ ≤ 16777216; omega)
  have e2 : ev (lvl T fu n) (.bi .tuple (.cons (.li (.lc (.bin .sub (.ix (.ix (.var 3) (.var 6)) (.var 14)) (.ix (.var 12) (.var 14))) (.nm 14) [14] (.rng (.bi .len (.cons (.var 12) .nil))) .yes)) .nil)) (envL ns d2 S o d5 (some (.py (.int (i : Nat)))) none none none (some (.ref st.length)) (some (.py (stD f))) (some (.py (tI t)))) (st ++ [sC acc]) = .ok (.py (tI (wy (S.getD i []) t))) (st ++ [sC acc]) := by
    refine e_bi (es_cons (e_li e1 (pysM (fun k : Nat => PyData.int ((S.getD i []).getD k 0 - t.getD k 0)) _)) es_nil) ?_
    rw [n_tupL, ← wy_range ht]
    unfold tI
    rw [List.map_map]
    rfl
  refine e_bin (e_var rfl) (e_tup (es_cons e2 es_nil)) ?_
  refine (b_tadd (x := f.map tI) (y := [tI (wy (S.getD i []) t)]) (by rw [List.length_map]; show f.length + 1 ≤ 16777216; omega)).trans ?_
  show some (D.py (.tuple (f.map tI ++ [tI (wy (S.getD i []) t)]))) = some (D.py (.tuple ((f ++ [wy (S.getD i []) t]).map tI)))
  rw [List.map_append]
  rfl
theorem due_in {d2 d5 : Option D} {i : Nat} {f : List (List Int)} (hi : i < S.length) (hf : f.length ≤ 1000) : ∀ (W : List (List Int)) (acc : List (List (List Int))), (∀ t ∈ W, t.length = (S.getD i []).length ∧ t.length ≤ 1000) → acc.length + W.length ≤ 1000000 →
    forLoop (fun d ρ st => bindT (.nm 12) st d ρ (exs (lvl T fu n) fu c27b0)) (W.map fun t => .py (tI t)) (envL ns d2 S o d5 (some (.py (.int (i : Nat)))) none none none (some (.ref st.length)) (some (.py (stD f))) none) (st ++ [sC acc]) =
      .go .nx (envL ns d2 S o d5 (some (.py (.int (i : Nat)))) none none none (some (.ref st.length)) (some (.py (stD f))) none) (st ++ [sC (acc ++ W.map fun t => f ++ [wy (S.getD i []) t])])
  | [], acc, _, _ => by rw [List.map_nil, List.map_nil, List.append_nil]; rfl
  | t :: W, acc, hW, hl => by
    rw [List.length_cons] at hl
    have h1 := hW t List.mem_cons_self
    rw [List.map_cons]
    have turn : bindT (.nm 12) (st ++ [sC acc]) (.py (tI t)) (envL ns d2 S o d5 (some (.py (.int (i : Nat)))) none none none (some (.ref st.length)) (some (.py (stD f))) none) (exs (lvl T fu n) fu c27b0) = .go .nx (envL ns d2 S o d5 (some (.py (.int (i : Nat)))) none none none (some (.ref st.length)) (some (.py (stD f))) none) (st ++ [sC (acc ++ [f ++ [wy (S.getD i []) t]])]) :=
      bind_nm.trans ((st_nx (s_push (i := 10) rfl (by omega) (due_one hi hf h1.1 h1.2))).trans (st_drop.trans s_nil))
    show (bindT (.nm 12) (st ++ [sC acc]) (.py (tI t)) _ (exs (lvl T fu n) fu c27b0)).turn _ = _
    rw [turn]
    show forLoop _ (W.map fun t => .py (tI t)) _ _ = _
    rw [due_in hi hf W _ (fun x hx => hW x (List.mem_cons_of_mem _ hx)) (by rw [List.length_append]; show acc.length + 1 + _ ≤ _; omega), List.append_assoc, List.map_cons]
    rfl
theorem due_out {d2 d5 : Option D} {i : Nat} (wf : WF st) (hi : i < S.length) (hio : i < o.length) (hz : zOk (S.getD i [], o.getD i 0)) : ∀ (F acc : List (List (List Int))), (∀ f ∈ F, f.length ≤ 1000) → acc.length + F.length * 81 ≤ 1000000 →
    forLoop (fun d ρ st => bindT (.nm 11) st d ρ (exs (lvl T fu (n + 1)) fu c27b1)) (F.map fun f => .py (stD f)) (envL ns d2 S o d5 (some (.py (.int (i : Nat)))) none none none (some (.ref st.length)) none none) (st ++ [sC acc]) =
      .go .nx (envL ns d2 S o d5 (some (.py (.int (i : Nat)))) none none none (some (.ref st.length)) none none) (st ++ [sC (acc ++ stp F (S.getD i [], o.getD i 0))])
  | [], acc, _, _ => by unfold stp; rw [List.flatMap_nil, List.append_nil]; rfl
  | f :: F, acc, hf, hl => by
    rw [List.length_cons] at hl
    have hw := ways3 hz
    have hw3 : (ways (S.getD i []) (o.getD i 0)).length ≤ 81 := hw
    have hw2 : (wysT (S.getD i []) (o.getD i 0)).length ≤ 81 := by
      unfold ways at hw
      rwa [List.length_map] at hw
    have wf2 : WF (st ++ [sC acc]) := WF.app wf (pys_wf _)
    have hI : evI (lvl T fu (n + 1)) (.e (.call 26 (.cons (.ix (.var 3) (.var 6)) (.cons (.ix (.var 4) (.var 6)) .nil)))) (envL ns d2 S o d5 (some (.py (.int (i : Nat)))) none none none (some (.ref st.length)) (some (.py (stD f))) none) (st ++ [sC acc]) = .ok ((wysT (S.getD i []) (o.getD i 0)).map fun t => .py (tI t)) (st ++ [sC acc]) := by
      refine (i_e (e_call (es_cons (e_ix (e_var rfl) (e_var rfl) (ixSt hi)) (es_cons (e_ix (e_var rfl) (e_var rfl) (ixTI hio)) es_nil)) (takes_ok wf2 hz.2.1 hz.2.2.2.1 fun c hc => ⟨hz.2.2.1 c hc, hz.1 c hc⟩))).trans ?_
      rw [List.map_map]; rfl
    have e := due_in (fu := fu) (n := n + 1) (st := st) (S := S) (o := o) (ns := ns) (d2 := d2) (d5 := d5) hi (hf f List.mem_cons_self) (wysT (S.getD i []) (o.getD i 0)) acc (fun t ht => by
      have := (tks_mem hz.2.2.2.1 hz.1 (List.mem_filter.mp ht).1).1
      have h4 := hz.2.1
      simp only at h4
      exact ⟨this, by omega⟩) (by omega)
    have turn : bindT (.nm 11) (st ++ [sC acc]) (.py (stD f)) (envL ns d2 S o d5 (some (.py (.int (i : Nat)))) none none none (some (.ref st.length)) none none) (exs (lvl T fu (n + 1)) fu c27b1) = .go .nx (envL ns d2 S o d5 (some (.py (.int (i : Nat)))) none none none (some (.ref st.length)) none none) (st ++ [sC (acc ++ (ways (S.getD i []) (o.getD i 0)).map fun l => f ++ [l])]) := by
      have e2 : ((wysT (S.getD i []) (o.getD i 0)).map fun t => f ++ [wy (S.getD i []) t]) = (ways (S.getD i []) (o.getD i 0)).map fun l => f ++ [l] := by
        unfold ways
        rw [List.map_map]; rfl
      rw [e2] at e
      exact bind_nm.trans ((st_nx ((s_for hI).trans e)).trans (st_drop.trans s_nil))
    rw [List.map_cons]
    show (bindT (.nm 11) (st ++ [sC acc]) (.py (stD f)) _ (exs (lvl T fu (n + 1)) fu c27b1)).turn _ = _
    rw [turn]
    show forLoop _ (F.map fun f => .py (stD f)) _ _ = _
    rw [due_out wf hi hio hz F _ (fun x hx => hf x (List.mem_cons_of_mem _ hx)) (by rw [List.length_append, List.length_map]; omega), List.append_assoc]
    unfold stp
    rw [List.flatMap_cons]
theorem due_turn {d2 : Option D} {i : Nat} (wf : WF st) (hi : i < S.length) (hio : i < o.length) (hz : zOk (S.getD i [], o.getD i 0)) {F : List (List (List Int))} (hf : ∀ f ∈ F, f.length ≤ 1000) (hF : F.length ≤ 10000) :
    bindT (.nm 6) st (.py (.int (i : Nat))) (envL ns d2 S o (some (.py (.list (F.map stD)))) none none none none none none none) (exs (lvl T fu (n + 1)) fu c27b2) = .go .nx (envL ns d2 S o (some (.py (.list ((stp F (S.getD i [], o.getD i 0)).map stD)))) none none none none none none none) (st ++ [.frz (.list ((stp F (S.getD i [], o.getD i 0)).map stD))]) := by
  have e := due_out (fu := fu) (n := n) (st := st) (S := S) (o := o) (ns := ns) (d2 := d2) (d5 := some (.py (.list (F.map stD)))) wf hi hio hz F [] hf (by simp; omega)
  rw [List.nil_append] at e
  have hI : evI (lvl T fu (n + 1)) (.e (.var 5)) (envL ns d2 S o (some (.py (.list (F.map stD)))) (some (.py (.int (i : Nat)))) none none none (some (.ref st.length)) none none) (st ++ [sC []]) = .ok (F.map fun f => .py (stD f)) (st ++ [sC []]) := (i_e (l := F.map stD) (e_var rfl)).trans (by rw [List.map_map]; rfl)
  refine bind_nm.trans ((st_nx (s_set (i := 10) (e_cell (l_lst es_nil (show 0 ≤ 16777216 by omega))))).trans ((st_nx ((s_for hI).trans e)).trans ((st_nx (s_set (i := 5) (e_frz_pys (s_ref rfl)))).trans (st_drop.trans s_nil))))
theorem due_all {d2 : Option D} (ho : o.length = S.length) (hz : ∀ i, i < S.length → zOk (S.getD i [], o.getD i 0)) : ∀ (k i : Nat) (st : Store) (F : List (List (List Int))), i + k = S.length → WF st → (∀ f ∈ F, f.length + k ≤ 1000) → F.length * 81 ^ k ≤ 810000 → ∃ Y : Store,
    forLoop (fun d ρ st => bindT (.nm 6) st d ρ (exs (lvl T fu (n + 1)) fu c27b2)) ((List.range' i k).map fun (j : Nat) => .py (.int j)) (envL ns d2 S o (some (.py (.list (F.map stD)))) none none none none none none none) st = .go .nx (envL ns d2 S o (some (.py (.list ((((S.zip o).drop i).foldl stp F).map stD)))) none none none none none none none) (st ++ Y) ∧ WF (st ++ Y)
  | 0, i, st, F, hi, wf, _, _ => ⟨[], by
      rw [List.drop_eq_nil_of_le (by rw [List.length_zip]; omega), List.append_nil]
      exact ⟨rfl, wf⟩⟩
  | k + 1, i, st, F, hi, wf, hf, hF => by
    rw [Nat.pow_succ] at hF
    have h81 : 1 ≤ 81 ^ k := Nat.one_le_pow _ _ (by omega)
    have hF1 : F.length ≤ 10000 := by
      have : F.length * 81 ≤ F.length * (81 ^ k * 81) := Nat.mul_le_mul_left _ (by omega)
      omega
    have hzi := hz i (by omega)
    have hs : (stp F (S.getD i [], o.getD i 0)).length ≤ F.length * 81 := by
      have := fold_len (k := 81) (Z := [(S.getD i [], o.getD i 0)]) (F := F) fun p hp => by rw [List.mem_singleton.mp hp]; exact ways3 hzi
      simpa using this
    have e1 := due_turn (fu := fu) (n := n) (st := st) (S := S) (o := o) (ns := ns) (d2 := d2) wf (show i < S.length by omega) (by omega) hzi (F := F) (fun f h => by have := hf f h; omega) hF1
    obtain ⟨Y, e2, wf2⟩ := due_all (d2 := d2) ho hz k (i + 1) (st ++ [.frz (.list ((stp F (S.getD i [], o.getD i 0)).map stD))]) (stp F (S.getD i [], o.getD i 0)) (by omega) (WF.app wf rfl) (fun f h => by
      obtain ⟨a, ha, h2⟩ := List.mem_flatMap.mp h
      obtain ⟨l, _, rfl⟩ := List.mem_map.mp h2
      have := hf a ha
      rw [List.length_append]
      show a.length + 1 + _ ≤ _
      omega) (by
      refine Nat.le_trans (Nat.mul_le_mul_right _ hs) ?_
      rw [Nat.mul_assoc, Nat.mul_comm 81]
      exact hF)
    refine ⟨.frz (.list ((stp F (S.getD i [], o.getD i 0)).map stD)) :: Y, ?_, by rw [List.append_assoc] at wf2; exact wf2⟩
    rw [List.range'_succ, List.map_cons]
    show (bindT (.nm 6) st (.py (.int (i : Nat))) _ (exs (lvl T fu (n + 1)) fu c27b2)).turn _ = _
    rw [e1]
    show forLoop _ ((List.range' (i + 1) k).map fun (j : Nat) => .py (.int j)) _ _ = _
    rw [e2]
    have hd : (S.zip o).drop i = (S.getD i [], o.getD i 0) :: (S.zip o).drop (i + 1) := by
      have hl : i < (S.zip o).length := by rw [List.length_zip]; omega
      rw [List.drop_eq_getElem_cons hl, List.getElem_zip]
      rw [List.getD_eq_getElem?_getD, List.getD_eq_getElem?_getD, List.getElem?_eq_getElem (show i < S.length by omega), List.getElem?_eq_getElem (show i < o.length by omega)]
      rfl
    rw [hd, List.foldl_cons, List.append_assoc]
    rfl
end
end La
set_option maxHeartbeats 1000000
namespace La
open PySem Ev
theorem t_inst {Δ : Dn} {ρ : EnvD} {st st' : Store} {a : E} {p : PD} {T t : String} {v : Bool} (h : ev Δ a ρ st = .ok (.py p) st') (ht : tyD st' (.py p) = some t) (hk : L2.kitB t T = some v) : evT Δ (.v (.inst T a)) ρ st = .ok v st' := by
  refine t_b ?_
  unfold ev
  rw [h, Rs.bind_ok, ht, Option.bind_some, hk]
theorem eqv_rows : ∀ R : List (List Int), PyData.eqvAll (R.map tI) (R.map tI) = true
  | [] => rfl
  | r :: R => by
    rw [List.map_cons]
    unfold PyData.eqvAll
    rw [eqv_ints, eqv_rows R]
    simp
theorem eqv_st (R : List (List Int)) : PyData.eqv (stD R) (stD R) = true := eqv_rows R
theorem eqv_sts : ∀ G : List (List (List Int)), PyData.eqvAll (G.map stD) (G.map stD) = true
  | [] => rfl
  | g :: G => by
    rw [List.map_cons]
    unfold PyData.eqvAll
    rw [eqv_st, eqv_sts G]
    rfl
theorem c_ne0 {st : Store} {p : PD} (h1 : SeqAt.shaped p = true) (h2 : PyData.eqv p p = true) : cop st .ne (.py p) (.py p) = some false := by
  show (if (SeqAt.shaped p && SeqAt.shaped p) = true then some (!PyData.eqv p p) else none) = _
  rw [h1, h2]; rfl
theorem c_neB {st : Store} {b : Bool} : cop st .ne (.py (.bool b)) (.py (.bool b)) = some false := c_ne0 (by cases b <;> decide) (by cases b <;> rfl)
theorem c_notin {st : Store} {G : List (List (List Int))} {R : List (List Int)} (h : stD R ∈ G.map stD) : cop st .notin (.py (stD R)) (.py (.list (G.map stD))) = some false := by
  show (isinD st (.py (stD R)) (.py (.list (G.map stD)))).map (!·) = _
  have e : isinD st (.py (stD R)) (.py (.list (G.map stD))) = some true := by
    show (match val st (.py (stD R)) with
      | some d => if (SeqAt.shaped d && SeqAt.shaped (.list (G.map stD))) = true then some ((G.map stD).any fun z => PyData.eqv z d) else none
      | none => none) = _
    rw [show val st (.py (stD R)) = some (stD R) from valF_py _ _ _]
    simp only
    rw [shaped_st, shaped_sts, Bool.and_self, if_pos rfl]
    congr 1
    rw [List.any_eq_true]
    exact ⟨_, h, eqv_st R⟩
  rw [e]; rfl
theorem pair_len : ∀ {Z : List (List Int × Int)} {g : List (List Int)}, Zok Z → Wy Z g → (∀ q ∈ Z, q.1.length ≤ 4) → (∀ q ∈ (Z.map fun q => Sk.isr q.1 q.2).zip g, q.1.length = q.2.length ∧ q.1.length ≤ 1000) ∧ ∀ q ∈ g.zip (Z.map fun q => Sk.isr q.1 q.2), q.1.length = q.2.length ∧ q.1.length ≤ 1000
  | [], [], _, _, _ => ⟨(fun q hq => by cases hq), (fun q hq => by cases hq)⟩
  | q :: Z, w :: g, h, hw, hl => by
    have hq := h q List.mem_cons_self
    have h4 := hl q List.mem_cons_self
    obtain ⟨k1, _⟩ := way_bet hq.2.1 hq.2.2 hq.1 hw.1
    obtain ⟨i1, i2⟩ := pair_len h.tl hw.2 fun p hp => hl p (List.mem_cons_of_mem _ hp)
    have e := Sk.isr_len q.1 q.2
    refine ⟨fun p hp => ?_, fun p hp => ?_⟩
    · rw [List.map_cons, List.zip_cons_cons] at hp
      rcases List.mem_cons.mp hp with r | r
      · rw [r]; exact ⟨by show (Sk.isr q.1 q.2).length = w.length; omega, by show (Sk.isr q.1 q.2).length ≤ 1000; omega⟩
      · exact i1 p r
    · rw [List.map_cons, List.zip_cons_cons] at hp
      rcases List.mem_cons.mp hp with r | r
      · rw [r]; exact ⟨by show w.length = (Sk.isr q.1 q.2).length; omega, by show w.length ≤ 1000; omega⟩
      · exact i2 p r
  | [], _ :: _, _, h, _ => h.elim
  | _ :: _, [], _, h, _ => h.elim
theorem sum_le2 : ∀ {r : List Int}, (∀ x ∈ r, x ≤ 2) → r.sum ≤ 2 * (r.length : Int)
  | [], _ => by simp
  | c :: r, h => by
    have h1 := h c List.mem_cons_self
    have h2 := sum_le2 fun x hx => h x (List.mem_cons_of_mem _ hx)
    rw [List.sum_cons, List.length_cons]
    omega
section
variable {fu n : Nat} {ns : List Int}
theorem law_ok : ∃ st, lvl T fu (n + 9) 27 [.scr ns] [.tab 0] = .ok (.py (.bool true)) st := by
  have w0 : WF [Cell.tab 0] := rfl
  obtain ⟨row, ed⟩ := dig_ok (Δ := lvl T fu (n + 7)) (fu := fu) (fc := 8) (N := 63) (st := [.tab 0]) (ns := ns) (by omega) w0 (fun k s ws => by
    show runFn (lvl T fu (n + 6)) fu 2 2 c8 [.scr ns, .py (.int k)] s = _
    exact cell_ok ws)
  have ev0 : ∀ {ρ : EnvD} {s : Store}, ρ[0]? = some (some (.scr ns)) → ev (lvl T fu (n + 8)) (.var 0) ρ s = .ok (.scr ns) s := fun {ρ s} h => by
    unfold ev
    rw [h]
  have s1 : ex (lvl T fu (n + 8)) fu (.set 1 (.cell (.lst (.cons (.call 9 (.cons (.var 0) (.cons (.con (.int 0)) (.cons (.con (.int 63)) .nil)))) (.cons (.con (.int 0)) .nil))))) [some (.scr ns), none, none, none, none, none, none, none, none, none, none, none, none, none, none] [.tab 0] = .go .nx [some (.scr ns), some (.ref 1), none, none, none, none, none, none, none, none, none, none, none, none, none] (BY row 0 []) :=
    s_set (i := 1) (e_cell (st' := [.tab 0]) (l_lst (es_cons (e_call (es_cons (ev0 rfl) (es_cons e_con (es_cons e_con es_nil))) ed) (es_cons e_con es_nil)) (show 2 ≤ 16777216 by omega)))
  have b3 := dv0_bd (row := row) (a := 0) (m := 3) (by omega)
  obtain ⟨g, hg⟩ : ∃ g : Nat, 1 + dv0 row 0 3 = g := ⟨(1 + dv0 row 0 3).toNat, by omega⟩
  have wz : ∀ {a}, WF (BY row a []) := fun {a} => y_wf
  obtain ⟨k, Q, M, w, b, a1, ep, hkl, hP, hq1, hq3, hM1, hM2, hw, hb, hkb⟩ := parts_ok (fu := fu) (n := n + 4) (row := row) (a := 0 + 1) (X := []) wz (g := g) (lo := 3) (by omega) (by omega)
  have s2 : ex (lvl T fu (n + 8)) fu (.set 2 (.call 13 (.cons (.var 1) (.cons (.bin .add (.con (.int 1)) (.call 10 (.cons (.var 1) (.cons (.con (.int 3)) .nil)))) (.cons (.con (.int 3)) .nil))))) [some (.scr ns), some (.ref 1), none, none, none, none, none, none, none, none, none, none, none, none, none] (BY row 0 []) = .go .nx [some (.scr ns), some (.ref 1), some (.py (partsD k Q M w b)), none, none, none, none, none, none, none, none, none, none, none, none] (BY row a1 []) := by
    refine s_set (i := 2) (e_call (es_cons (e_boxY rfl) (es_cons (e_bin e_con (e_drw0 drw (i := 1) rfl e_con wz (by omega)) b_add) (es_cons e_con es_nil))) ?_)
    rw [hg]
    exact ep
  have hk3 : k.length ≤ 3 := by omega
  obtain ⟨S, a2, eS, hS⟩ := stock_ok (fu := fu) (n := n + 6) (row := row) (a := a1) (X := []) (k := k) (Q := Q) (M := M) (w := w) (b := b) wz (m := 2) (by omega) (fun x hx => by have := hkb x hx; omega) (by omega)
  have s3 : ex (lvl T fu (n + 8)) fu (.set 3 (.call 19 (.cons (.var 1) (.cons (.var 2) (.cons (.con (.int 2)) .nil))))) [some (.scr ns), some (.ref 1), some (.py (partsD k Q M w b)), none, none, none, none, none, none, none, none, none, none, none, none] (BY row a1 []) = .go .nx [some (.scr ns), some (.ref 1), some (.py (partsD k Q M w b)), some (.py (stD S)), none, none, none, none, none, none, none, none, none, none, none] (BY row a2 []) := s_set (i := 3) (e_call (es_cons (e_boxY rfl) (es_cons (e_var rfl) (es_cons e_con es_nil))) eS)
  have hSl : S.length = k.length := hS.1
  have hSr : ∀ i, i < S.length → (S.getD i []).length ≤ 3 ∧ Sk.nn (S.getD i []) ∧ ∀ x ∈ S.getD i [], x ≤ 2 := fun i hi => by
    have h1 := hS.2 i (by omega)
    have h2 := hkb (k.getD i 0) (by rw [List.getD_eq_getElem?_getD, List.getElem?_eq_getElem (show i < k.length by omega)]; exact List.getElem_mem _)
    exact ⟨by omega, fun x hx => (h1.2 x hx).1, fun x hx => (h1.2 x hx).2⟩
  have hSm : ∀ r ∈ S, r.length ≤ 3 ∧ Sk.nn r ∧ ∀ x ∈ r, x ≤ 2 := fun r hr => by
    obtain ⟨i, hi, rfl⟩ := List.getElem_of_mem hr
    have h := hSr i hi
    rw [List.getD_eq_getElem?_getD, List.getElem?_eq_getElem hi] at h
    exact h
  -- the order
  have hI4 : evI (lvl T fu (n + 8)) (.e (.var 3)) [some (.scr ns), some (.ref 1), some (.py (partsD k Q M w b)), some (.py (stD S)), none, none, none, none, none, none, none, none, none, none, none] (BY row a2 []) = .ok (S.map fun r => .py (tI r)) (BY row a2 []) := i_st rfl
  obtain ⟨o, st5, e4, ⟨a5, rfl⟩, hol, hor⟩ := lc_ex (f := lcTurn (ev (lvl T fu (n + 8)) (.call 10 (.cons (.var 1) (.cons (.bin .add (.bi .sum (.cons (.var 13) .nil)) (.con (.int 1))) .nil)))) (evT (lvl T fu (n + 8)) .yes) (.nm 13) (wipe [some (.scr ns), some (.ref 1), some (.py (partsD k Q M w b)), some (.py (stD S)), none, none, none, none, none, none, none, none, none, none, none] [13])) (fun r : List Int => D.py (tI r)) (fun y : Int => D.py (.int y)) (fun st => ∃ a, st = BY row a []) (fun r y => 0 ≤ y ∧ y ≤ r.sum) S [] (BY row a2 []) ⟨_, rfl⟩
    (fun r hr st ⟨a', h⟩ => by
      subst h
      have hs := Sk.sum_nn (hSm r hr).2.1
      have bd := dv0_bd (row := row) (a := a') (m := r.sum + 1) (by omega)
      exact ⟨dv0 row a' (r.sum + 1), _, turn_ev (e_drw0 drw (i := 1) rfl (e_bin (e_bi (es_cons (e_var rfl) es_nil) (n_sumT r)) e_con b_add) wz (by omega)), ⟨_, rfl⟩, by omega⟩)
    (by show 0 + S.length ≤ 16777216; omega)
  rw [List.nil_append] at e4
  have s4 : ex (lvl T fu (n + 8)) fu (.set 4 (.bi .tuple (.cons (.li (.lc (.call 10 (.cons (.var 1) (.cons (.bin .add (.bi .sum (.cons (.var 13) .nil)) (.con (.int 1))) .nil))) (.nm 13) [13] (.e (.var 3)) .yes)) .nil))) [some (.scr ns), some (.ref 1), some (.py (partsD k Q M w b)), some (.py (stD S)), none, none, none, none, none, none, none, none, none, none, none] (BY row a2 []) = .go .nx (envL ns (some (.py (partsD k Q M w b))) S o none none none none none none none none) (BY row a5 []) :=
    s_set (i := 4) (e_bi (es_cons (e_li (l_lc hI4 e4) (pysI _)) es_nil) n_tupL)
  have ho : ∀ i, i < S.length → 0 ≤ o.getD i 0 ∧ o.getD i 0 ≤ (S.getD i []).sum := fun i hi => by
    have h1 : S[i]? = some (S.getD i []) := by rw [List.getD_eq_getElem?_getD, List.getElem?_eq_getElem hi]; rfl
    have h2 : o[i]? = some (o.getD i 0) := by rw [List.getD_eq_getElem?_getD, List.getElem?_eq_getElem (show i < o.length by omega)]; rfl
    exact hor i _ _ h1 h2
  have hzi : ∀ i, i < S.length → zOk (S.getD i [], o.getD i 0) := fun i hi => by
    have h1 := hSr i hi
    have h2 := ho i hi
    have h3 := sum_le2 h1.2.2
    exact ⟨h1.2.1, by show (S.getD i []).length ≤ 4; omega, h1.2.2, h2.1, by show o.getD i 0 ≤ 10; omega⟩
  have hzm : ∀ q ∈ S.zip o, ∃ i, i < S.length ∧ q = (S.getD i [], o.getD i 0) := fun q hq => by
    obtain ⟨i, hi, rfl⟩ := List.getElem_of_mem hq
    rw [List.length_zip] at hi
    refine ⟨i, by omega, ?_⟩
    rw [List.getElem_zip, List.getD_eq_getElem?_getD, List.getD_eq_getElem?_getD, List.getElem?_eq_getElem (show i < S.length by omega), List.getElem?_eq_getElem (show i < o.length by omega)]
    rfl
  have hz : ∀ q ∈ S.zip o, zOk q := fun q hq => by
    obtain ⟨i, hi, rfl⟩ := hzm q hq
    exact hzi i hi
  have hZ : Zok (S.zip o) := fun q hq => by
    obtain ⟨i, hi, rfl⟩ := hzm q hq
    exact ⟨(hzi i hi).1, (ho i hi).1, (ho i hi).2⟩
  -- what is due
  obtain ⟨Y, e6, wf6⟩ := due_all (fu := fu) (n := n + 7) (S := S) (o := o) (ns := ns) (d2 := some (.py (partsD k Q M w b))) hol hzi S.length 0 (BY row a5 []) [[]] (by omega) wz (fun f hf => by rw [List.mem_singleton.mp hf]; show 0 + _ ≤ _; omega) (by
    have : 81 ^ S.length ≤ 81 ^ 3 := Nat.pow_le_pow_right (by omega) (by omega)
    simp only [List.length_singleton]
    omega)
  rw [List.drop_zero] at e6
  have hI6 : evI (lvl T fu (n + 8)) (.rng (.bi .len (.cons (.var 3) .nil))) (envL ns (some (.py (partsD k Q M w b))) S o (some (.py (.list [.tuple []]))) none none none none none none none) (BY row a5 []) = .ok ((List.range' 0 S.length).map fun (i : Nat) => .py (.int i)) (BY row a5 []) := by
    have hlen : bi (BY row a5 []) .len [.py (stD S)] = some (.py (.int (S.length : Nat))) := by rw [n_lenT, List.length_map]
    rw [i_rng (j := (S.length : Int)) (e_bi (es_cons (e_var rfl) es_nil) hlen) (fitN (by omega)), rangeZ, Int.toNat_natCast, List.range_eq_range']
  have h06 : (BY row a5 [] ++ Y)[0]? = some (.tab 0) := rfl
  have e7 := issues_ok (fu := fu) (n := n) (st := BY row a5 [] ++ Y) (S := S) (o := o) wf6 h06 (by omega) (by omega) hol hz fun i hi => (ho i hi).2
  obtain ⟨G, hG1, hG2⟩ := sF_all (allS S o)
  have hlen : ∀ f ∈ allS S o, 0 < f.length := fun f hf => by
    have h1 := wy_len2 (mem_all.mp hf)
    rw [List.length_zip] at h1
    omega
  have e9 := issue_ok (fu := fu) (n := n + 5) (st := BY row a5 [] ++ Y) (S := S) (o := o) wf6 (by omega) (fun r hr => by have := (hSm r hr).1; omega) hol fun i hi => (ho i hi).2
  have hI11 : evI (lvl T fu (n + 8)) (.e (.var 7)) (envL ns (some (.py (partsD k Q M w b))) S o (some (.py (.list ((allS S o).map stD)))) none (some (.py (.list (sF (allS S o))))) (some (.py (stD (iss S o)))) none none none none) (BY row a5 [] ++ Y) = .ok (G.map fun g => .py (stD g)) (BY row a5 [] ++ Y) := by
    rw [← hG2]
    exact (i_e (l := G.map stD) (e_var rfl)).trans (by rw [List.map_map]; rfl)
  have t8 : evT (lvl T fu (n + 8)) (.or (.nt (.v (.inst "list" (.var 7)))) (.v (.cmp .ne (.var 7) (.bi .sorted (.cons (.var 5) .nil))))) (envL ns (some (.py (partsD k Q M w b))) S o (some (.py (.list ((allS S o).map stD)))) none (some (.py (.list (sF (allS S o))))) none none none none none) (BY row a5 [] ++ Y) = .ok false (BY row a5 [] ++ Y) := by
    refine t_or (k := false) (k' := false) (t_nt (k := true) (t_inst (t := "list") (e_var rfl) rfl (by decide +kernel))) (fun _ => t_b (e_cmp (e_var rfl) (e_bi (es_cons (e_var rfl) es_nil) (n_srtS hlen)) (c_ne0 ?_ ?_))) (fun z => by cases z)
    · rw [← hG2]; exact shaped_sts G
    · rw [← hG2]; exact eqv_sts G
  have t10 : evT (lvl T fu (n + 8)) (.v (.cmp .notin (.var 8) (.var 7))) (envL ns (some (.py (partsD k Q M w b))) S o (some (.py (.list ((allS S o).map stD)))) none (some (.py (.list (sF (allS S o))))) (some (.py (stD (iss S o)))) none none none none) (BY row a5 [] ++ Y) = .ok false (BY row a5 [] ++ Y) := by
    rw [← hG2]
    refine t_b (e_cmp (e_var rfl) (e_var rfl) (c_notin ?_))
    rw [hG2]
    exact sF_mem.mpr ⟨_, mem_all.mpr (wy_iss hZ), rfl⟩
  obtain ⟨ρ', st', e11, rfl, rfl⟩ := for_inv (f := fun d ρ st => bindT (.nm 9) st d ρ (exs (lvl T fu (n + 8)) fu c27b6)) (fun i ρ' st' => ρ' = envL ns (some (.py (partsD k Q M w b))) S o (some (.py (.list ((allS S o).map stD)))) none (some (.py (.list (sF (allS S o))))) (some (.py (stD (iss S o)))) none none none none ∧ st' = BY row a5 [] ++ Y) (G.map fun g => .py (stD g)) 0
    (fun j d ρ' st' hd hI => by
      obtain ⟨rfl, rfl⟩ := hI
      rw [List.getElem?_map] at hd
      obtain ⟨f, hf, rfl⟩ := Option.map_eq_some_iff.mp hd
      have hW := mem_all.mp (hG1 f (List.mem_of_getElem? hf))
      obtain ⟨p1, p2⟩ := pair_len hZ hW fun q hq => (hz q hq).2.1
      have hb1 : betBs (iss S o) f = true := (wy_bet hZ hW).1
      have c1 := is_better_ok (fu := fu) (n := n + 7) (st := BY row a5 [] ++ Y) (A := iss S o) (B := f) wf6 p1
      rw [hb1] at c1
      have c2 := is_better_ok (fu := fu) (n := n + 7) (st := BY row a5 [] ++ Y) (A := f) (B := iss S o) wf6 p2
      have hfl : f.length = (iss S o).length := by
        have h1 := wy_len2 hW
        unfold iss
        rw [List.length_map]
        exact h1
      have c3 := law_better_ok (fu := fu) (n := n + 7) (st := BY row a5 [] ++ Y) (A := f) (B := iss S o) wf6 hfl (by rw [wy_len2 hW, List.length_zip]; omega) p2
      refine ⟨_, _, bind_nm.trans ((st_nx ((s_iff (t_or (k := false) (k' := false) (t_b (e_isc (k := true) (e_call (es_cons (e_var rfl) (es_cons (e_var rfl) es_nil)) c1) rfl)) (fun _ => t_b (e_cmp (e_call (es_cons (e_var rfl) (es_cons (e_var rfl) es_nil)) c2) (e_call (es_cons (e_var rfl) (es_cons (e_var rfl) es_nil)) c3) c_neB)) (fun z => by cases z))).trans s_nil)).trans (st_drop.trans s_nil)), rfl, rfl⟩)
    (ρ := envL ns (some (.py (partsD k Q M w b))) S o (some (.py (.list ((allS S o).map stD)))) none (some (.py (.list (sF (allS S o))))) (some (.py (stD (iss S o)))) none none none none) (st := BY row a5 [] ++ Y) ⟨rfl, rfl⟩
  refine ⟨_, run_at (ar := 1) (sl := 15) (b := c27) (ds := [.scr ns]) (ρ0 := [some (.scr ns), none, none, none, none, none, none, none, none, none, none, none, none, none, none]) rfl rfl ((st_nx s1).trans ((st_nx s2).trans ((st_nx s3).trans ((st_nx s4).trans ((st_nx (s_set (i := 5) (d := .py (.list [.tuple []])) (e_li (ps := [.tuple []]) (l_lst (es_cons (e_tup es_nil) es_nil) (show 1 ≤ 16777216 by omega)) rfl))).trans ((st_nx ((s_for hI6).trans e6)).trans ((st_nx (s_set (i := 7) (e_call (es_cons (e_var rfl) (es_cons (e_var rfl) es_nil)) e7))).trans ((st_nx ((s_iff t8).trans s_nil)).trans ((st_nx (s_set (i := 8) (e_call (es_cons (e_var rfl) (es_cons (e_var rfl) es_nil)) e9))).trans ((st_nx ((s_iff t10).trans s_nil)).trans ((st_nx ((s_for hI11).trans e11)).trans (st_fl (s_ret e_con) (fun z => by cases z))))))))))))) rfl⟩
end
theorem pure_law (ns : List Int) (h : ns.length ≤ 63) : ∃ fu st, lvl T fu 30 27 [.scr ns] ((List.range ts.length).map Cell.tab) = .ok (.py (.bool true)) st := by
  obtain ⟨st, h⟩ := law_ok (n := 21) (fu := 2000) (ns := ns)
  exact ⟨_, st, h⟩
end La
set_option maxHeartbeats 0
open PySem PySem.W PySem.Calls PyProof.Rows
theorem PySem.Challenge.cw_larderdays_k06_oldest_first_is_best_holds : PySem.Challenge.rw_larderdays_k06_oldest_first_is_best.Holds := by
  w_on; o_law
  refine HandSHeadRun.head_any (r := La.R) (q := view La.R.prog [33]) (H := La.hk) (ob := La.ob) (M := 20000) (loose := La.loose) (d := HandSHeadRun.topDef La.R.prog 33) (kwd := []) La.ob_eq
    (by kernel_rfl) (fun s => by kernel_rfl) La.run (by kernel_rfl) (by kernel_rfl) (by kernel_rfl) (by rfl) (by first | assumption | decide +kernel) (by decide +kernel) ⟨rfl, rfl, rfl, rfl, rfl, by decide +kernel⟩ ?hw ?hc
  case hw => w_witness2
  case hc =>
    exact Ev.walk_law (l := PySem.Challenge.rw_larderdays_k06_oldest_first_is_best) (m := 63) (n := 30) (li := 27) (x := "_law_script") (e := La.T27) (T := La.T) (ds := La.ds) (cs := La.cs) (gs := La.gs) (ts := La.ts) (dl := La.D27) (es := La.es) (file := La.file) (by kernel_rfl) (by kernel_rfl) rfl (by decide) (by kernel_rfl) (by kernel_rfl) rfl rfl ⟨⟨rfl, by decide, by decide⟩, rfl⟩ La.kAll La.cAll (by decide) (by decide) (by decide) La.bAll rfl rfl rfl La.pure_law
